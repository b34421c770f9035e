import PyProof.Rows.All
import Wide.All
import OpenK.AllK
import Wide.FinOn
import HandS.Base
import HandS.Call
import HandS.List
import HandS.Comp
import HandS.Ends
import HandS.Dict
import HandS.Iter
import HandS.Words
import HandS.Evl
import HandS.More
import HandS.Text
import HandS.IsInst
import HandS.Walk
import PyProof.Rows.StrMeet
import HandS.Exc
import HandS.ExcOwn
import HandS.ExcInit
import HandS.WordsExc
import HandS.ExcIs
import HandS.ExcField
import KE.KExcIs
import HandS.RaiseMore
import PySem.Challenge.RW_loopmover_k12_lines_that_are_none
set_option Elab.async false
set_option linter.all false
set_option maxRecDepth 100000
set_option maxHeartbeats 4000000
namespace LM
open PySem PySem.Spec PyProof.Rows L2

/-! ### statements and expressions by what they do, without a derivation -/
def WE (X : Cx) (e : Expr) (σ : L2.St) (H : Hp) (Q : VK) : Prop :=
  ∀ (pins : List (Addr × Obj)) (s : Shared), Inv X pins σ H s → wpAny (model X.prog X.w) X.A (eval e X.env) (EP X pins σ Q) X.xe s
def WT (X : Cx) (e : Expr) (σ : L2.St) (H : Hp) (Q : Bool → Hp → Prop) : Prop :=
  ∀ (pins : List (Addr × Obj)) (s : Shared), Inv X pins σ H s → wpAny (model X.prog X.w) X.A (isTrue e X.env (eval e X.env)) (TP X pins σ Q) X.xe s
def WW (X : Cx) (e : Expr) (σ : L2.St) (H : Hp) (Q : Bool → Hp → Prop) : Prop :=
  ∀ (whole : Sem Value) (pins : List (Addr × Obj)) (s : Shared), Inv X pins σ H s → wpAny (model X.prog X.w) X.A (isTrue e X.env whole) (TP X pins σ Q) X.xe s
def WA (X : Cx) (es : List Expr) (σ : L2.St) (H : Hp) (Q : List V → Hp → Prop) : Prop :=
  ∀ (pos : Pos) (pins : List (Addr × Obj)) (s : Shared), Inv X pins σ H s → wpAny (model X.prog X.w) X.A (spliced (backTo pos (starEach es X.env))) (AP X pins σ Q) X.xe s
def WS (X : Cx) (st : Stmt) (D : Ends) (σ : L2.St) (H : Hp) : Prop :=
  ∀ (pins : List (Addr × Obj)) (s : Shared), Inv X pins σ H s → wpAny (model X.prog X.w) X.A (exec st X.env) (SP X pins D) X.xe s
def WSs (X : Cx) (st : List Stmt) (D : Ends) (σ : L2.St) (H : Hp) : Prop :=
  ∀ (pins : List (Addr × Obj)) (s : Shared), Inv X pins σ H s → wpAny (model X.prog X.w) X.A (execs st X.env) (SP X pins D) X.xe s

section
variable {X : Cx} {e a b c : Expr} {es : List Expr} {σ : L2.St} {H : Hp} {Q : VK} {pos p : Pos} {x : Str}
theorem pe (X : Cx) (e : Expr) : PE X e (WE X e) := ⟨fun pins s σ H Q I h => h pins s I⟩
theorem pt (X : Cx) (e : Expr) : PT X e (WT X e) := ⟨fun pins s σ H Q I h => h pins s I⟩
theorem pw (X : Cx) (e : Expr) : PW X e (WW X e) := ⟨fun wh pins s σ H Q I h => h wh pins s I⟩
theorem pa (X : Cx) (es : List Expr) : PA X es (WA X es) := ⟨fun pos pins s σ H Q I h => h pos pins s I⟩
theorem ps (X : Cx) (st : Stmt) : PS X st (WS X st) := ⟨fun pins s σ H D I h => h pins s I⟩
theorem pss (X : Cx) (st : List Stmt) : PSs X st (WSs X st) := ⟨fun pins s σ H D I h => h pins s I⟩
theorem WE.of {t : TE} (h : PE X e t) (q : t σ H Q) : WE X e σ H Q := fun pins s I => h.run pins s σ H Q I q
theorem WT.of {t : TT} {Q : Bool → Hp → Prop} (h : PT X e t) (q : t σ H Q) : WT X e σ H Q := fun pins s I => h.run pins s σ H Q I q
theorem WA.of {t : TA} {Q : List V → Hp → Prop} (h : PA X es t) (q : t σ H Q) : WA X es σ H Q := fun pos pins s I => h.run pos pins s σ H Q I q
theorem WS.of {t : TS} {st : Stmt} {D : Ends} (h : PS X st t) (q : t D σ H) : WS X st D σ H := fun pins s I => h.run pins s σ H D I q
theorem WSs.of {t : TS} {st : List Stmt} {D : Ends} (h : PSs X st t) (q : t D σ H) : WSs X st D σ H := fun pins s I => h.run pins s σ H D I q
theorem WE.mono {Q' : VK} (h : WE X e σ H Q) (k : ∀ v H', Q v H' → Q' v H') : WE X e σ H Q' := fun pins s I =>
  thn (h pins s I) fun _ _ ⟨v, H', J, r, q⟩ => ⟨v, H', J, r, k v H' q⟩
theorem WT.mono {Q Q' : Bool → Hp → Prop} (h : WT X e σ H Q) (k : ∀ v H', Q v H' → Q' v H') : WT X e σ H Q' := fun pins s I =>
  thn (h pins s I) fun _ _ ⟨H', J, q⟩ => ⟨H', J, k _ H' q⟩
/-- weaker ends -/
theorem WSs.mono {st : List Stmt} {D D' : Ends} (h : WSs X st D σ H) (h1 : ∀ σ H, D.nx σ H → D'.nx σ H) (h2 : ∀ v H, D.rt v H → D'.rt v H) (h3 : ∀ σ H, D.bk σ H → D'.bk σ H) (h4 : ∀ σ H, D.ct σ H → D'.ct σ H) : WSs X st D' σ H := fun pins s I =>
  thn (h pins s I) fun f s' q => by
    cases f with
    | next => obtain ⟨σ', H', J, q⟩ := q; exact ⟨σ', H', J, h1 _ _ q⟩
    | brk => obtain ⟨σ', H', J, q⟩ := q; exact ⟨σ', H', J, h3 _ _ q⟩
    | cont => obtain ⟨σ', H', J, q⟩ := q; exact ⟨σ', H', J, h4 _ _ q⟩
    | ret u => obtain ⟨v, σ', H', J, r, q⟩ := q; exact ⟨v, σ', H', J, r, h2 _ _ q⟩

/-! ### names by their places -/
inductive At : List Str → L2.St → Str → V → Prop where
  | here {x : Str} {l : List Str} {v : V} {σ : L2.St} : At (x :: l) (some v :: σ) x v
  | there {x y : Str} {l : List Str} {v : V} {o : Option V} {σ : L2.St} (h : At l σ x v) : At (y :: l) (o :: σ) x v
theorem At.ix {l : List Str} {σ : L2.St} {x : Str} {v : V} (h : At l σ x v) : ∃ i : Nat, l[i]? = some x ∧ σ[i]? = some (some v) := by
  induction h with
  | here => exact ⟨0, rfl, rfl⟩
  | there _ ih => obtain ⟨i, h1, h2⟩ := ih; exact ⟨i + 1, by simpa using h1, by simpa using h2⟩
/-- behind a store -/
inductive Put : List Str → L2.St → Str → V → L2.St → Prop where
  | here {x : Str} {l : List Str} {v : V} {o : Option V} {σ : L2.St} : Put (x :: l) (o :: σ) x v (some v :: σ)
  | there {x y : Str} {l : List Str} {v : V} {o : Option V} {σ σ' : L2.St} (h : Put l σ x v σ') : Put (y :: l) (o :: σ) x v (o :: σ')
theorem Put.ix {l : List Str} {σ σ' : L2.St} {x : Str} {v : V} (h : Put l σ x v σ') : ∃ i : Nat, l[i]? = some x ∧ σ' = σ.set i (some v) := by
  induction h with
  | here => exact ⟨0, rfl, rfl⟩
  | there _ ih => obtain ⟨i, h1, h2⟩ := ih; exact ⟨i + 1, by simpa using h1, by simp [h2]⟩
end

/-! ### the context of a body, told apart -/
/-- N: the names by slots; L: those that are stored; V: those that are read; G: the global names that are read -/
structure Fr (X : Cx) (N L V G : List Str) : Prop where
  n : X.N = N
  nd : N.Nodup
  vis : ∀ x ∈ V, Vis X.env.scope x
  loc : ∀ x ∈ L, Loc X.env.scope x ∧ (X.fn x = true ∨ X.env.scope.names.lookup x = some .local)
  gl : ∀ x ∈ G, Gl X x
  nodbg : ∀ x ∈ N ++ G, (x == ("__debug__" : Str)) = false ∧ (x == ("__classdict__" : Str)) = false ∧ x ≠ "__name__"
  calm : X.calm = true
  own : PassesOwn (model X.prog X.w) X.A X.env X.xe
/-- a def's own scope, looked at once: N the slots (the names of its comprehensions too), L its own names, G the global ones -/
def scB (sc : Scope) (N L G : List Str) : Bool := L.all (fun x => match sc.names.lookup x with | some .local => true | some .cell => true | _ => false) && G.all (fun x => match sc.names.lookup x with | some .globalImplicit => true | _ => false)
  && (N ++ G).all fun x => !(x == ("__debug__" : Str)) && !(x == ("__classdict__" : Str)) && !decide (x = "__name__")
theorem scB_loc {sc : Scope} {N L G : List Str} (h : scB sc N L G = true) : ∀ x ∈ L, sc.names.lookup x = some .local ∨ sc.names.lookup x = some .cell := fun x hx => by
  unfold scB at h
  rw [Bool.and_eq_true, Bool.and_eq_true, List.all_eq_true, List.all_eq_true] at h
  have q := h.1.1 x hx
  split at q <;> first | exact .inl (by assumption) | exact .inr (by assumption) | cases q
theorem scB_gl {sc : Scope} {N L G : List Str} (h : scB sc N L G = true) : ∀ x ∈ G, sc.names.lookup x = some .globalImplicit := fun x hx => by
  unfold scB at h
  rw [Bool.and_eq_true, Bool.and_eq_true, List.all_eq_true, List.all_eq_true] at h
  have q := h.1.2 x hx
  split at q <;> first | assumption | cases q
theorem scB_nodbg {sc : Scope} {N L G : List Str} (h : scB sc N L G = true) : ∀ x ∈ N ++ G, (x == ("__debug__" : Str)) = false ∧ (x == ("__classdict__" : Str)) = false ∧ x ≠ "__name__" := fun x hx => by
  unfold scB at h
  rw [Bool.and_eq_true, List.all_eq_true] at h
  have q := h.2 x hx
  rw [Bool.and_eq_true, Bool.and_eq_true, Bool.not_eq_true', Bool.not_eq_true', Bool.not_eq_true', decide_eq_false_iff_not] at q
  exact ⟨q.1.1, q.1.2, q.2⟩

/-! ### defs: a def of the text, what it promises -/
/-- the def of this name stands in the module as the text says -/
def Def (K : PySem.W.Frag) (mg : Str → Option Value) (x : Str) (st : Stmt) (ps : List Str) : Prop :=
  ∃ f fd, Fun K x x st f fd ∧ mg x = some (.ref f) ∧ Binds K fd ps []
/-- it keeps a promise -/
def CallOk (P : Program) (w : World) (K : PySem.W.Frag) (mg : Str → Option Value) (base : Heap) (k : Nat) (x : Str) (ps : List Str) (sp : Sp) : Prop :=
  ∃ f fd, FnOk P w K mg base CX0 k f fd ps sp ∧ mg x = some (.ref f) ∧ PySem.W.keepIn K (.ref f) = true ∧ Binds K fd ps []
theorem CallOk.mono {P : Program} {w : World} {K : PySem.W.Frag} {mg : Str → Option Value} {base : Heap} {j k : Nat} {x : Str} {ps : List Str} {sp : Sp} (c : CallOk P w K mg base j x ps sp) (h : j ≤ k) : CallOk P w K mg base k x ps sp :=
  let ⟨f, fd, F, m, kp, b⟩ := c
  ⟨f, fd, F.mono h, m, kp, b⟩
/-- THE RULE: a def keeps its promise if its body does, run at the parameters' values -/
theorem Fun.okW {P : Program} {w : World} {K : PySem.W.Frag} {mg : Str → Option Value} {base : Heap} {x : Str} {st : Stmt} {f : Addr} {fd : FuncData} {N L ps G : List Str} {k : Nat} {sp : Sp} (F : Fun K x x st f fd) (S : FnScope N ps (defScope st)) (B : scB (defScope st) N L G = true)
    (len : ∀ vs H Q E, sp vs H Q E → vs.length = ps.length)
    (hbody : ∀ X : Cx, X.prog = P → X.w = w → X.K = K → X.mg = mg → X.base = base → Fr X N L L G → X.env.scope = defScope st → Room k X.A → ∀ (vs : List V) (H : Hp) (Q : VK) (E : XK), sp vs H Q E → WSs X (defBody st) { nx := fun _ H' => Q .non H', rt := Q } (start N vs) H) :
    FnOk P w K mg base CX0 (k + 1) f fd ps sp := by
  refine F.ok S len fun cdv A outer s H vs Q E hr h => ?_
  refine ⟨_, pss _ _, hbody _ rfl rfl rfl rfl rfl ⟨rfl, S.nd, fun y hy => ?_, fun y hy => ?_, fun y hy => ?_, scB_nodbg B, rfl, PassesOwn.never⟩ rfl hr vs H Q E h⟩
  · rcases scB_loc B y hy with q | q
    · exact .inl q
    · exact .inr (.inl q)
  · exact ⟨scB_loc B y hy, .inl rfl⟩
  · exact scB_gl B y hy
theorem Def.ok {P : Program} {w : World} {K : PySem.W.Frag} {mg : Str → Option Value} {base : Heap} {x : Str} {st : Stmt} {N L ps G : List Str} {k : Nat} {sp : Sp} (F : Def K mg x st ps) (S : FnScope N ps (defScope st)) (B : scB (defScope st) N L G = true)
    (len : ∀ vs H Q E, sp vs H Q E → vs.length = ps.length)
    (hbody : ∀ X : Cx, X.prog = P → X.w = w → X.K = K → X.mg = mg → X.base = base → Fr X N L L G → X.env.scope = defScope st → Room k X.A → ∀ (vs : List V) (H : Hp) (Q : VK) (E : XK), sp vs H Q E → WSs X (defBody st) { nx := fun _ H' => Q .non H', rt := Q } (start N vs) H) :
    CallOk P w K mg base (k + 1) x ps sp := by
  obtain ⟨f, fd, F, m, b⟩ := F
  exact ⟨f, fd, Fun.okW F S B len hbody, m, F.kp, b⟩

section
variable {X : Cx} {N L Vs G : List Str} {e a b c : Expr} {es : List Expr} {σ : L2.St} {H : Hp} {Q : VK} {pos p : Pos} {x : Str} {v : V}
/-! ### expressions -/
theorem w_name (C : Fr X N L Vs G) (h : At N σ x v) (hx : x ∈ Vs) (q : Q v H) : WE X (.Name x pos) σ H Q := by
  obtain ⟨i, h1, h2⟩ := h.ix
  have d := C.nodbg x (List.mem_append_left _ (List.mem_of_getElem? h1))
  exact .of (pe_var (i := i) (by rw [C.n]; exact h1) (C.vis x hx) d.1 d.2.1) ⟨v, h2, q⟩
theorem w_glob {u : Value} (C : Fr X N L Vs G) (hx : x ∈ G) (hm : X.mg x = some u) (r : RelV v u) (q : Q v H) : WE X (.Name x pos) σ H Q :=
  .of (pe_glob (C.gl x hx) hm r (C.nodbg x (List.mem_append_right _ hx)).1) q
theorem w_int {i : Int} {j} (q : Q (.int i) H) : WE X (.Constant (.int i) j pos) σ H Q := .of pe_int q
theorem w_bl {i : Bool} {j} (q : Q (.bl i) H) : WE X (.Constant (.bool i) j pos) σ H Q := .of pe_bl q
theorem w_non {j} (q : Q .non H) : WE X (.Constant .none j pos) σ H Q := .of pe_non q
theorem w_str {i : Str} {j} (q : Q (.str i) H) : WE X (.Constant (.str i) j pos) σ H Q := .of pe_str q

/-- two values and an operator -/
def WB (X : Cx) (op : Operator) (x y : V) (H : Hp) (Q : VK) : Prop := ∃ r, OpR X (binaryOp op) r ∧ r x y H Q
def WC (X : Cx) (op : CmpOp) (x y : V) (H : Hp) (Q : VK) : Prop := ∃ r, OpR X (compareOp op) r ∧ r x y H Q
theorem w_op {op : Operator} (h : WE X a σ H fun x H1 => WE X b σ H1 fun y H2 => WB X op x y H2 Q) : WE X (.BinOp a op b pos) σ H Q := fun pins s I => by
  have go : PE X (.BinOp a op b pos) (fun σ H Q => WE X a σ H fun x H1 => WE X b σ H1 fun y H2 => WB X op x y H2 Q) :=
    pe_op (r := fun x y H Q => WB X op x y H Q) (fun pins s σ H x y v u Q I rx ry ⟨r, o, q⟩ => o pins s σ H x y v u Q I rx ry q) (pe X a) (pe X b)
  exact go.run pins s σ H Q I h
theorem w_cmp {op : CmpOp} (hm : behindInMarks op b = false) (h : WE X a σ H fun x H1 => WE X b σ H1 fun y H2 => WC X op x y H2 Q) : WE X (.Compare a [op] [b] pos) σ H Q := fun pins s I => by
  have go : PE X (.Compare a [op] [b] pos) (fun σ H Q => WE X a σ H fun x H1 => WE X b σ H1 fun y H2 => WC X op x y H2 Q) :=
    pe_cmpR (r := fun x y H Q => WC X op x y H Q) (fun pins s σ H x y v u Q I rx ry ⟨r, o, q⟩ => o pins s σ H x y v u Q I rx ry q) (pe X a) (pe X b) hm
  exact go.run pins s σ H Q I h
theorem t_cmp {op : CmpOp} {Q : Bool → Hp → Prop} (hm : behindInMarks op b = false) (h : WE X a σ H fun x H1 => WE X b σ H1 fun y H2 => WC X op x y H2 fun z H3 => ∃ k, z = .bl k ∧ Q k H3) : WT X (.Compare a [op] [b] pos) σ H Q := fun pins s I => by
  have go : PT X (.Compare a [op] [b] pos) (tTest fun σ H Q => WE X a σ H fun x H1 => WE X b σ H1 fun y H2 => WC X op x y H2 Q) :=
    pt_cmpR (r := fun x y H Q => WC X op x y H Q) (fun pins s σ H x y v u Q I rx ry ⟨r, o, q⟩ => o pins s σ H x y v u Q I rx ry q) (pe X a) (pe X b) hm
  exact go.run pins s σ H Q I h
end
end LM
namespace LM
open PySem PySem.Spec PyProof.Rows L2
/-! ### values: dicts by the same words as lists -/
theorem op_inD {X : Cx} (hu : X.A.units + 1 < cLine) : OpR X (compareOp .In) (fun y x H Q => ∃ a o, x = .ref a ∧ DGet H a y o ∧ Q (.bl o.isSome) H) := by
  intro pins s σ H y x u v Q I ry rx h
  obtain ⟨a, o, ex, g, q⟩ := h
  subst ex
  obtain rfl : v = Value.ref a := rx
  exact d_in hu I g ry fun s2 I2 => ⟨.bl o.isSome, H, I2, rfl, q⟩
theorem op_notInD {X : Cx} (hu : X.A.units + 1 < cLine) : OpR X (compareOp .NotIn) (fun y x H Q => ∃ a o, x = .ref a ∧ DGet H a y o ∧ Q (.bl (!o.isSome)) H) := by
  intro pins s σ H y x u v Q I ry rx h
  obtain ⟨a, o, ex, g, q⟩ := h
  subst ex
  obtain rfl : v = Value.ref a := rx
  exact d_notIn hu I g ry fun s2 I2 => ⟨.bl (!o.isSome), H, I2, rfl, q⟩
theorem set_dict {X : Cx} (hu : X.A.units + 1 < cLine) : PSet X (fun o i v H Q => ∃ a H4, o = .ref a ∧ DPut H a i v H4 ∧ Q H4) := by
  intro pins s σ H o i v ov iv u Q I ro ri rv h
  obtain ⟨a, H4, ex, g, q⟩ := h
  subst ex
  obtain rfl : ov = Value.ref a := ro
  exact d_setItem hu I g ri rv fun s4 I4 => ⟨H4, I4, q⟩

theorem same_new {H : Hp} {p : Addr} {o : HO} (h : H p = none) : Same H (upd H p o) := fun b u q => by rw [upd_ne (ne_of_none q h)]; exact q
section
variable {X : Cx} {N L Vs G : List Str} {e a b c d : Expr} {es : List Expr} {σ : L2.St} {H : Hp} {Q : VK} {pos p apos cpos : Pos} {x : Str} {v : V}
/-! ### subscripts -/
def WI (X : Cx) (x y : V) (H : Hp) (Q : VK) : Prop := ∃ r, IxR X r ∧ r x y H Q
theorem w_ix (hs : PlainIx b) (h : WE X a σ H fun x H1 => WE X b σ H1 fun y H2 => WI X x y H2 Q) : WE X (.Subscript a b pos) σ H Q := fun pins s I => by
  have go : PE X (.Subscript a b pos) (tOp (fun x y H Q => WI X x y H Q) (WE X a) (WE X b)) :=
    pe_ix (fun value slice pins s σ H x y v u Q I rx ry ⟨r, o, q⟩ hs => o value slice pins s σ H x y v u Q I rx ry q hs) (pe X a) (pe X b) hs
  exact go.run pins s σ H Q I h
theorem i_lst {p : Addr} {xs : List V} {i : Int} (h : SqL X.K H p xs) (e : atI xs i = some v) (q : Q v H) : WI X (.ref p) (.int i) H Q := ⟨_, ix_list, p, xs, i, v, rfl, rfl, h, e, q⟩
theorem i_tup {p : Addr} {xs : List V} {i : Int} (h : SqT X.K H p xs) (e : atI xs i = some v) (q : Q v H) : WI X (.ref p) (.int i) H Q := ⟨_, ix_tup, p, xs, i, v, rfl, rfl, h, e, q⟩
theorem i_str {z : Str} {i : Int} {c : Nat} (hz : z.length ≤ sizeLine) (e : atI z.cps.toList i = some c) (q : Q (.str ⟨#[c]⟩) H) : WI X (.str z) (.int i) H Q := ⟨_, ix_str, z, i, c, rfl, rfl, hz, e, q⟩
/-- d[key] -/
theorem w_dix (hu : X.A.units + 1 < cLine) (hs : NoSl b) (h : WE X a σ H fun x H1 => WE X b σ H1 fun y H2 => ∃ l v, x = .ref l ∧ DGet H2 l y (some v) ∧ Q v H2) : WE X (.Subscript a b pos) σ H Q := .of (pe_dget hu (pe X a) (pe X b) hs) h
theorem i_dK {p : Addr} {kvs : List (Key × V)} {k : Key} (h : H p = some (.dK kvs)) (e : valV kvs k = some v) (q : Q v H) : ∃ l v, V.ref p = .ref l ∧ DGet H l (kV k) (some v) ∧ Q v H := ⟨p, v, rfl, e ▸ DGet.k h, q⟩
/-- parts of a slice -/
def WO (X : Cx) (e : Option Expr) (σ : L2.St) (H : Hp) (Q : Option Int → Hp → Prop) : Prop := match e with
  | none => Q none H
  | some e => WE X e σ H fun x H1 => ∃ i, x = .int i ∧ Q (some i) H1
theorem po (X : Cx) (e : Option Expr) : PO X e (WO X e) := by
  cases e with
  | none => exact po_none
  | some e => exact po_some (pe X e)
def WL (X : Cx) (x : V) (lo hi : Option Int) (H : Hp) (Q : VK) : Prop := ∃ r, SlR X r ∧ r x lo hi H Q
theorem w_slice {lo hi : Option Expr} {p2 : Pos} (h : WE X e σ H fun x H1 => WO X lo σ H1 fun l H2 => WO X hi σ H2 fun u H3 => WL X x l u H3 Q) : WE X (.Subscript e (.Slice lo hi none p2) pos) σ H Q := fun pins s I => by
  have go : PE X (.Subscript e (.Slice lo hi none p2) pos) (tSl (fun x l u H Q => WL X x l u H Q) (WE X e) (WO X lo) (WO X hi)) :=
    pe_slice (fun pins s σ H x v vl vu lo hi sl Q I rx hs pl pu ⟨r, o, q⟩ => o pins s σ H x v vl vu lo hi sl Q I rx hs pl pu q) (pe X e) (po X lo) (po X hi)
  exact go.run pins s σ H Q I h
theorem o_none {Q : Option Int → Hp → Prop} (q : Q none H) : WO X none σ H Q := q
theorem o_some {Q : Option Int → Hp → Prop} (q : WE X e σ H fun x H1 => ∃ i, x = .int i ∧ Q (some i) H1) : WO X (some e) σ H Q := q
theorem o_int {i : Int} {Q : Option Int → Hp → Prop} (q : Q (some i) H) : ∃ j, V.int i = .int j ∧ Q (some j) H := ⟨i, rfl, q⟩
theorem l_lst {p : Addr} {xs : List V} {lo hi : Option Int} (h : SqL X.K H p xs) (q : ∀ r H2, H r = none → Same H H2 → H2 r = some (.lst (cutV xs lo hi)) → Q (.ref r) H2) : WL X (.ref p) lo hi H Q :=
  ⟨_, sl_list, p, xs, rfl, h, fun r hr => q r _ hr (same_new hr) upd_same⟩
theorem l_str {z : Str} {lo hi : Option Int} (hz : z.length ≤ sizeLine) (q : Q (.str (cutS z lo hi)) H) : WL X (.str z) lo hi H Q := ⟨_, sl_str, z, rfl, hz, q⟩

/-! ### displays -/
theorem a_nil {Q : List V → Hp → Prop} (q : Q [] H) : WA X [] σ H Q := .of pa_nil q
theorem a_cons {Q : List V → Hp → Prop} (h : WE X e σ H fun x H1 => WA X es σ H1 fun xs H2 => Q (x :: xs) H2) (hs : starEach (e :: es) X.env = (false, eval e X.env) :: starEach es X.env := by rfl) : WA X (e :: es) σ H Q :=
  .of (pa_cons (pe X e) (pa X es) hs) h
theorem w_tup {k} (h : WA X es σ H fun xs H1 => xs.length ≤ sizeLine ∧ ∀ p H2, H1 p = none → Same H1 H2 → H2 p = some (.tup xs) → Q (.ref p) H2) : WE X (.Tuple es k pos) σ H Q := fun pins s I =>
  (pe_tup (pa X es)).run pins s σ H Q I fun pos pins s I => thn (h pos pins s I) fun us s' ⟨vs, H1, I1, r, z, q⟩ => ⟨vs, H1, I1, r, z, fun p hp => q p _ hp (same_new hp) upd_same⟩
theorem w_lst (h : WA X es σ H fun xs H1 => xs.length ≤ sizeLine ∧ ∀ p H2, H1 p = none → Same H1 H2 → H2 p = some (.lst xs) → Q (.ref p) H2) : WE X (.List es pos) σ H Q := fun pins s I =>
  (pe_lst (pa X es)).run pins s σ H Q I fun pos pins s I => thn (h pos pins s I) fun us s' ⟨vs, H1, I1, r, z, q⟩ => ⟨vs, H1, I1, r, z, fun p hp => q p _ hp (same_new hp) upd_same⟩
theorem w_dict0 (q : ∀ p H2, H p = none → Same H H2 → H2 p = some (.dK []) → Q (.ref p) H2) : WE X (.Dict [] [] pos) σ H Q := .of pe_dnewK fun p hp => q p _ hp (same_new hp) upd_same
theorem w_globR {g : Addr} (C : Fr X N L Vs G) (hx : x ∈ G) (hm : X.mg x = some (.ref g)) (q : Q (.ref g) H) : WE X (.Name x pos) σ H Q := w_glob (v := .ref g) C hx hm rfl q
theorem w_globI {i : Int} {t : Tok} (C : Fr X N L Vs G) (hx : x ∈ G) (hm : X.mg x = some (.int i t)) (q : Q (.int i) H) : WE X (.Name x pos) σ H Q := w_glob (v := .int i) C hx hm ⟨_, rfl⟩ q
theorem w_globS {i : Str} {t : Tok} (C : Fr X N L Vs G) (hx : x ∈ G) (hm : X.mg x = some (.str i t)) (q : Q (.str i) H) : WE X (.Name x pos) σ H Q := w_glob (v := .str i) C hx hm ⟨_, rfl⟩ q
theorem l_tup {p : Addr} {xs : List V} {lo hi : Option Int} (h : SqT X.K H p xs) (hn : ¬ (HT.sIx xs.length 0 lo = 0 ∧ HT.sIx xs.length xs.length hi = xs.length)) (q : ∀ r H2, H r = none → Same H H2 → H2 r = some (.tup (cutV xs lo hi)) → Q (.ref r) H2) : WL X (.ref p) lo hi H Q :=
  ⟨_, sl_tup, p, xs, rfl, h, hn, fun r hr => q r _ hr (same_new hr) upd_same⟩
theorem sz {n : Nat} (h : n ≤ 1000000) : n ≤ sizeLine := by rw [sizeLine_eq]; omega
theorem szl {n : Nat} (h : n < 1000000) : n < sizeLine := by rw [sizeLine_eq]; omega

/-! ### operators by values -/
theorem b_add {i j : Int} (q : Q (.int (i + j)) H) : WB X .Add (.int i) (.int j) H Q := ⟨_, op_add, i, j, rfl, rfl, q⟩
theorem b_sub {i j : Int} (q : Q (.int (i - j)) H) : WB X .Sub (.int i) (.int j) H Q := ⟨_, op_sub, i, j, rfl, rfl, q⟩
theorem b_mul {i j : Int} (hc : CMul i j) (q : Q (.int (i * j)) H) : WB X .Mult (.int i) (.int j) H Q := ⟨_, op_mul, i, j, rfl, rfl, hc, q⟩
theorem b_mod {i j : Int} (hj : 0 < j) (q : Q (.int (i % j)) H) : WB X .Mod (.int i) (.int j) H Q := ⟨_, op_mod, i, j, rfl, rfl, hj, q⟩
theorem b_div {i j : Int} (hj : CDiv i j) (q : Q (.int (i / j)) H) : WB X .FloorDiv (.int i) (.int j) H Q := ⟨_, op_fdiv, i, j, rfl, rfl, hj, q⟩
theorem b_adds {i j : Str} (hz : i.length + j.length ≤ sizeLine) (q : Q (.str (i ++ j)) H) : WB X .Add (.str i) (.str j) H Q := ⟨_, op_add_str, i, j, rfl, rfl, hz, q⟩
theorem b_cat {l m : Addr} {xs ys : List V} (h1 : H l = some (.lst xs)) (h2 : H m = some (.lst ys)) (hz : xs.length + ys.length ≤ sizeLine) (q : ∀ p H2, H p = none → Same H H2 → H2 p = some (.lst (xs ++ ys)) → Q (.ref p) H2) : WB X .Add (.ref l) (.ref m) H Q :=
  ⟨_, op_cat, l, m, xs, ys, rfl, rfl, h1, h2, hz, fun p hp => q p _ hp (same_new hp) upd_same⟩
theorem c_lt {i j : Int} (q : Q (.bl (decide (i < j))) H) : WC X .Lt (.int i) (.int j) H Q := ⟨_, op_lt, i, j, rfl, rfl, q⟩
theorem c_le {i j : Int} (q : Q (.bl (decide (i ≤ j))) H) : WC X .LtE (.int i) (.int j) H Q := ⟨_, op_le, i, j, rfl, rfl, q⟩
theorem c_gt {i j : Int} (q : Q (.bl (decide (j < i))) H) : WC X .Gt (.int i) (.int j) H Q := ⟨_, op_gt, i, j, rfl, rfl, q⟩
theorem c_ge {i j : Int} (q : Q (.bl (decide (j ≤ i))) H) : WC X .GtE (.int i) (.int j) H Q := ⟨_, op_ge, i, j, rfl, rfl, q⟩
theorem dec_int (i j : Int) : decide (V.int i = V.int j) = decide (i = j) := by
  by_cases h : i = j
  · subst h; simp
  · rw [decide_eq_false h, decide_eq_false fun q => h (V.int.inj q)]
theorem dec_str (i j : Str) : decide (V.str i = V.str j) = decide (i = j) := by
  by_cases h : i = j
  · subst h; simp
  · rw [decide_eq_false h, decide_eq_false fun q => h (V.str.inj q)]
theorem c_eqI {i j : Int} (q : Q (.bl (decide (i = j))) H) : WC X .Eq (.int i) (.int j) H Q := ⟨_, op_eq, rfl, by rw [dec_int]; exact q⟩
theorem c_neI {i j : Int} (q : Q (.bl (!decide (i = j))) H) : WC X .NotEq (.int i) (.int j) H Q := ⟨_, op_ne, rfl, by rw [dec_int]; exact q⟩
theorem c_eqS {i j : Str} (q : Q (.bl (decide (i = j))) H) : WC X .Eq (.str i) (.str j) H Q := ⟨_, op_eq, rfl, by rw [dec_str]; exact q⟩
theorem c_neS {i j : Str} (q : Q (.bl (!decide (i = j))) H) : WC X .NotEq (.str i) (.str j) H Q := ⟨_, op_ne, rfl, by rw [dec_str]; exact q⟩
theorem c_isN (q : Q (.bl (decide (v = .non))) H) : WC X .Is v .non H Q := ⟨_, op_isN, rfl, q⟩
theorem c_notN (q : Q (.bl (!decide (v = .non))) H) : WC X .IsNot v .non H Q := ⟨_, op_notN, rfl, q⟩
theorem c_inT {p : Addr} {xs : List V} (h : SqT X.K H p xs) (hx : flatV v = true) (ha : xs.all flatV = true) (q : Q (.bl (inV v xs)) H) : WC X .In v (.ref p) H Q := ⟨_, op_in_seq, p, xs, rfl, .inr h, hx, ha, q⟩
theorem c_inL {p : Addr} {xs : List V} (h : SqL X.K H p xs) (hx : flatV v = true) (ha : xs.all flatV = true) (q : Q (.bl (inV v xs)) H) : WC X .In v (.ref p) H Q := ⟨_, op_in_seq, p, xs, rfl, .inl h, hx, ha, q⟩
theorem c_notInT {p : Addr} {xs : List V} (h : SqT X.K H p xs) (hx : flatV v = true) (ha : xs.all flatV = true) (q : Q (.bl (!inV v xs)) H) : WC X .NotIn v (.ref p) H Q := ⟨_, op_notIn_seq, p, xs, rfl, .inr h, hx, ha, q⟩
theorem c_inD {p : Addr} {kvs : List (Key × V)} {k : Key} (hu : X.A.units + 1 < cLine) (h : H p = some (.dK kvs)) (q : Q (.bl (valV kvs k).isSome) H) : WC X .In (kV k) (.ref p) H Q := ⟨_, op_inD hu, p, _, rfl, DGet.k h, q⟩
theorem c_notInD {p : Addr} {kvs : List (Key × V)} {k : Key} (hu : X.A.units + 1 < cLine) (h : H p = some (.dK kvs)) (q : Q (.bl (!(valV kvs k).isSome)) H) : WC X .NotIn (kV k) (.ref p) H Q := ⟨_, op_notInD hu, p, _, rfl, DGet.k h, q⟩

theorem c_eqD {x y : V} {d e : PyData} (hu : X.A.units + 64 < cLine) (h1 : Dp X.K H x d) (h2 : Dp X.K H y e) (s1 : SeqAt.shaped d = true) (s2 : SeqAt.shaped e = true) (q : Q (.bl (PyData.eqv d e)) H) : WC X .Eq x y H Q := ⟨_, op_eqD hu, d, e, h1, h2, s1, s2, q⟩
theorem c_neD {x y : V} {d e : PyData} (hu : X.A.units + 64 < cLine) (h1 : Dp X.K H x d) (h2 : Dp X.K H y e) (s1 : SeqAt.shaped d = true) (s2 : SeqAt.shaped e = true) (q : Q (.bl (!PyData.eqv d e)) H) : WC X .NotEq x y H Q := ⟨_, op_neD hu, d, e, h1, h2, s1, s2, q⟩
/-! ### calls -/
theorem w_call {k k' : Nat} {ps : List Str} {sp : Sp} {f : Str} (C : Fr X N L Vs G) (F : CallOk X.prog X.w X.K X.mg X.base k f ps sp) (hr : Room k' X.A) (hk : k ≤ k') (hx : f ∈ G) (h : WA X (e :: es) σ H fun vs H1 => sp vs H1 Q E0)
    (he : starEach (e :: es) X.env = (false, eval e X.env) :: starEach es X.env := by rfl) (hpl : (backTo pos (starEach es X.env)).any (·.1) = false := by rfl) : WE X (.Call (.Name f p) (e :: es) [] pos) σ H Q := by
  obtain ⟨g, fd, F, m, kp, b⟩ := F
  exact .of (pe_call F (hr.mono hk) (C.gl f hx) m kp b .nil pass0 (pa X _) (C.nodbg f (List.mem_append_right _ hx)).1 he hpl) (t := tCall sp [] E0 (WA X (e :: es))) (fun pos pins s I => thn (h pos pins s I) fun us s' ⟨vs, H1, I1, r, q⟩ => ⟨vs, H1, I1, r, by show sp (vs ++ []) H1 Q E0; rw [List.append_nil]; exact q⟩)
/-- a built-in function or class, by its name -/
def WB1 (X : Cx) (u : Value) (vs : List V) (H : Hp) (Q : VK) : Prop := ∃ r, CallR X u r ∧ r vs H Q
theorem w_callB {f : Str} {id : String} (C : Fr X N L Vs G) (hx : f ∈ G) (hm : X.mg f = none) (hv : bootBuiltins f = some (.builtin id)) (h : WA X (e :: es) σ H fun vs H1 => WB1 X (.builtin id) vs H1 Q)
    (he : starEach (e :: es) X.env = (false, eval e X.env) :: starEach es X.env := by rfl) (hpl : (backTo pos (starEach es X.env)).any (·.1) = false := by rfl) : WE X (.Call (.Name f p) (e :: es) [] pos) σ H Q :=
  .of (pe_callB (r := fun vs H Q => WB1 X (.builtin id) vs H Q) (fun pins s σ H xs us Q I r ⟨t, o, q⟩ => o pins s σ H xs us Q I r q) (C.gl f hx) hm hv (pa X _) (C.nodbg f (List.mem_append_right _ hx)).2.2 (C.nodbg f (List.mem_append_right _ hx)).1 he hpl) h
theorem w_callTy {f : Str} {T : String} (C : Fr X N L Vs G) (hx : f ∈ G) (hm : X.mg f = none) (hv : bootBuiltins f = some (.type T)) (h : WA X (e :: es) σ H fun vs H1 => WB1 X (.type T) vs H1 Q)
    (he : starEach (e :: es) X.env = (false, eval e X.env) :: starEach es X.env := by rfl) (hpl : (backTo pos (starEach es X.env)).any (·.1) = false := by rfl) : WE X (.Call (.Name f p) (e :: es) [] pos) σ H Q :=
  .of (pe_callTy (r := fun vs H Q => WB1 X (.type T) vs H Q) (fun pins s σ H xs us Q I r ⟨t, o, q⟩ => o pins s σ H xs us Q I r q) (C.gl f hx) hm hv (pa X _) (C.nodbg f (List.mem_append_right _ hx)).2.2 (C.nodbg f (List.mem_append_right _ hx)).1 he hpl) h
theorem k_lenL {p : Addr} {xs : List V} (h : SqL X.K H p xs) (q : Q (.int xs.length) H) : WB1 X (.builtin "len") [.ref p] H Q := ⟨_, call_len_seq, p, xs, rfl, .inl h, q⟩
theorem k_lenT {p : Addr} {xs : List V} (h : SqT X.K H p xs) (q : Q (.int xs.length) H) : WB1 X (.builtin "len") [.ref p] H Q := ⟨_, call_len_seq, p, xs, rfl, .inr h, q⟩
theorem k_lenS {z : Str} (h : z.length ≤ sizeLine) (q : Q (.int z.length) H) : WB1 X (.builtin "len") [.str z] H Q := ⟨_, call_len_str, z, rfl, h, q⟩
theorem k_max {i j : Int} (C : Fr X N L Vs G) (q : Q (.int (if j > i then j else i)) H) : WB1 X (.builtin "max") [.int i, .int j] H Q := ⟨_, call_max2 C.calm, i, j, rfl, q⟩
theorem k_min {i j : Int} (C : Fr X N L Vs G) (q : Q (.int (if j < i then j else i)) H) : WB1 X (.builtin "min") [.int i, .int j] H Q := ⟨_, call_min2 C.calm, i, j, rfl, q⟩
theorem k_intb {k : Bool} (q : Q (.int (if k then 1 else 0)) H) : WB1 X (.type "int") [.bl k] H Q := ⟨_, call_int1, .inr ⟨k, rfl, q⟩⟩
theorem k_isi {T U : String} {k : Bool} (ht : TyX X.K H v (.type T)) (hk : kitB T U = some k) (q : Q (.bl k) H) : WB1 X (.builtin "isinstance") [v, .ty U] H Q := ⟨_, call_isi, v, .ty U, _, _, k, rfl, .ty U, ht, kit_ty hk, q⟩
theorem k_all {p : Addr} {bs : List Bool} (C : Fr X N L Vs G) (h : SqL X.K H p (bs.map V.bl)) (q : Q (.bl (bs.all _root_.id)) H) : WB1 X (.builtin "all") [.ref p] H Q := ⟨_, cr_all C.calm, p, bs, rfl, h, q⟩
theorem k_dict {p : Addr} {kvs : List (Key × V)} (h : Rd H p (.dK kvs)) (q : ∀ r H2, H r = none → Same H H2 → H2 r = some (.dK kvs) → Q (.ref r) H2) : WB1 X (.type "dict") [.ref p] H Q := ⟨_, call_dictD, p, kvs, rfl, h, fun r hr => q r _ hr (same_new hr) upd_same⟩
theorem k_list {p : Addr} {xs : List V} (h : SqL X.K H p xs ∨ SqT X.K H p xs) (q : ∀ r H2, H r = none → Same H H2 → H2 r = some (.lst xs) → Q (.ref r) H2) : WB1 X (.type "list") [.ref p] H Q := ⟨_, call_list_of, p, xs, rfl, h, fun r hr => q r _ hr (same_new hr) upd_same⟩
theorem k_str {i : Int} (hi : i.natAbs.log2 < 1920) (q : Q (.str (toString i)) H) : WB1 X (.type "str") [.int i] H Q := ⟨_, call_str_int, i, rfl, hi, q⟩
theorem k_sortedD {p : Addr} {kvs : List (Key × V)} {ks : List Str} (C : Fr X N L Vs G) (h : Rd H p (.dK kvs)) (hk : kvs.map (·.1) = ks.map Sum.inr) (hl : ks.length < 64) (q : ∀ ys r H2, ys.Perm ks → sortedS ys = true → H r = none → Same H H2 → H2 r = some (.lst (ys.map V.str)) → Q (.ref r) H2) :
    WB1 X (.builtin "sorted") [.ref p] H Q := ⟨_, call_sortedD C.calm, p, kvs, ks, rfl, h, hk, hl, fun ys r h1 h2 hr => q ys r _ h1 h2 hr (same_new hr) upd_same⟩
theorem k_sortedL {p : Addr} {ks : List Str} (h : SqL X.K H p (ks.map V.str)) (hl : ks.length < 64) (q : ∀ ys r H2, ys.Perm ks → sortedS ys = true → H r = none → Same H H2 → H2 r = some (.lst (ys.map V.str)) → Q (.ref r) H2) :
    WB1 X (.builtin "sorted") [.ref p] H Q := ⟨_, cr_sortedS, p, ks, rfl, h, hl, fun ys r h1 h2 hr => q ys r _ h1 h2 hr (same_new hr) upd_same⟩
/-- a built-in class as a value -/
theorem w_ty {f : Str} {T : String} (C : Fr X N L Vs G) (hx : f ∈ G) (hm : X.mg f = none) (hv : bootBuiltins f = some (.type T)) (q : Q (.ty T) H) : WE X (.Name f pos) σ H Q :=
    .of (pe_bltn (v := .ty T) (C.gl f hx) hm hv rfl (C.nodbg f (List.mem_append_right _ hx)).2.2 (C.nodbg f (List.mem_append_right _ hx)).1) q

/-! ### tests -/
variable {QT : Bool → Hp → Prop}
theorem t_truth (he : ∀ whole, isTrue a X.env whole = (do let v ← whole; standAt a.pos; holding [v] (truthy v))) (h : WE X a σ H fun x H1 => ∃ k, TruV X.K x H1 k ∧ QT k H1) : WT X a σ H QT := .of (pt_truth (pe X a) he) h
theorem t_not (h : WT X a σ H fun k H1 => QT (!k) H1) : WT X (.UnaryOp .Not a pos) σ H QT := .of (pt_not (pt X a)) h
theorem t_bool {op} (h : WW X (.BoolOp op es pos) σ H QT) : WT X (.BoolOp op es pos) σ H QT := .of (pw X _).pt h
theorem ww_and1 (h : WT X a σ H QT) : WW X (.BoolOp .And [a] pos) σ H QT := fun wh pins s I => (pw_and1 (pt X a)).run wh pins s σ H QT I h
theorem ww_or1 (h : WT X a σ H QT) : WW X (.BoolOp .Or [a] pos) σ H QT := fun wh pins s I => (pw_or1 (pt X a)).run wh pins s σ H QT I h
theorem ww_and (h : WT X a σ H fun k H1 => if k = true then WW X (.BoolOp .And (b :: es) pos) σ H1 QT else QT false H1) : WW X (.BoolOp .And (a :: b :: es) pos) σ H QT := fun wh pins s I => (pw_and (pt X a) (pw X _)).run wh pins s σ H QT I h
theorem ww_or (h : WT X a σ H fun k H1 => if k = true then QT true H1 else WW X (.BoolOp .Or (b :: es) pos) σ H1 QT) : WW X (.BoolOp .Or (a :: b :: es) pos) σ H QT := fun wh pins s I => (pw_or (pt X a) (pw X _)).run wh pins s σ H QT I h
/-- the same as values -/
theorem w_not (h : WE X a σ H fun x H1 => ∃ k, x = .bl k ∧ Q (.bl (!k)) H1) : WE X (.UnaryOp .Not a pos) σ H Q := .of (pe_not (pe X a)) h
theorem w_one {op} (h : WE X a σ H Q) : WE X (.BoolOp op [a] pos) σ H Q := .of (pe_one (pe X a)) h
theorem w_and (h : WE X a σ H fun x H1 => ∃ k, x = .bl k ∧ if k = true then WE X (.BoolOp .And (b :: es) pos) σ H1 Q else Q (.bl false) H1) : WE X (.BoolOp .And (a :: b :: es) pos) σ H Q := .of (pe_and (pe X a) (pe X _)) h
theorem w_or (h : WE X a σ H fun x H1 => ∃ k, x = .bl k ∧ if k = true then Q (.bl true) H1 else WE X (.BoolOp .Or (b :: es) pos) σ H1 Q) : WE X (.BoolOp .Or (a :: b :: es) pos) σ H Q := .of (pe_or (pe X a) (pe X _)) h
theorem w_ifExp (h : WT X c σ H fun k H1 => if k = true then WE X a σ H1 Q else WE X b σ H1 Q) : WE X (.IfExp c a b pos) σ H Q := .of (pe_ifExp (pt X c) (pe X a) (pe X b)) h
theorem w_neg (h : WE X a σ H fun x H1 => ∃ i, x = .int i ∧ Q (.int (-i)) H1) : WE X (.UnaryOp .USub a pos) σ H Q := .of (pe_un un_neg (pe X a)) h
theorem x_bl {k : Bool} {R : Bool → Prop} (q : R k) : ∃ j, V.bl k = .bl j ∧ R j := ⟨k, rfl, q⟩
theorem x_int {k : Int} {R : Int → Prop} (q : R k) : ∃ j, V.int k = .int j ∧ R j := ⟨k, rfl, q⟩
theorem x_tbl {k : Bool} {R : Bool → Prop} (q : R k) : ∃ j, TruV X.K (.bl k) H j ∧ R j := ⟨k, rfl, q⟩

/-! ### statements -/
variable {st : Stmt} {sts sts' : List Stmt} {D : Ends}
theorem s_nil (q : D.nx σ H) : WSs X [] D σ H := .of pss_nil q
theorem s_cons (h : WS X st { D with nx := fun σ H => WSs X sts D σ H } σ H) : WSs X (st :: sts) D σ H := .of (pss_cons (ps X st) (pss X sts)) h
theorem s_one (h : WS X st D σ H) : WSs X [st] D σ H := .of (pss_one (ps X st)) h
theorem s_pass (q : D.nx σ H) : WS X (.Pass pos) D σ H := .of ps_pass q
theorem s_expr (h : WE X e σ H fun _ H1 => D.nx σ H1) (hs : swapsWith e none pos.line X.env = pure false := by rfl) : WS X (.Expr e pos) D σ H := .of (ps_expr (pe X e) hs) h
theorem s_ret (h : WE X e σ H D.rt) : WS X (.Return (some e) pos) D σ H := .of (ps_ret (pe X e)) h
theorem s_retN (h : D.rt .non H) : WS X (.Return none pos) D σ H := .of ps_retN h
theorem s_if (h : WT X c σ H fun k H1 => if k = true then WSs X sts D σ H1 else WSs X sts' D σ H1) : WS X (.If c sts sts' pos) D σ H := .of (ps_if (pt X c) (pss X sts) (pss X sts')) h
theorem s_set {pos' : Pos} (C : Fr X N L Vs G) (hx : x ∈ L) (h : WE X e σ H fun v H1 => ∃ σ', Put N σ x v σ' ∧ D.nx σ' H1) (hs : swapsWith e (some (.Name x pos')) pos.line X.env = pure false := by rfl) : WS X (.Assign [.Name x pos'] e pos) D σ H := fun pins s I => by
  have hl := C.loc x hx
  by_cases hi : x ∈ X.N
  · obtain ⟨i, hi⟩ := List.getElem?_of_mem hi
    refine (ps_set (i := i) (by rw [C.n]; exact C.nd) hi hl.1 (pe X e) hs hl.2).run pins s σ H D I (h.mono ?_)
    rintro v H' ⟨σ', hp, q⟩
    obtain ⟨j, h1, h2⟩ := hp.ix
    have e : i = j := nodup_ix C.nd (by rw [← C.n]; exact hi) h1
    subst e
    rw [h2] at q
    exact q
  · refine wpAny_Assign_Name (thn (h pins s I) fun v s1 ⟨y, H1, I1, r1, σ', hp, q⟩ => ?_) hs
    obtain ⟨j, h1, h2⟩ := hp.ix
    exact absurd (by rw [C.n]; exact List.mem_of_getElem? h1) hi
/-- o[i] = e -/
def WP (X : Cx) (o i v : V) (H : Hp) (Q : Hp → Prop) : Prop := ∃ t, PSet X t ∧ t o i v H Q
theorem s_sub {pos' : Pos} (h : WE X e σ H fun v H1 => WE X a σ H1 fun o H2 => WE X b σ H2 fun i H3 => WP X o i v H3 fun H4 => D.nx σ H4)
    (ha : ∀ v, assign (.Subscript a b pos') X.env v = (do
      let ov ← holding [v] (eval a X.env)
      let iv ← holding [v, ov] (eval b X.env)
      standAt pos'
      holding [v, ov, iv] (setItem ov iv v)
      release [v, ov, iv] []) := by intro _; rfl) (hs : swapsWithSole [.Subscript a b pos'] e pos.line X.env = pure false := by rfl) (hw : swappedStores [.Subscript a b pos'] e X.env = pure none := by rfl)
    (h1 : (assignEach [.Subscript a b pos'] X.env).map (·.2) = [assign (.Subscript a b pos') X.env] := by rfl) : WS X (.Assign [.Subscript a b pos'] e pos) D σ H :=
  .of (ps_asg (pe X e) (pg_sub (t := fun o i v H Q => WP X o i v H Q) (pe X a) (pe X b) (fun pins s σ H o i v ov iv u Q I ro ri rv ⟨t, o1, q⟩ => o1 pins s σ H o i v ov iv u Q I ro ri rv q) ha) hs hw h1) h
theorem p_lst {p : Addr} {xs : List V} {k : Int} {j : Nat} {QH : Hp → Prop} (h : H p = some (.lst xs)) (hj : ixN xs.length k = some j) (q : QH (upd H p (.lst (xs.set j v)))) : WP X (.ref p) (.int k) v H QH := ⟨_, set_list, p, xs, k, j, rfl, rfl, h, hj, q⟩
theorem p_dK {p : Addr} {kvs : List (Key × V)} {k : Key} {QH : Hp → Prop} (hu : X.A.units + 1 < cLine) (h : H p = some (.dK kvs)) (hl : kvs.length < sizeLine) (q : QH (upd H p (.dK (putK kvs k v)))) : WP X (.ref p) (kV k) v H QH := ⟨_, set_dict hu, p, _, rfl, DPut.k h hl, q⟩

theorem p_dS {p : Addr} {kvs : List (Key × V)} {k : Str} {QH : Hp → Prop} (hu : X.A.units + 1 < cLine) (h : H p = some (.dK kvs)) (hl : kvs.length < sizeLine) (q : QH (upd H p (.dK (putK kvs (.inr k) v)))) : WP X (.ref p) (.str k) v H QH := p_dK (k := .inr k) hu h hl q
theorem p_dI {p : Addr} {kvs : List (Key × V)} {k : Int} {QH : Hp → Prop} (hu : X.A.units + 1 < cLine) (h : H p = some (.dK kvs)) (hl : kvs.length < sizeLine) (q : QH (upd H p (.dK (putK kvs (.inl k) v)))) : WP X (.ref p) (.int k) v H QH := p_dK (k := .inl k) hu h hl q
theorem i_dS {p : Addr} {kvs : List (Key × V)} {k : Str} (h : H p = some (.dK kvs)) (e : valV kvs (.inr k) = some v) (q : Q v H) : ∃ l v, V.ref p = .ref l ∧ DGet H l (.str k) (some v) ∧ Q v H := i_dK (k := .inr k) h e q
/-! ### methods of lists, dicts, texts -/
theorem w_append (h : WE X a σ H fun x H1 => ∃ l xs, x = .ref l ∧ SqL X.K H1 l xs ∧ WE X e σ H1 fun y H2 => ∃ xs', H2 l = some (.lst xs') ∧ xs'.length < sizeLine ∧ Q .non (upd H2 l (.lst (xs' ++ [y]))))
    (hbase : attributeBase a "append" X.env (eval a X.env) = eval a X.env := by rfl)
    (hfew : ((backTo cpos (starEach [e] X.env)).all (fun x => !x.1) && (backToKw cpos (keywordEach [] X.env)).all (fun x => x.1.isSome)
      && decide (([e] : List Expr).length + ([] : List Keyword).length + (if ([] : List Keyword).isEmpty then 0 else 1) < 30)) = true := by rfl)
    (hline : (apos.endLine == cpos.line) = true := by rfl) (hs : starEach [e] X.env = (false, eval e X.env) :: starEach [] X.env := by rfl) (hplain : (backTo cpos (starEach [] X.env)).any (·.1) = false := by rfl) :
    WE X (.Call (.Attribute a "append" apos) [e] [] cpos) σ H Q := by
  refine .of (pe_bm PySem.F.plainAttrs_list PySem.F.slot_list_append PySem.F.type_list_append mt_append (pe X a) (pa X [e]) hbase hfew hline hs hplain) ?_
  refine h.mono ?_
  rintro x H1 ⟨l, xs, rfl, hl, q⟩
  refine ⟨.inl ⟨rfl, xs, hl⟩, ?_⟩
  refine a_cons (WE.mono q ?_) hs
  rintro y H2 ⟨xs', h1, h2, q⟩
  exact a_nil ⟨l, xs', y, rfl, rfl, h1, h2, q⟩
theorem w_extend (h : WE X a σ H fun x H1 => ∃ l xs, x = .ref l ∧ SqL X.K H1 l xs ∧ WE X e σ H1 fun y H2 => ∃ m xs' ys, y = .ref m ∧ H2 l = some (.lst xs') ∧ H2 m = some (.lst ys) ∧ xs'.length + ys.length ≤ sizeLine ∧ Q .non (upd H2 l (.lst (xs' ++ ys))))
    (hbase : attributeBase a "extend" X.env (eval a X.env) = eval a X.env := by rfl)
    (hfew : ((backTo cpos (starEach [e] X.env)).all (fun x => !x.1) && (backToKw cpos (keywordEach [] X.env)).all (fun x => x.1.isSome)
      && decide (([e] : List Expr).length + ([] : List Keyword).length + (if ([] : List Keyword).isEmpty then 0 else 1) < 30)) = true := by rfl)
    (hline : (apos.endLine == cpos.line) = true := by rfl) (hs : starEach [e] X.env = (false, eval e X.env) :: starEach [] X.env := by rfl) (hplain : (backTo cpos (starEach [] X.env)).any (·.1) = false := by rfl) :
    WE X (.Call (.Attribute a "extend" apos) [e] [] cpos) σ H Q := by
  refine .of (pe_bm PySem.F.plainAttrs_list PySem.F.slot_list_extend PySem.F.type_list_extend mt_extend (pe X a) (pa X [e]) hbase hfew hline hs hplain) ?_
  refine h.mono ?_
  rintro x H1 ⟨l, xs, rfl, hl, q⟩
  refine ⟨.inl ⟨rfl, xs, hl⟩, ?_⟩
  refine a_cons (WE.mono q ?_) hs
  rintro y H2 ⟨m, xs', ys, rfl, h1, h2, h3, q⟩
  exact a_nil ⟨l, m, xs', ys, rfl, rfl, h1, h2, h3, q⟩
theorem w_pop (h : WE X a σ H fun x H1 => ∃ l xs y, x = .ref l ∧ H1 l = some (.lst xs) ∧ xs[xs.length - 1]? = some y ∧ Q y (upd H1 l (.lst xs.dropLast)))
    (hbase : attributeBase a "pop" X.env (eval a X.env) = eval a X.env := by rfl) (hline : (apos.endLine == cpos.line) = true := by rfl) : WE X (.Call (.Attribute a "pop" apos) [] [] cpos) σ H Q := by
  refine .of (pe_bm0 PySem.F.plainAttrs_list PySem.F.slot_list_pop PySem.F.type_list_pop mt_pop (pe X a) hbase hline) ?_
  refine h.mono ?_
  rintro x H1 ⟨l, xs, y, rfl, hl, hy, q⟩
  exact ⟨.inl ⟨rfl, xs, SqL.of hl⟩, l, xs, y, rfl, rfl, hl, hy, q⟩
theorem w_join (h : WE X a σ H fun x H1 => ∃ z, x = .str z ∧ WE X e σ H1 fun y H2 => ∃ p, ∃ ys : List Str, y = .ref p ∧ SqL X.K H2 p (ys.map V.str) ∧ (ys.map (·.length)).sum + ys.length * z.length ≤ 16777216 ∧ Q (.str (Txt.join z ys)) H2)
    (hs : starEach [e] X.env = [(false, eval e X.env)] := by rfl) (hbase : attributeBase a "join" X.env (eval a X.env) = eval a X.env := by rfl) (hline : (apos.endLine == cpos.line) = true := by rfl) : WE X (.Call (.Attribute a "join" apos) [e] [] cpos) σ H Q := by
  refine .of (pe_join (pe X a) (pe X e) hs hbase hline) ?_
  refine h.mono ?_
  rintro x H1 ⟨z, rfl, q⟩
  refine ⟨⟨z, rfl⟩, q.mono ?_⟩
  rintro y H2 ⟨p, ys, rfl, h1, h2, q⟩
  exact ⟨z, p, ys, rfl, rfl, .inl h1, h2, q⟩
theorem w_get2 {f : Expr} (hu : X.A.units + 1 < cLine) (h : WE X a σ H fun x H1 => ∃ l, x = .ref l ∧ IsD H1 l ∧ WE X e σ H1 fun y H2 => WE X f σ H2 fun z H3 => ∃ o, DGet H3 l y o ∧ Q (o.getD z) H3) (m : M2 X a "get" apos e f cpos := by exact ⟨rfl, rfl, rfl, rfl⟩) :
    WE X (.Call (.Attribute a "get" apos) [e, f] [] cpos) σ H Q := .of (pe_dget2 hu (pe X a) (pe X e) (pe X f) m) h
end
end LM
namespace LM
open PySem PySem.Spec PyProof.Rows L2
section
variable {X : Cx} {N L Vs G : List Str} {e a b c d tg iter elt : Expr} {es : List Expr} {σ : L2.St} {H : Hp} {Q : VK} {pos p apos cpos : Pos} {x : Str} {v : V} {D : Ends} {body : List Stmt}
/-! ### what is walked -/
def WI1 (X : Cx) (tg iter : Expr) (σ : L2.St) (H : Hp) (R : It → Hp → Prop) : Prop :=
  ∀ (pins : List (Addr × Obj)) (s : Shared), Inv X pins σ H s → wpAny (model X.prog X.w) X.A (eval iter X.env) (fun v s1 => wpAny (model X.prog X.w) X.A (pyIter v) (PIE X pins σ tg R) X.xe s1) X.xe s
theorem pi1 (X : Cx) (tg iter : Expr) : PI X tg iter (WI1 X tg iter) := ⟨fun pins s σ H R I h => h pins s I⟩
variable {R : It → Hp → Prop}
theorem wi_list (h : WE X e σ H fun v H1 => ∃ a xs, v = .ref a ∧ SqL X.K H1 a xs ∧ R (Itl X.K a) H1) : WI1 X tg e σ H R := fun pins s I =>
  (pi_list (pe X e)).run pins s σ H R I (h.mono fun v H1 ⟨a, xs, e, q, r⟩ => ⟨a, e, ⟨xs, q⟩, r⟩)
theorem wi_tup (h : WE X e σ H fun v H1 => ∃ a xs, v = .ref a ∧ SqT X.K H1 a xs ∧ R (Itt X.K a) H1) : WI1 X tg e σ H R := fun pins s I =>
  (pi_tup (pe X e)).run pins s σ H R I (h.mono fun v H1 ⟨a, xs, e, q, r⟩ => ⟨a, e, ⟨xs, q⟩, r⟩)
theorem wi_str (h : WE X e σ H fun v H1 => ∃ z, v = .str z ∧ R (Its z) H1) : WI1 X tg e σ H R := fun pins s I => (pi_str (pe X e)).run pins s σ H R I h
theorem wi_range (C : Fr X N L Vs G) (hx : ("range" : Str) ∈ G) (hm : X.mg "range" = none) (h : WE X e σ H fun v H1 => ∃ j : Int, v = .int j ∧ -(2 ^ 62) ≤ j ∧ j < 2 ^ 62 ∧ R (Itr 0 j.toNat) H1) (hs : starEach [e] X.env = [(false, eval e X.env)] := by rfl) :
    WI1 X tg (.Call (.Name "range" p) [e] [] pos) σ H R := fun pins s I =>
  (pi_range1 (C.gl _ hx) hm (pa X [e]) hs).run pins s σ H R I (a_cons (h.mono fun v H1 ⟨j, e, q⟩ => a_nil ⟨j, by rw [e], q⟩) hs)

/-! ### for -/
def gPut (N : List Str) (x : Str) : TG := fun v σ H Q => ∃ σ', Put N σ x v σ' ∧ Q σ' H
theorem pg_put (C : Fr X N L Vs G) (hx : x ∈ L) : PG X (.Name x p) (gPut N x) := by
  have hl := C.loc x hx
  refine ⟨fun pins s σ H v u Q I r h => ?_⟩
  obtain ⟨σ', hp, q⟩ := h
  obtain ⟨i, h1, h2⟩ := hp.ix
  subst h2
  exact (pg_name (i := i) (by rw [C.n]; exact C.nd) (by rw [C.n]; exact h1) hl.1 hl.2).run pins s σ H v u Q I r q
def ForL (X : Cx) (N : List Str) (x : Str) (body : List Stmt) (D : Ends) (J : It) (σ : L2.St) (H : Hp) : Prop := ∃ W : Nat → Nat → L2.St → Hp → Prop, (∃ m, W 0 m σ H) ∧ ∀ i m σ H, W i m σ H →
  (J.stop i H ∧ D.nx σ H) ∨ (J.go i H ∧ ∃ Nx : L2.St → Hp → Prop, (∀ σ' H', Nx σ' H' → ∃ m', m' < m ∧ W (i + 1) m' σ' H') ∧ ∀ y H', J.yld i H y H' → gPut N x y σ H' fun σ2 H2 => WSs X body { D with nx := Nx, ct := Nx, bk := D.nx } σ2 H2)
theorem s_for (C : Fr X N L Vs G) (hx : x ∈ L) (h : WI1 X (.Name x p) iter σ H fun J H1 => ForL X N x body D J σ H1) (hs : ∀ x, foldedSetIterable iter X.env x = pure x := by intro _; rfl) : WS X (.For (.Name x p) iter body [] pos) D σ H :=
  .of (ps_for C.own C.calm (pi1 X _ iter) (pg_put C hx) (pss X body) hs) h
/-- a loop by its word Pv: turn, slots, heap -/
theorem for_w {J : It} {n : Nat} {Gd : Hp → Prop} {f : Nat → V → Prop} (w : Walk J n Gd (fun i H x H' => H' = H ∧ f i x)) (Pv : Nat → L2.St → Hp → Prop) (h0 : Pv 0 σ H) (hG : ∀ i σ H, i ≤ n → Pv i σ H → Gd H)
    (hs : ∀ i y σ H, i < n → f i y → Pv i σ H → ∃ σ', Put N σ x y σ' ∧ WSs X body { D with nx := Pv (i + 1), ct := Pv (i + 1), bk := D.nx } σ' H) (hd : ∀ σ H, Pv n σ H → D.nx σ H) : ForL X N x body D J σ H :=
  for_it w Pv h0 hG (fun i y σ H H' hi p ⟨e, hy⟩ => by subst e; exact hs i y σ _ hi hy p) hd
theorem for_l {l : Addr} {xs : List V} (Pv : Nat → L2.St → Hp → Prop) (h0 : Pv 0 σ H) (hl : ∀ i σ H, i ≤ xs.length → Pv i σ H → SqL X.K H l xs)
    (hs : ∀ i y σ H, xs[i]? = some y → Pv i σ H → ∃ σ', Put N σ x y σ' ∧ WSs X body { D with nx := Pv (i + 1), ct := Pv (i + 1), bk := D.nx } σ' H) (hd : ∀ σ H, Pv xs.length σ H → D.nx σ H) : ForL X N x body D (Itl X.K l) σ H :=
  for_w (walk_list (xs := xs)) Pv h0 hl (fun i y σ H _ hy p => hs i y σ H hy p) hd
theorem for_t {l : Addr} {xs : List V} (Pv : Nat → L2.St → Hp → Prop) (h0 : Pv 0 σ H) (hl : ∀ i σ H, i ≤ xs.length → Pv i σ H → SqT X.K H l xs)
    (hs : ∀ i y σ H, xs[i]? = some y → Pv i σ H → ∃ σ', Put N σ x y σ' ∧ WSs X body { D with nx := Pv (i + 1), ct := Pv (i + 1), bk := D.nx } σ' H) (hd : ∀ σ H, Pv xs.length σ H → D.nx σ H) : ForL X N x body D (Itt X.K l) σ H :=
  for_w (walk_tup (xs := xs)) Pv h0 hl (fun i y σ H _ hy p => hs i y σ H hy p) hd
theorem for_r {n : Nat} (Pv : Nat → L2.St → Hp → Prop) (h0 : Pv 0 σ H)
    (hs : ∀ (i : Nat) σ H, i < n → Pv i σ H → ∃ σ', Put N σ x (.int i) σ' ∧ WSs X body { D with nx := Pv (i + 1), ct := Pv (i + 1), bk := D.nx } σ' H) (hd : ∀ σ H, Pv n σ H → D.nx σ H) : ForL X N x body D (Itr 0 n) σ H :=
  for_w (f := fun i v => v = .int (0 + i)) (walk_range (lo := 0) (n := n)) Pv h0 (fun _ _ _ _ _ => trivial) (fun i y σ H hi hy p => by
    subst hy
    have := hs i σ H hi p
    rw [Int.zero_add]
    exact this) hd

/-- for x in d, over a dict's keys: the dict is locked meanwhile -/
def lockE (d : Addr) (u : HO) (od : Obj) (D : Ends) : Ends := ⟨fun σ' H' => H' d = some (.frz od u) ∧ D.nx σ' (upd H' d u), fun v H' => H' d = some (.frz od u) ∧ D.rt v (upd H' d u), fun σ' H' => H' d = some (.frz od u) ∧ D.bk σ' (upd H' d u), fun σ' H' => H' d = some (.frz od u) ∧ D.ct σ' (upd H' d u)⟩
theorem s_forK {l : Addr} {kvs : List (Key × V)} (C : Fr X N L Vs G) (hx : x ∈ L) (hl : H l = some (.dK kvs)) (Pv : Obj → Nat → L2.St → Hp → Prop)
    (h : ∀ od, WE X e σ (upd H l (.frz od (.dK kvs))) fun v H1 => v = .ref l ∧ Pv od 0 σ H1)
    (hG : ∀ od i σ H, i ≤ kvs.length → Pv od i σ H → H l = some (.frz od (.dK kvs)))
    (hs : ∀ od (i : Nat) k v σ H, kvs[i]? = some (k, v) → Pv od i σ H → ∃ σ', Put N σ x (kV k) σ' ∧ WSs X body { lockE l (.dK kvs) od D with nx := Pv od (i + 1), ct := Pv od (i + 1), bk := (lockE l (.dK kvs) od D).nx } σ' H)
    (hd : ∀ od σ H, Pv od kvs.length σ H → D.nx σ (upd H l (.dK kvs)))
    (hf : ∀ x, foldedSetIterable e X.env x = pure x := by intro _; rfl) : WS X (.For (.Name x p) e body [] pos) D σ H := by
  refine .of (ps_lock (ps_for C.own C.calm (pi_keys (pe X e)) (pg_put C hx) (pss X body) hf)) ?_
  refine ⟨l, _, hl, trivial, fun od => ?_⟩
  refine (h od).mono ?_
  rintro v H1 ⟨rfl, p0⟩
  refine ⟨l, od, rfl, .inl ⟨kvs, hG od 0 σ H1 (Nat.zero_le _) p0, ?_⟩⟩
  exact for_it (D := lockE l (.dK kvs) od D) (walk_keys (kvs := kvs)) (Pv od) p0 (hG od) (fun i y σ H H' hi p ⟨e, k, v, h1, h2⟩ => by subst e; subst h2; exact hs od i k v σ _ h1 p) fun σ H p => ⟨hG od _ σ H (Nat.le_refl _) p, hd od σ H p⟩
/-- a statement with a word between it and what follows -/
theorem s_cut {st : Stmt} {sts : List Stmt} (Mid : L2.St → Hp → Prop) (h1 : WS X st { D with nx := Mid } σ H) (h2 : ∀ σ H, Mid σ H → WSs X sts D σ H) : WSs X (st :: sts) D σ H := s_cons (fun pins s I => thn (h1 pins s I) fun f s' q => by
  cases f with
  | next => obtain ⟨σ', H', J, q⟩ := q; exact ⟨σ', H', J, h2 σ' H' q⟩
  | brk => exact q
  | cont => exact q
  | ret u => exact q)
/-! ### while -/
theorem s_while (C : Fr X N L Vs G) (Pv : L2.St → Hp → Prop) (μ : L2.St → Hp → Nat) (h0 : Pv σ H)
    (hs : ∀ σ H, Pv σ H → WT X c σ H fun k H1 => if k = true then WSs X body { D with nx := fun σ' H' => Pv σ' H' ∧ μ σ' H' < μ σ H, ct := fun σ' H' => Pv σ' H' ∧ μ σ' H' < μ σ H, bk := D.nx } σ H1 else D.nx σ H1) : WS X (.While c body [] pos) D σ H :=
  .of (ps_while C.own (pt X c) (pss X body)) (while_by Pv μ h0 hs fun σ H Q Q' h w => w.mono h)

/-! ### blocks of comprehensions -/
theorem lookup_mapk {g : Str → NameKind → NameKind} {x : Str} : ∀ l : List (Str × NameKind), (l.map fun (n, k) => (n, g n k)).lookup x = (l.lookup x).map (g x)
  | [] => rfl
  | (n, k) :: r => by
    rw [List.map_cons, List.lookup_cons, List.lookup_cons]
    by_cases h : x = n
    · subst h; simp
    · have e : (x == n) = false := by simpa using h
      rw [e]
      exact lookup_mapk r
def blB (sc : Scope) (L Vs G : List Str) : Bool := L.all (fun x => match sc.names.lookup x with | some .local => true | _ => false)
  && Vs.all (fun x => match sc.names.lookup x with | some .local => true | some .cell => true | some .free => true | _ => false)
  && G.all (fun x => match sc.names.lookup x with | some .globalImplicit => true | _ => false)
  && G.all fun x => !(x == ("__debug__" : Str)) && !(x == ("__classdict__" : Str)) && !decide (x = "__name__")
theorem Fr.noG (C : Fr X N L Vs G) : Fr X N L Vs [] := ⟨C.n, C.nd, C.vis, C.loc, fun _ h => (nomatch h), fun y hy => C.nodbg y (by rw [List.append_nil] at hy; exact List.mem_append_left _ hy), C.calm, C.own⟩
/-- the block's own context -/
theorem Fr.blk {L' Vs' G' : List Str} (C : Fr X N L Vs G) {sc : Scope} (B : blB sc L' Vs' G' = true) (s : Shared) (H : Hp) (Cd : Addr) (cl : List (Str × Addr)) (fp : List Addr) : Fr (X.blk s H sc (compEnvC sc cl Cd X.env) fp) N L' Vs' G' := by
  unfold blB at B
  rw [Bool.and_eq_true, Bool.and_eq_true, Bool.and_eq_true, List.all_eq_true, List.all_eq_true, List.all_eq_true, List.all_eq_true] at B
  obtain ⟨B, Bd⟩ := B
  have key : ∀ x, (relabel sc X.env).names.lookup x = (sc.names.lookup x).map fun k => if (k == NameKind.free && X.env.scope.kind == ScopeKind.function && X.env.kindOf x == some NameKind.cell) then NameKind.cell else k := fun x => by
    have e : (relabel sc X.env).names = sc.names.map fun (n, k) => (n, (fun n k => if (k == NameKind.free && X.env.scope.kind == ScopeKind.function && X.env.kindOf n == some NameKind.cell) then NameKind.cell else k) n k) := by
      show (sc.names.map fun (n, k) => if (k == NameKind.free && X.env.scope.kind == ScopeKind.function && X.env.kindOf n == some NameKind.cell) then (n, NameKind.cell) else (n, k)) = _
      refine List.map_congr_left fun y _ => ?_
      obtain ⟨n, k⟩ := y
      show (if _ then _ else _) = (n, if _ then _ else _)
      split <;> rfl
    rw [e, lookup_mapk (g := fun n k => if (k == NameKind.free && X.env.scope.kind == ScopeKind.function && X.env.kindOf n == some NameKind.cell) then NameKind.cell else k)]
  refine ⟨C.n, C.nd, fun x hx => ?_, fun x hx => ?_, fun x hx => ?_, fun x hx => ?_, C.calm, PassesOwn.never⟩
  · have q := B.1.2 x hx
    show (relabel sc X.env).names.lookup x = _ ∨ (relabel sc X.env).names.lookup x = _ ∨ (relabel sc X.env).names.lookup x = _
    rw [key x]
    split at q
    · rename_i e; rw [e]; exact .inl rfl
    · rename_i e; rw [e]; exact .inr (.inl rfl)
    · rename_i e; rw [e]
      show (some (if _ then _ else _) = _) ∨ (some (if _ then _ else _) = _) ∨ (some (if _ then _ else _) = _)
      split
      · exact .inr (.inl rfl)
      · exact .inr (.inr rfl)
    · cases q
  · have q := B.1.1 x hx
    have e : sc.names.lookup x = some .local := by split at q <;> first | assumption | cases q
    have e2 : (relabel sc X.env).names.lookup x = some .local := by rw [key x, e]; rfl
    exact ⟨.inl e2, .inr e2⟩
  · have q := B.2 x hx
    have e : sc.names.lookup x = some .globalImplicit := by split at q <;> first | assumption | cases q
    show (relabel sc X.env).names.lookup x = _
    rw [key x, e]
    rfl
  · rcases List.mem_append.mp hx with hx | hx
    · exact C.nodbg x (List.mem_append_left _ hx)
    · have q := Bd x hx
      rw [Bool.and_eq_true, Bool.and_eq_true, Bool.not_eq_true', Bool.not_eq_true', Bool.not_eq_true', decide_eq_false_iff_not] at q
      exact ⟨q.1.1, q.1.2, q.2⟩
/-- within a block: at whatever state -/
def Blk (X : Cx) (sc : Scope) (Y : Cx) : Prop := ∃ s H C cl fp, Y = X.blk s H sc (compEnvC sc cl C X.env) fp
theorem Blk.fr {Y : Cx} {sc : Scope} {L' Vs' G' : List Str} (h : Blk X sc Y) (C : Fr X N L Vs G) (B : blB sc L' Vs' G' = true) : Fr Y N L' Vs' G' := by
  obtain ⟨s, H, Cd, cl, fp, rfl⟩ := h
  exact C.blk B s H Cd cl fp
structure BlkEq (X Y : Cx) : Prop where
  prog : Y.prog = X.prog
  w : Y.w = X.w
  K : Y.K = X.K
  mg : Y.mg = X.mg
  base : Y.base = X.base
  A : Y.A = X.A
theorem Blk.eq {Y : Cx} {sc : Scope} (h : Blk X sc Y) : BlkEq X Y := by
  obtain ⟨s, H, Cd, cl, fp, rfl⟩ := h
  exact ⟨rfl, rfl, rfl, rfl, rfl, rfl⟩
/-- a slot is emptied -/
inductive Wip : List Str → L2.St → Str → L2.St → Prop where
  | here {x : Str} {l : List Str} {o : Option V} {σ : L2.St} : Wip (x :: l) (o :: σ) x (none :: σ)
  | there {x y : Str} {l : List Str} {o : Option V} {σ σ' : L2.St} (h : Wip l σ x σ') : Wip (y :: l) (o :: σ) x (o :: σ')
theorem Wip.ix {l : List Str} {σ σ' : L2.St} {x : Str} (h : Wip l σ x σ') : ∃ i : Nat, l[i]? = some x ∧ σ' = σ.set i none := by
  induction h with
  | here => exact ⟨0, rfl, rfl⟩
  | there _ ih => obtain ⟨i, h1, h2⟩ := ih; exact ⟨i + 1, by simpa using h1, by simp [h2]⟩
def LcL (X : Cx) (N : List Str) (sc : Scope) (x : Str) (elt : Expr) (Q : VK) (J : It) (σ : L2.St) (H1 : Hp) : Prop := ∀ Dl, H1 Dl = none → ∃ W : Nat → Nat → Hp → Prop, (∃ m, W 0 m (upd H1 Dl (.lst []))) ∧ ∀ i m H, W i m H →
  (J.stop i H ∧ Q (.ref Dl) H) ∨ (J.go i H ∧ ∃ Nx : Hp → Prop, (∀ H', Nx H' → ∃ m', m' < m ∧ W (i + 1) m' H') ∧ ∀ y H', J.yld i H y H' → ∃ σ2, Put N σ x y σ2 ∧ ∀ Y, Blk X sc Y →
    WE Y elt σ2 H' fun z H4 => ∃ acc, H4 Dl = some (.lst acc) ∧ acc.length < sizeLine ∧ Nx (upd H4 Dl (.lst (acc ++ [z]))))
/-- [elt for x in iter]: σ' is σ without the block's own name -/
theorem w_lc {sc : Scope} {i : Nat} {σ' : L2.St} (C : Fr X N L Vs G) (B : blB sc [x] [] [] = true) (ok : BlkOk N X.env.scope sc [(x, i)]) (hi : N[i]? = some x) (hw : Wip N σ x σ') (h : WI1 X (.Name x p) iter σ H fun J H1 => LcL X N sc x elt Q J σ' H1)
    (hs : ∀ x, foldedSetIterable iter X.env x = pure x := by intro _; rfl) : WE X (.ListComp elt [⟨.Name x p, iter, [], 0⟩] sc pos) σ H Q := by
  obtain ⟨i', hi', rfl⟩ := hw.ix
  obtain rfl : i = i' := nodup_ix C.nd hi hi'
  refine .of (pe_lc (own := [(x, i)]) (g := fun v σ0 H Q => gName i v σ0 H Q) (tt := tYes) (te := fun σ H Q => ∀ Y, Blk X sc Y → WE Y elt σ H Q) C.calm (by rw [C.n]; exact C.nd) (pi1 X _ iter) (by rw [C.n]; exact ok) (fun s H Cd cl fp => ?_) (fun s H Cd cl fp => pts_nil) (fun s H Cd cl fp => ?_) hs) ?_
  · have F : Fr (X.blk s H sc (compEnvC sc cl Cd X.env) fp) N [x] [] [] := Fr.blk C.noG B s H Cd cl fp
    have hl := F.loc x List.mem_cons_self
    exact pg_name (by rw [F.n]; exact C.nd) (by rw [F.n]; exact hi) hl.1 hl.2
  · exact ⟨fun pins s' σ0 H0 Q0 I q => q _ ⟨s, H, Cd, cl, fp, rfl⟩ pins s' I⟩
  · intro pins s I
    refine thn (h pins s I) fun v s1 h1 => thn h1 fun itv s2 h2 => ?_
    obtain ⟨it, fp, tn, J, H2, e, I2, T, st2, f2, l⟩ := h2
    refine ⟨it, fp, tn, J, H2, e, I2, T, st2, f2, fun Dl hD => ?_⟩
    obtain ⟨W, w0, wt⟩ := l Dl hD
    refine ⟨W, w0, fun j m H hw => ?_⟩
    rcases wt j m H hw with q | ⟨q1, Nx, q2, q3⟩
    · exact .inl q
    · refine .inr ⟨q1, Nx, q2, fun y H' hy => ?_⟩
      obtain ⟨σ2, hp, q⟩ := q3 y H' hy
      obtain ⟨k, h1, h2⟩ := hp.ix
      have e : i = k := nodup_ix C.nd hi h1
      subst e
      subst h2
      show wipe ((wipe σ [i]).set i (some y)) [i] = wipe σ [i] ∧ _
      refine ⟨by unfold wipe; simp [wipe], ?_⟩
      show (if true = true then (∀ Y, Blk X sc Y → WE Y elt ((List.set σ i none).set i (some y)) H' fun z H4 => ∃ acc, H4 Dl = some (HO.lst acc) ∧ acc.length < sizeLine ∧ Nx (upd H4 Dl (HO.lst (acc ++ [z])))) else Nx H')
      rw [if_pos rfl]
      exact q
/-- .. by its word -/
theorem lc_w {sc : Scope} {J : It} {n : Nat} {Gd : Hp → Prop} {f : Nat → V → Prop} (w : Walk J n Gd (fun i H x H' => H' = H ∧ f i x)) (Pv : Addr → Nat → Hp → Prop) (h0 : ∀ Dl, H Dl = none → Pv Dl 0 (upd H Dl (.lst []))) (hG : ∀ Dl i H', H Dl = none → i ≤ n → Pv Dl i H' → Gd H')
    (hs : ∀ Dl i y H', H Dl = none → i < n → f i y → Pv Dl i H' → ∃ σ2, Put N σ x y σ2 ∧ ∀ Y, Blk X sc Y → WE Y elt σ2 H' fun z H4 => ∃ acc, H4 Dl = some (.lst acc) ∧ acc.length < sizeLine ∧ Pv Dl (i + 1) (upd H4 Dl (.lst (acc ++ [z]))))
    (hd : ∀ Dl H', H Dl = none → Pv Dl n H' → Q (.ref Dl) H') : LcL X N sc x elt Q J σ H := fun Dl hD => by
  refine ⟨fun i m H => m = n - i ∧ i ≤ n ∧ Pv Dl i H, ⟨n, by simp, Nat.zero_le _, h0 Dl hD⟩, ?_⟩
  rintro i m H' ⟨rfl, hi, p⟩
  have q := hG Dl i H' hD hi p
  by_cases hlt : i < n
  · refine .inr ⟨w.goes i H' hlt q, Pv Dl (i + 1), fun H' p' => ⟨n - (i + 1), by omega, rfl, hlt, p'⟩, fun y H2 hy => ?_⟩
    obtain ⟨e, hf⟩ := w.yields i H' y H2 hlt q hy
    subst e
    exact hs Dl i y _ hD hlt hf p
  · have e : i = n := by omega
    subst e
    exact .inl ⟨w.stops H' q, hd Dl H' hD p⟩
/-- all that was known stays where an object that wasn't known changes -/
theorem Same.mut {H H' : Hp} {q : Addr} {o : HO} (e : Same H H') (h : H q = none) : Same H (upd H' q o) := fun b u r => by
  rw [upd_ne (ne_of_none r h)]; exact e b u r
/-- the elements are values that don't hang on the heap: the list of them -/
theorem lc_vals {sc : Scope} {J : It} {n : Nat} {Gd : Hp → Prop} {f : Nat → V → Prop} (w : Walk J n Gd (fun i H x H' => H' = H ∧ f i x)) (g : Nat → V) (hn : n < 1000000) (hG : ∀ H', Same H H' → Gd H')
    (hs : ∀ i y H', i < n → f i y → Same H H' → ∃ σ2, Put N σ x y σ2 ∧ ∀ Y, Blk X sc Y → WE Y elt σ2 H' fun z H4 => Same H' H4 ∧ z = g i)
    (hd : ∀ l H', H l = none → Same H H' → H' l = some (.lst ((List.range n).map g)) → Q (.ref l) H') : LcL X N sc x elt Q J σ H := by
  refine lc_w w (fun Dl i H' => Same H H' ∧ H' Dl = some (.lst ((List.range i).map g)) ∧ i ≤ n) (fun Dl hD => ⟨same_new hD, upd_same, Nat.zero_le _⟩) (fun Dl i H' hD _ p => hG H' p.1) ?_ fun Dl H' hD p => hd Dl H' hD p.1 p.2.1
  rintro Dl i y H' hD hi hf ⟨p1, p2, p3⟩
  obtain ⟨σ2, hp, q⟩ := hs i y H' hi hf p1
  refine ⟨σ2, hp, fun Y hY => (q Y hY).mono ?_⟩
  rintro z H4 ⟨s4, rfl⟩
  refine ⟨(List.range i).map g, s4 _ _ p2, by rw [List.length_map, List.length_range]; exact szl (by omega), ?_⟩
  refine ⟨Same.mut (p1.trans s4) hD, ?_, hi⟩
  rw [upd_same, List.range_succ, List.map_append]
  rfl
end
end LM
namespace LM
open PySem PySem.Spec PyProof.Rows L2
theorem boot_max : bootBuiltins "max" = some (.builtin "max") := by decide +kernel
theorem boot_min : bootBuiltins "min" = some (.builtin "min") := by decide +kernel
theorem boot_all : bootBuiltins "all" = some (.builtin "all") := by decide +kernel
theorem boot_sum : bootBuiltins "sum" = some (.builtin "sum") := by decide +kernel
section
variable {X : Cx} {σ : L2.St} {H H' : Hp} {v : V} {A B : Prop} {p : Prop} [Decidable p]
theorem nx_mk {f b c : L2.St → Hp → Prop} {r : VK} (q : f σ H) : Ends.nx ⟨f, r, b, c⟩ σ H := q
theorem rt_mk {f b c : L2.St → Hp → Prop} {r : VK} (q : r v H) : Ends.rt ⟨f, r, b, c⟩ v H := q
theorem ite_dec (h1 : p → A) (h2 : ¬ p → B) : if decide p = true then A else B := by
  by_cases h : p
  · rw [decide_eq_true h, if_pos rfl]; exact h1 h
  · rw [decide_eq_false h, if_neg Bool.false_ne_true]; exact h2 h
theorem ite_ndec (h1 : ¬ p → A) (h2 : p → B) : if (!decide p) = true then A else B := by
  by_cases h : p
  · rw [decide_eq_true h]; exact h2 h
  · rw [decide_eq_false h]; exact h1 h
theorem ite_b {k : Bool} (h1 : k = true → A) (h2 : k = false → B) : if k = true then A else B := by
  cases k
  · exact h2 rfl
  · exact h1 rfl
theorem ite_nb {k : Bool} (h1 : k = false → A) (h2 : k = true → B) : if (!k) = true then A else B := by
  cases k
  · exact h1 rfl
  · exact h2 rfl
theorem ite_T (h : A) : if true = true then A else B := by rw [if_pos rfl]; exact h
theorem ite_F (h : B) : if false = true then A else B := by rw [if_neg Bool.false_ne_true]; exact h
theorem ite_nT (h : B) : if (!true) = true then A else B := h
theorem ite_nF (h : A) : if (!false) = true then A else B := h
theorem Same.at {H H' : Hp} {a : Addr} {o : HO} (e : Same H H') (h : H a = some o) : H' a = some o := e a o h
theorem Same.sqt {K : PySem.W.Frag} {H H' : Hp} {a : Addr} {xs : List V} (e : Same H H') (h : SqT K H a xs) : SqT K H' a xs := by
  rcases h with (h | ⟨o, h⟩) | h
  · exact .inl (.inl (e _ _ h))
  · exact .inl (.inr ⟨o, e _ _ h⟩)
  · exact .inr h
theorem Same.rd {H H' : Hp} {a : Addr} {u : HO} (e : Same H H') (h : Rd H a u) : Rd H' a u := by
  rcases h with h | ⟨o, h⟩
  · exact .inl (e _ _ h)
  · exact .inr ⟨o, e _ _ h⟩
theorem ex_put {N : List Str} {x : Str} {σ' : L2.St} {R : L2.St → Prop} (h : Put N σ x v σ') (q : R σ') : ∃ σ', Put N σ x v σ' ∧ R σ' := ⟨σ', h, q⟩
theorem ex_len {n : Nat} {R : Prop} (h : Nat.ble n 1000000 = true) (q : R) : n ≤ sizeLine ∧ R := ⟨sz (Nat.le_of_ble_eq_true h), q⟩
theorem noSl_str {z : Str} {j} {pos : Pos} : NoSl (.Constant (.str z) j pos) := fun _ _ => rfl
theorem x_str {s : Str} {R : Str → Prop} (q : R s) : ∃ z, V.str s = .str z ∧ R z := ⟨s, rfl, q⟩
theorem x_sq {K : PySem.W.Frag} {p : Addr} {xs : List V} {R : Addr → Prop} (h : SqL K H p xs) (q : R p) : ∃ l xs, V.ref p = .ref l ∧ SqL K H l xs ∧ R l := ⟨p, xs, rfl, h, q⟩
theorem x_app {l : Addr} {xs : List V} {R : List V → Prop} (h : H l = some (.lst xs)) (hl : xs.length < 1000000) (q : R xs) : ∃ xs, H l = some (.lst xs) ∧ xs.length < sizeLine ∧ R xs := ⟨xs, h, szl hl, q⟩
theorem ite_lenT {xs : List V} {i : Int} (h : Int.ofNat xs.length = i) (q : A) : if decide ((xs.length : Int) = i) = true then A else B := by
  rw [decide_eq_true (show (xs.length : Int) = i from h), if_pos rfl]
  exact q
theorem ite_lenF {xs : List V} {i : Int} (h : decide (Int.ofNat xs.length = i) = false) (q : B) : if decide ((xs.length : Int) = i) = true then A else B := by
  rw [decide_eq_false (show ¬ (xs.length : Int) = i from of_decide_eq_false h), if_neg Bool.false_ne_true]
  exact q
theorem ite_nlT {xs : List V} {i : Int} (h : decide (Int.ofNat xs.length = i) = false) (q : A) : if (!decide ((xs.length : Int) = i)) = true then A else B := by
  rw [decide_eq_false (show ¬ (xs.length : Int) = i from of_decide_eq_false h)]
  exact q
theorem ite_nlF {xs : List V} {i : Int} (h : Int.ofNat xs.length = i) (q : B) : if (!decide ((xs.length : Int) = i)) = true then A else B := by
  rw [decide_eq_true (show (xs.length : Int) = i from h)]
  exact q
theorem sq_all {K : PySem.W.Frag} {a : Addr} {xs : List V} (h : ∀ H, SqT K H a xs) : SqT K H a xs := h H
theorem ty_all : True := trivial
theorem x_st {K : PySem.W.Frag} {p : Addr} {xs : List V} {R : Addr → Prop} (h : SqT K H p xs) (q : R p) : ∃ l xs, V.ref p = .ref l ∧ SqT K H l xs ∧ R l := ⟨p, xs, rfl, h, q⟩
theorem ite_bT {b : Bool} (h : b = true) (q : A) : if b = true then A else B := by rw [if_pos h]; exact q
theorem ite_bF {b : Bool} (h : b = false) (q : B) : if b = true then A else B := by rw [h, if_neg Bool.false_ne_true]; exact q
end
theorem tyx_lst {K : PySem.W.Frag} {H : Hp} {a : Addr} {xs : List V} (h : SqL K H a xs) : TyX K H (.ref a) (.type "list") := by
  rcases h with (h | ⟨o, h⟩) | ⟨o, its, n, h1, h2, _⟩
  · exact .base (.lst h)
  · exact .base (.frz h)
  · exact .kList h1 h2
theorem tyx_tup {K : PySem.W.Frag} {H : Hp} {a : Addr} {xs : List V} (h : SqT K H a xs) : TyX K H (.ref a) (.type "tuple") := by
  rcases h with (h | ⟨o, h⟩) | ⟨o, its, n, h1, h2, _⟩
  · exact .base (.tup h)
  · exact .fTuple h
  · exact .kTuple h1 h2
section
variable {X : Cx} {H : Hp} {Q : VK}
theorem ki_str_str {s : Str} (q : Q (.bl true) H) : WB1 X (.builtin "isinstance") [.str s, .ty "str"] H Q := k_isi (T := "str") (.base (.str s)) (by decide +kernel) q
theorem ki_str_int {s : Str} (q : Q (.bl false) H) : WB1 X (.builtin "isinstance") [.str s, .ty "int"] H Q := k_isi (T := "str") (.base (.str s)) (by decide +kernel) q
theorem ki_str_bool {s : Str} (q : Q (.bl false) H) : WB1 X (.builtin "isinstance") [.str s, .ty "bool"] H Q := k_isi (T := "str") (.base (.str s)) (by decide +kernel) q
theorem ki_str_list {s : Str} (q : Q (.bl false) H) : WB1 X (.builtin "isinstance") [.str s, .ty "list"] H Q := k_isi (T := "str") (.base (.str s)) (by decide +kernel) q
theorem ki_str_tuple {s : Str} (q : Q (.bl false) H) : WB1 X (.builtin "isinstance") [.str s, .ty "tuple"] H Q := k_isi (T := "str") (.base (.str s)) (by decide +kernel) q
theorem ki_str_dict {s : Str} (q : Q (.bl false) H) : WB1 X (.builtin "isinstance") [.str s, .ty "dict"] H Q := k_isi (T := "str") (.base (.str s)) (by decide +kernel) q
theorem ki_int_str {s : Int} (q : Q (.bl false) H) : WB1 X (.builtin "isinstance") [.int s, .ty "str"] H Q := k_isi (T := "int") (.base (.int s)) (by decide +kernel) q
theorem ki_int_int {s : Int} (q : Q (.bl true) H) : WB1 X (.builtin "isinstance") [.int s, .ty "int"] H Q := k_isi (T := "int") (.base (.int s)) (by decide +kernel) q
theorem ki_int_bool {s : Int} (q : Q (.bl false) H) : WB1 X (.builtin "isinstance") [.int s, .ty "bool"] H Q := k_isi (T := "int") (.base (.int s)) (by decide +kernel) q
theorem ki_int_list {s : Int} (q : Q (.bl false) H) : WB1 X (.builtin "isinstance") [.int s, .ty "list"] H Q := k_isi (T := "int") (.base (.int s)) (by decide +kernel) q
theorem ki_int_tuple {s : Int} (q : Q (.bl false) H) : WB1 X (.builtin "isinstance") [.int s, .ty "tuple"] H Q := k_isi (T := "int") (.base (.int s)) (by decide +kernel) q
theorem ki_int_dict {s : Int} (q : Q (.bl false) H) : WB1 X (.builtin "isinstance") [.int s, .ty "dict"] H Q := k_isi (T := "int") (.base (.int s)) (by decide +kernel) q
theorem ki_bool_str {s : Bool} (q : Q (.bl false) H) : WB1 X (.builtin "isinstance") [.bl s, .ty "str"] H Q := k_isi (T := "bool") (.base (.bl s)) (by decide +kernel) q
theorem ki_bool_int {s : Bool} (q : Q (.bl true) H) : WB1 X (.builtin "isinstance") [.bl s, .ty "int"] H Q := k_isi (T := "bool") (.base (.bl s)) (by decide +kernel) q
theorem ki_bool_bool {s : Bool} (q : Q (.bl true) H) : WB1 X (.builtin "isinstance") [.bl s, .ty "bool"] H Q := k_isi (T := "bool") (.base (.bl s)) (by decide +kernel) q
theorem ki_bool_list {s : Bool} (q : Q (.bl false) H) : WB1 X (.builtin "isinstance") [.bl s, .ty "list"] H Q := k_isi (T := "bool") (.base (.bl s)) (by decide +kernel) q
theorem ki_bool_tuple {s : Bool} (q : Q (.bl false) H) : WB1 X (.builtin "isinstance") [.bl s, .ty "tuple"] H Q := k_isi (T := "bool") (.base (.bl s)) (by decide +kernel) q
theorem ki_bool_dict {s : Bool} (q : Q (.bl false) H) : WB1 X (.builtin "isinstance") [.bl s, .ty "dict"] H Q := k_isi (T := "bool") (.base (.bl s)) (by decide +kernel) q
theorem ki_NoneType_str (q : Q (.bl false) H) : WB1 X (.builtin "isinstance") [.non, .ty "str"] H Q := k_isi (T := "NoneType") (.base .non) (by decide +kernel) q
theorem ki_NoneType_int (q : Q (.bl false) H) : WB1 X (.builtin "isinstance") [.non, .ty "int"] H Q := k_isi (T := "NoneType") (.base .non) (by decide +kernel) q
theorem ki_NoneType_bool (q : Q (.bl false) H) : WB1 X (.builtin "isinstance") [.non, .ty "bool"] H Q := k_isi (T := "NoneType") (.base .non) (by decide +kernel) q
theorem ki_NoneType_list (q : Q (.bl false) H) : WB1 X (.builtin "isinstance") [.non, .ty "list"] H Q := k_isi (T := "NoneType") (.base .non) (by decide +kernel) q
theorem ki_NoneType_tuple (q : Q (.bl false) H) : WB1 X (.builtin "isinstance") [.non, .ty "tuple"] H Q := k_isi (T := "NoneType") (.base .non) (by decide +kernel) q
theorem ki_NoneType_dict (q : Q (.bl false) H) : WB1 X (.builtin "isinstance") [.non, .ty "dict"] H Q := k_isi (T := "NoneType") (.base .non) (by decide +kernel) q
theorem ki_list_str {p : Addr} {xs : List V} (h : SqL X.K H p xs) (q : Q (.bl false) H) : WB1 X (.builtin "isinstance") [.ref p, .ty "str"] H Q := k_isi (T := "list") (tyx_lst h) (by decide +kernel) q
theorem ki_list_int {p : Addr} {xs : List V} (h : SqL X.K H p xs) (q : Q (.bl false) H) : WB1 X (.builtin "isinstance") [.ref p, .ty "int"] H Q := k_isi (T := "list") (tyx_lst h) (by decide +kernel) q
theorem ki_list_bool {p : Addr} {xs : List V} (h : SqL X.K H p xs) (q : Q (.bl false) H) : WB1 X (.builtin "isinstance") [.ref p, .ty "bool"] H Q := k_isi (T := "list") (tyx_lst h) (by decide +kernel) q
theorem ki_list_list {p : Addr} {xs : List V} (h : SqL X.K H p xs) (q : Q (.bl true) H) : WB1 X (.builtin "isinstance") [.ref p, .ty "list"] H Q := k_isi (T := "list") (tyx_lst h) (by decide +kernel) q
theorem ki_list_tuple {p : Addr} {xs : List V} (h : SqL X.K H p xs) (q : Q (.bl false) H) : WB1 X (.builtin "isinstance") [.ref p, .ty "tuple"] H Q := k_isi (T := "list") (tyx_lst h) (by decide +kernel) q
theorem ki_list_dict {p : Addr} {xs : List V} (h : SqL X.K H p xs) (q : Q (.bl false) H) : WB1 X (.builtin "isinstance") [.ref p, .ty "dict"] H Q := k_isi (T := "list") (tyx_lst h) (by decide +kernel) q
theorem ki_tuple_str {p : Addr} {xs : List V} (h : SqT X.K H p xs) (q : Q (.bl false) H) : WB1 X (.builtin "isinstance") [.ref p, .ty "str"] H Q := k_isi (T := "tuple") (tyx_tup h) (by decide +kernel) q
theorem ki_tuple_int {p : Addr} {xs : List V} (h : SqT X.K H p xs) (q : Q (.bl false) H) : WB1 X (.builtin "isinstance") [.ref p, .ty "int"] H Q := k_isi (T := "tuple") (tyx_tup h) (by decide +kernel) q
theorem ki_tuple_bool {p : Addr} {xs : List V} (h : SqT X.K H p xs) (q : Q (.bl false) H) : WB1 X (.builtin "isinstance") [.ref p, .ty "bool"] H Q := k_isi (T := "tuple") (tyx_tup h) (by decide +kernel) q
theorem ki_tuple_list {p : Addr} {xs : List V} (h : SqT X.K H p xs) (q : Q (.bl false) H) : WB1 X (.builtin "isinstance") [.ref p, .ty "list"] H Q := k_isi (T := "tuple") (tyx_tup h) (by decide +kernel) q
theorem ki_tuple_tuple {p : Addr} {xs : List V} (h : SqT X.K H p xs) (q : Q (.bl true) H) : WB1 X (.builtin "isinstance") [.ref p, .ty "tuple"] H Q := k_isi (T := "tuple") (tyx_tup h) (by decide +kernel) q
theorem ki_tuple_dict {p : Addr} {xs : List V} (h : SqT X.K H p xs) (q : Q (.bl false) H) : WB1 X (.builtin "isinstance") [.ref p, .ty "dict"] H Q := k_isi (T := "tuple") (tyx_tup h) (by decide +kernel) q
theorem ki_dict_str {p : Addr} {kvs : List (Key × V)} (h : H p = some (.dK kvs)) (q : Q (.bl false) H) : WB1 X (.builtin "isinstance") [.ref p, .ty "str"] H Q := k_isi (T := "dict") (.base (.dK h)) (by decide +kernel) q
theorem ki_dict_int {p : Addr} {kvs : List (Key × V)} (h : H p = some (.dK kvs)) (q : Q (.bl false) H) : WB1 X (.builtin "isinstance") [.ref p, .ty "int"] H Q := k_isi (T := "dict") (.base (.dK h)) (by decide +kernel) q
theorem ki_dict_bool {p : Addr} {kvs : List (Key × V)} (h : H p = some (.dK kvs)) (q : Q (.bl false) H) : WB1 X (.builtin "isinstance") [.ref p, .ty "bool"] H Q := k_isi (T := "dict") (.base (.dK h)) (by decide +kernel) q
theorem ki_dict_list {p : Addr} {kvs : List (Key × V)} (h : H p = some (.dK kvs)) (q : Q (.bl false) H) : WB1 X (.builtin "isinstance") [.ref p, .ty "list"] H Q := k_isi (T := "dict") (.base (.dK h)) (by decide +kernel) q
theorem ki_dict_tuple {p : Addr} {kvs : List (Key × V)} (h : H p = some (.dK kvs)) (q : Q (.bl false) H) : WB1 X (.builtin "isinstance") [.ref p, .ty "tuple"] H Q := k_isi (T := "dict") (.base (.dK h)) (by decide +kernel) q
theorem ki_dict_dict {p : Addr} {kvs : List (Key × V)} (h : H p = some (.dK kvs)) (q : Q (.bl true) H) : WB1 X (.builtin "isinstance") [.ref p, .ty "dict"] H Q := k_isi (T := "dict") (.base (.dK h)) (by decide +kernel) q
end
end LM
namespace LM
open PySem PySem.Spec PyProof.Rows L2
/-! ### own classes: fields, methods, new instances -/
/-- the method m of the class at C stands as the text says -/
def MDef (K : PySem.W.Frag) (C : Addr) (m q : Str) (st : Stmt) (ps : List Str) : Prop := ∃ f fd, Fun K m q st f fd ∧ Meth K C m f ∧ Binds K fd ps []
def MOk (P : Program) (w : World) (K : PySem.W.Frag) (mg : Str → Option Value) (base : Heap) (k : Nat) (C : Addr) (m : Str) (ps : List Str) (sp : Sp) : Prop :=
  ∃ f fd, FnOk P w K mg base CX0 k f fd ps sp ∧ Meth K C m f ∧ Binds K fd ps []
theorem MDef.ok {P : Program} {w : World} {K : PySem.W.Frag} {mg : Str → Option Value} {base : Heap} {C : Addr} {m q : Str} {st : Stmt} {N L ps G : List Str} {k : Nat} {sp : Sp} (F : MDef K C m q st ps) (S : FnScope N ps (defScope st)) (B : scB (defScope st) N L G = true)
    (len : ∀ vs H Q E, sp vs H Q E → vs.length = ps.length)
    (hbody : ∀ X : Cx, X.prog = P → X.w = w → X.K = K → X.mg = mg → X.base = base → Fr X N L L G → X.env.scope = defScope st → Room k X.A → ∀ (vs : List V) (H : Hp) (Q : VK) (E : XK), sp vs H Q E → WSs X (defBody st) { nx := fun _ H' => Q .non H', rt := Q } (start N vs) H) :
    MOk P w K mg base (k + 1) C m ps sp := by
  obtain ⟨f, fd, F, M, b⟩ := F
  refine ⟨f, fd, ?_, M, b⟩
  refine F.ok S len fun cdv A outer s H vs Q E hr h => ?_
  refine ⟨_, pss _ _, hbody _ rfl rfl rfl rfl rfl ⟨rfl, S.nd, fun y hy => ?_, fun y hy => ?_, fun y hy => ?_, scB_nodbg B, rfl, PassesOwn.never⟩ rfl hr vs H Q E h⟩
  · rcases scB_loc B y hy with q | q
    · exact .inl q
    · exact .inr (.inl q)
  · exact ⟨scB_loc B y hy, .inl rfl⟩
  · exact scB_gl B y hy
section
variable {X : Cx} {N L Vs G : List Str} {e o value : Expr} {es : List Expr} {σ : L2.St} {H : Hp} {Q : VK} {pos p apos pos' : Pos} {f x : Str} {C : Addr} {D : Ends}
theorem w_fld (h : WE X e σ H fun x H1 => ∃ a C dx fs v, x = .ref a ∧ H1 a = some (.ins C dx fs) ∧ Cls X.K C ∧ NoAttr X.K C f ∧ fs.lookup f = some v ∧ Q v H1) (hb : attributeBase e f X.env (eval e X.env) = eval e X.env := by rfl) : WE X (.Attribute e f pos) σ H Q :=
  .of (pe_fld (pe X e) hb) h
theorem s_fld (h : WE X value σ H fun y H1 => WE X o σ H1 fun x H2 => ∃ a C dx fs, x = .ref a ∧ H2 a = some (.ins C dx fs) ∧ Cls X.K C ∧ NoAttr X.K C f ∧ fs.length < 1000 ∧ D.nx σ (upd H2 a (.ins C dx (putF f y fs))))
    (hs : swapsWith value (some (.Attribute o f pos')) pos.line X.env = pure false := by rfl) : WS X (.Assign [.Attribute o f pos'] value pos) D σ H := .of (ps_fld (pe X o) (pe X value) hs) h
theorem w_meth {k k' : Nat} {m : Str} {ps : List Str} {sp : Sp} {pl : Sem Bool} (c : Cls X.K C) (F : MOk X.prog X.w X.K X.mg X.base k C m ps sp) (hr : Room k' X.A) (hk : k ≤ k')
    (h : WE X o σ H fun x H1 => ∃ a dx fs, x = .ref a ∧ H1 a = some (.ins C dx fs) ∧ fs.lookup m = none ∧ WA X (e :: es) σ H1 fun vs H2 => sp (x :: vs) H2 Q E0)
    (hst : starEach (e :: es) X.env = (false, eval e X.env) :: starEach es X.env := by rfl) (hpl : (backTo pos (starEach es X.env)).any (·.1) = false := by rfl)
    (ht : eval (.Call (.Attribute o m apos) (e :: es) [] pos) X.env = (do
      let ov ← eval o X.env
      standAt apos.atName
      let (f, first) ← holding [ov] (getMethod ov m pl)
      callWith pos f first (backTo pos (starEach (e :: es) X.env)) (backToKw pos (keywordEach [] X.env))) := by rfl) : WE X (.Call (.Attribute o m apos) (e :: es) [] pos) σ H Q := by
  obtain ⟨g, fd, F, M, b⟩ := F
  refine .of (pe_meth (pl := pl) (pe X o) c M F (hr.mono hk) b .nil pass0 (pa X (e :: es)) hst hpl ht) ?_
  refine h.mono fun x H1 ⟨a, dx, fs, e1, e2, e3, q⟩ => ⟨a, dx, fs, e1, e2, e3, fun pos pins s I => thn (q pos pins s I) fun us s1 ⟨vs, H2, I2, r, z⟩ => ⟨vs, H2, I2, r, (by show sp (x :: (vs ++ [])) H2 Q E0; rw [List.append_nil]; exact z)⟩⟩
theorem w_meth0 {k k' : Nat} {m : Str} {ps : List Str} {sp : Sp} {pl : Sem Bool} (c : Cls X.K C) (F : MOk X.prog X.w X.K X.mg X.base k C m ps sp) (hr : Room k' X.A) (hk : k ≤ k')
    (h : WE X o σ H fun x H1 => ∃ a dx fs, x = .ref a ∧ H1 a = some (.ins C dx fs) ∧ fs.lookup m = none ∧ sp [x] H1 Q E0)
    (ht : eval (.Call (.Attribute o m apos) [] [] pos) X.env = (do
      let ov ← eval o X.env
      standAt apos.atName
      let (f, first) ← holding [ov] (getMethod ov m pl)
      callWith pos f first (backTo pos (starEach [] X.env)) (backToKw pos (keywordEach [] X.env))) := by rfl) : WE X (.Call (.Attribute o m apos) [] [] pos) σ H Q := by
  obtain ⟨g, fd, F, M, b⟩ := F
  refine .of (pe_meth0 (pl := pl) (pe X o) c M F (hr.mono hk) b .nil pass0 ht) ?_
  exact h.mono fun x H1 ⟨a, dx, fs, e1, e2, e3, q⟩ => ⟨a, dx, fs, e1, e2, e3, q⟩
theorem w_make {k k' : Nat} {ps : List Str} {sp : Sp} (Cx : Fr X N L Vs G) (F : MOk X.prog X.w X.K X.mg X.base k C "__init__" ps sp) (mk : PySem.W.makesIn X.K C = true) (kc : PySem.W.keepIn X.K (.ref C) = true) (hr : Room k' X.A) (hk : k + 1 ≤ k') (hx : x ∈ G) (hm : X.mg x = some (.ref C))
    (h : WA X (e :: es) σ H fun vs H1 => ∀ x dx, H1 x = none → H1 dx = none → dx ≠ x → sp (.ref x :: vs) (upd (upd H1 dx (.own x)) x (.ins C dx [])) (fun v H2 => v = .non ∧ Q (.ref x) H2) E0)
    (he : starEach (e :: es) X.env = (false, eval e X.env) :: starEach es X.env := by rfl) (hpl : (backTo pos (starEach es X.env)).any (·.1) = false := by rfl) : WE X (.Call (.Name x p) (e :: es) [] pos) σ H Q := by
  obtain ⟨g, fd, F, M, b⟩ := F
  refine .of (pe_make (dvs := []) (ds := []) ⟨mk, M.at_, M.fn, kc⟩ F (hr.mono hk) (Cx.gl x hx) hm b .nil pass0 (pa X (e :: es)) (Cx.nodbg x (List.mem_append_right _ hx)).1 he hpl) ?_
  exact fun pos pins s I => thn (h pos pins s I) fun us s1 ⟨vs, H2, I2, r, z⟩ => ⟨vs, H2, I2, r, fun y dx a1 a2 a3 => (by rw [List.append_nil]; exact z y dx a1 a2 a3)⟩
end
end LM
namespace LM
open PySem PySem.Spec PyProof.Rows L2
/-! ### what is raised, what is caught -/
structure Tr (X : Cx) : Prop where
  hs : X.stack = X.env :: X.outer
  hf : X.env.frame = some X.env.locals
/-- a def that may raise keeps a promise -/
def CallX (P : Program) (w : World) (K : PySem.W.Frag) (mg : Str → Option Value) (base : Heap) (k : Nat) (x : Str) (ps : List Str) (sp : Sp) : Prop :=
  ∃ f fd, FnOk P w K mg base (L2.CX P w) k f fd ps sp ∧ mg x = some (.ref f) ∧ PySem.W.keepIn K (.ref f) = true ∧ Binds K fd ps []
theorem CallX.mono {P : Program} {w : World} {K : PySem.W.Frag} {mg : Str → Option Value} {base : Heap} {j k : Nat} {x : Str} {ps : List Str} {sp : Sp} (c : CallX P w K mg base j x ps sp) (h : j ≤ k) : CallX P w K mg base k x ps sp :=
  let ⟨f, fd, F, m, kp, b⟩ := c
  ⟨f, fd, F.mono h, m, kp, b⟩
theorem Def.okX {P : Program} {w : World} {K : PySem.W.Frag} {mg : Str → Option Value} {base : Heap} {x : Str} {st : Stmt} {N L ps G : List Str} {k : Nat} {sp : Sp} (F : Def K mg x st ps) (S : FnScope N ps (defScope st)) (B : scB (defScope st) N L G = true)
    (len : ∀ vs H Q E, sp vs H Q E → vs.length = ps.length)
    (hbody : ∀ X : Cx, X.prog = P → X.w = w → X.K = K → X.mg = mg → X.base = base → Fr X N L L G → Tr X → X.env.scope = defScope st → Room k X.A → ∀ (vs : List V) (H : Hp) (Q : VK) (E : XK), Takes X (fun cls d _ H' => E cls d H') → sp vs H Q E → WSs X (defBody st) { nx := fun _ H' => Q .non H', rt := Q } (start N vs) H) :
    CallX P w K mg base (k + 1) x ps sp := by
  obtain ⟨f, fd, F, m, b⟩ := F
  refine ⟨f, fd, ?_, m, F.kp, b⟩
  refine F.okX S len fun cdv A outer s H vs Q E hr h => ?_
  refine ⟨_, pss _ _, hbody _ rfl rfl rfl rfl rfl ⟨rfl, S.nd, fun y hy => ?_, fun y hy => ?_, fun y hy => ?_, scB_nodbg B, rfl, passes_of rfl⟩ ⟨rfl, rfl⟩ rfl hr vs H Q E (takes_of rfl rfl rfl rfl) h⟩
  · rcases scB_loc B y hy with q | q
    · exact .inl q
    · exact .inr (.inl q)
  · exact ⟨scB_loc B y hy, .inl rfl⟩
  · exact scB_gl B y hy
/-- a def that raises nothing, with a try in it -/
theorem Def.okT {P : Program} {w : World} {K : PySem.W.Frag} {mg : Str → Option Value} {base : Heap} {x : Str} {st : Stmt} {N L ps G : List Str} {k : Nat} {sp : Sp} (F : Def K mg x st ps) (S : FnScope N ps (defScope st)) (B : scB (defScope st) N L G = true)
    (len : ∀ vs H Q E, sp vs H Q E → vs.length = ps.length)
    (hbody : ∀ X : Cx, X.prog = P → X.w = w → X.K = K → X.mg = mg → X.base = base → Fr X N L L G → Tr X → X.env.scope = defScope st → Room k X.A → ∀ (vs : List V) (H : Hp) (Q : VK) (E : XK), sp vs H Q E → WSs X (defBody st) { nx := fun _ H' => Q .non H', rt := Q } (start N vs) H) :
    CallOk P w K mg base (k + 1) x ps sp := by
  obtain ⟨f, fd, F, m, b⟩ := F
  refine ⟨f, fd, ?_, m, F.kp, b⟩
  refine F.ok S len fun cdv A outer s H vs Q E hr h => ?_
  refine ⟨_, pss _ _, hbody _ rfl rfl rfl rfl rfl ⟨rfl, S.nd, fun y hy => ?_, fun y hy => ?_, fun y hy => ?_, scB_nodbg B, rfl, PassesOwn.never⟩ ⟨rfl, rfl⟩ rfl hr vs H Q E h⟩
  · rcases scB_loc B y hy with q | q
    · exact .inl q
    · exact .inr (.inl q)
  · exact ⟨scB_loc B y hy, .inl rfl⟩
  · exact scB_gl B y hy
/-- within a try's body -/
theorem Fr.tr {X : Cx} {N L Vs G : List Str} (C : Fr X N L Vs G) {pn : List (Addr × Obj)} {xe : Value → Shared → Prop} (o : PassesOwn (model X.prog X.w) X.A X.env xe) : Fr (X.tr pn xe) N L Vs G := ⟨C.n, C.nd, C.vis, C.loc, C.gl, C.nodbg, C.calm, o⟩
/-- within an except clause's suite -/
structure FrS (X : Cx) (N L V G : List Str) : Prop where
  n : X.N = N
  nd : N.Nodup
  vis : ∀ x ∈ V, Vis X.env.scope x
  loc : ∀ x ∈ L, Loc X.env.scope x ∧ (X.fn x = true ∨ X.env.scope.names.lookup x = some .local)
  gl : ∀ x ∈ G, Gl X x
  nodbg : ∀ x ∈ N ++ G, (x == ("__debug__" : Str)) = false ∧ (x == ("__classdict__" : Str)) = false ∧ x ≠ "__name__"
theorem Fr.suite {X : Cx} {N L Vs G : List Str} (C : Fr X N L Vs G) {a : Addr} {pn : List (Addr × Obj)} : FrS (X.suite a pn) N L Vs G := ⟨C.n, C.nd, C.vis, C.loc, C.gl, C.nodbg⟩
section
variable {X : Cx} {N L Vs G : List Str} {e a b c : Expr} {es : List Expr} {σ : L2.St} {H : Hp} {Q : VK} {pos p : Pos} {x f : Str} {v : V} {D : Ends} {W : WX}
theorem w_nameS (C : FrS X N L Vs G) (h : At N σ x v) (hx : x ∈ Vs) (q : Q v H) : WE X (.Name x pos) σ H Q := by
  obtain ⟨i, h1, h2⟩ := h.ix
  have d := C.nodbg x (List.mem_append_left _ (List.mem_of_getElem? h1))
  exact .of (pe_var (i := i) (by rw [C.n]; exact h1) (C.vis x hx) d.1 d.2.1) ⟨v, h2, q⟩
theorem w_globRS {g : Addr} (C : FrS X N L Vs G) (hx : x ∈ G) (hm : X.mg x = some (.ref g)) (q : Q (.ref g) H) : WE X (.Name x pos) σ H Q :=
  .of (pe_glob (C.gl x hx) hm (v := .ref g) rfl (C.nodbg x (List.mem_append_right _ hx)).1) q
theorem w_tyS {T : String} (C : FrS X N L Vs G) (hx : f ∈ G) (hm : X.mg f = none) (hv : bootBuiltins f = some (.type T)) (q : Q (.ty T) H) : WE X (.Name f pos) σ H Q :=
    .of (pe_bltn (v := .ty T) (C.gl f hx) hm hv rfl (C.nodbg f (List.mem_append_right _ hx)).2.2 (C.nodbg f (List.mem_append_right _ hx)).1) q
theorem w_callBS {id : String} (C : FrS X N L Vs G) (hx : f ∈ G) (hm : X.mg f = none) (hv : bootBuiltins f = some (.builtin id)) (h : WA X (e :: es) σ H fun vs H1 => WB1 X (.builtin id) vs H1 Q)
    (he : starEach (e :: es) X.env = (false, eval e X.env) :: starEach es X.env) (hpl : (backTo pos (starEach es X.env)).any (·.1) = false) : WE X (.Call (.Name f p) (e :: es) [] pos) σ H Q :=
  .of (pe_callB (r := fun vs H Q => WB1 X (.builtin id) vs H Q) (fun pins s σ H xs us Q I r ⟨t, o, q⟩ => o pins s σ H xs us Q I r q) (C.gl f hx) hm hv (pa X _) (C.nodbg f (List.mem_append_right _ hx)).2.2 (C.nodbg f (List.mem_append_right _ hx)).1 he hpl) h
theorem w_callTyS {T : String} (C : FrS X N L Vs G) (hx : f ∈ G) (hm : X.mg f = none) (hv : bootBuiltins f = some (.type T)) (h : WA X (e :: es) σ H fun vs H1 => WB1 X (.type T) vs H1 Q)
    (he : starEach (e :: es) X.env = (false, eval e X.env) :: starEach es X.env) (hpl : (backTo pos (starEach es X.env)).any (·.1) = false) : WE X (.Call (.Name f p) (e :: es) [] pos) σ H Q :=
  .of (pe_callTy (r := fun vs H Q => WB1 X (.type T) vs H Q) (fun pins s σ H xs us Q I r ⟨t, o, q⟩ => o pins s σ H xs us Q I r q) (C.gl f hx) hm hv (pa X _) (C.nodbg f (List.mem_append_right _ hx)).2.2 (C.nodbg f (List.mem_append_right _ hx)).1 he hpl) h
theorem s_setS {pos' : Pos} (C : FrS X N L Vs G) (hx : x ∈ L) (h : WE X e σ H fun v H1 => ∃ σ', Put N σ x v σ' ∧ D.nx σ' H1) (hs : swapsWith e (some (.Name x pos')) pos.line X.env = pure false) : WS X (.Assign [.Name x pos'] e pos) D σ H := fun pins s I => by
  have hl := C.loc x hx
  by_cases hi : x ∈ X.N
  · obtain ⟨i, hi⟩ := List.getElem?_of_mem hi
    refine (ps_set (i := i) (by rw [C.n]; exact C.nd) hi hl.1 (pe X e) hs hl.2).run pins s σ H D I (h.mono ?_)
    rintro v H' ⟨σ', hp, q⟩
    obtain ⟨j, h1, h2⟩ := hp.ix
    have e : i = j := nodup_ix C.nd (by rw [← C.n]; exact hi) h1
    subst e
    rw [h2] at q
    exact q
  · refine wpAny_Assign_Name (thn (h pins s I) fun v s1 ⟨y, H1, I1, r1, σ', hp, q⟩ => ?_) hs
    obtain ⟨j, h1, h2⟩ := hp.ix
    exact absurd (by rw [C.n]; exact List.mem_of_getElem? h1) hi
/-- a call of a def that may raise -/
theorem w_callX {k k' : Nat} {ps : List Str} {sp : Sp} (C : Fr X N L Vs G) (tk : Takes X W) (F : CallX X.prog X.w X.K X.mg X.base k f ps sp) (hr : Room k' X.A) (hk : k ≤ k') (hx : f ∈ G) (h : WA X (e :: es) σ H fun vs H1 => sp vs H1 Q fun cls d H' => W cls d σ H')
    (he : starEach (e :: es) X.env = (false, eval e X.env) :: starEach es X.env) (hpl : (backTo pos (starEach es X.env)).any (·.1) = false) : WE X (.Call (.Name f p) (e :: es) [] pos) σ H Q := by
  obtain ⟨g, fd, F, m, kp, b⟩ := F
  exact .of (pe_callS F (hr.mono hk) (C.gl f hx) m kp b (fun σ => passAt tk σ) (pa X _) (C.nodbg f (List.mem_append_right _ hx)).1 he hpl) h
/-- raise -/
theorem s_raise {t : L2.St → Hp → XK → Prop} (C : Fr X N L Vs G) (tk : Takes X W) (he : PMk X e t) (h : t σ H fun cls d H' => W cls d σ H') : WS X (.Raise (some e) none pos) D σ H := .of (ps_raise C.calm tk he) h
/-- try: one clause, with a name -/
def TB (X : Cx) (body : List Stmt) (W : WX) : TS := fun D σ H => ∀ (pn : List (Addr × Obj)) (xe : Value → Shared → Prop), Takes (X.tr pn xe) W → PassesOwn (model X.prog X.w) X.A X.env xe → WSs (X.tr pn xe) body D σ H
def TSu (X : Cx) (suite : List Stmt) (a : Addr) (cls : Value) (d : Option Addr) : TS := fun D σ H => ∀ (oe : Obj) (pn : List (Addr × Obj)), Zc cls d oe → (∃ vs, oe.data = .fields vs) → WSs (X.suite a ((a, oe) :: pn)) suite D σ H
theorem s_try_as {n : Str} {i : Nat} {cv : Value} {body suite : List Stmt} {b₀ : Stmt} {np pos' : Pos} {Wout : WX} (C : Fr X N L Vs G) (R : Tr X) (hi : N[i]? = some n) (hln : X.env.kindOf n = some .local) (hc : Names X x cv) (tk : Takes X Wout)
    (h : TB X body (wAs X.K cv i (TSu X (b₀ :: suite)) Wout D) D σ H) : WS X (.Try body [.ExceptHandler (some (.Name x np)) (some n) (b₀ :: suite) pos'] [] [] pos) D σ H :=
  .of (ps_try_as R.hs R.hf (by rw [C.n]; exact C.nd) (by rw [C.n]; exact hi) hln hc tk (fun W pn xe t o => ⟨fun pins s σ H D I q => q pn xe t o pins s I⟩) fun a oe cls d pn hz hf => ⟨fun pins s σ H D I q => q oe pn hz hf pins s I⟩) h
end
/-! ### several clauses `except X as n` -/
abbrev Clause := Value × (Addr → Value → Option Addr → TS)
def wAsM (K : PySem.W.Frag) (Wo : WX) (D : Ends) (i : Nat) : List Clause → WX
  | [] => Wo
  | p :: r => wAs K p.1 i p.2 (wAsM K Wo D i r) D
inductive AsOk (X : Cx) (n : Str) : List ExceptHandler → List Clause → Prop
  | nil : AsOk X n [] []
  | cons {x : Str} {c : Value} {ts : Addr → Value → Option Addr → TS} {b0 : Stmt} {bs : List Stmt} {p1 p2 : Pos} {hs : List ExceptHandler} {l : List Clause} (named : Names X x c)
      (walked : ∀ (e : Addr) (o : Obj) (k : Value) (d : Option Addr) (pn : List (Addr × Obj)), Zc k d o → (∃ vs, o.data = .fields vs) → PSs (X.suite e ((e, o) :: pn)) (b0 :: bs) (ts e k d)) (more : AsOk X n hs l) :
      AsOk X n (.ExceptHandler (some (.Name x p1)) (some n) (b0 :: bs) p2 :: hs) ((c, ts) :: l)
/-- an error that is caught, between the clauses -/
structure Got (X : Cx) (B : Heap) (e : Addr) (k : Value) (d : Option Addr) (sI sN : Shared) (pins : List (Addr × Obj)) (σ : L2.St) (H : Hp) : Prop where
  inv : Inv X pins σ H sI
  ground : ∀ b o, sI.heap.get? b = some o → b ∉ frs X.stack → B.get? b = some o
  ups : sI.heap.UpToSlots sN.heap
  fly : HandSPX.FlyingZ B (X.env :: X.outer) e (Zc k d) sN.heap
  os : sN.os = sI.os
  bare : AllBare sN.gens
  gone : H e = none
section
variable {X : Cx} {n : Str} {i : Nat} {B : Heap} {e : Addr} {k : Value} {d : Option Addr} {sI sN : Shared} {pins : List (Addr × Obj)} {σ : L2.St} {H : Hp}
theorem Got.invN (G : Got X B e k d sI sN pins σ H) : Inv X pins σ H sN := G.inv.landed G.ground G.fly.1 G.ups G.os G.bare
theorem Got.far (G : Got X B e k d sI sN pins σ H) (hs : X.stack = X.env :: X.outer) (hf : X.env.frame = some X.env.locals) : ∃ (o : Obj) (vs : Array Value), sN.heap.get? e = some o ∧ Zc k d o ∧ o.data = .fields vs ∧ e ≠ X.env.locals ∧ e ∉ X.fs := by
  obtain ⟨o, vs, g, z, dt⟩ := G.fly.there
  have out : e ∉ frs (X.env :: X.outer) := fun m => by
    obtain ⟨u, o2, g2, z2⟩ := G.fly.2.2.1.mem m
    rw [g] at g2
    cases g2
    exact z2 _ dt
  refine ⟨o, vs, g, z, dt, fun q => out (List.mem_filterMap.mpr ⟨X.env, .head _, by rw [hf, q]⟩), fun m => ?_⟩
  obtain ⟨en, m1, m2⟩ := List.mem_filterMap.mp m
  exact out (List.mem_filterMap.mpr ⟨en, .tail _ m1, m2⟩)
theorem Got.moved (G : Got X B e k d sI sN pins σ H) {h4 : Heap} (fl : HandSPX.FlyingZ B (X.env :: X.outer) e (Zc k d) h4) (up : sN.heap.UpToSlots h4) : Got X B e k d sI { sN with heap := h4 } pins σ H :=
  ⟨G.inv, G.ground, G.ups.trans up, fl, G.os, G.bare, G.gone⟩
/-- the clauses, one behind the other -/
theorem as_walk {D : Ends} {Wo : WX} {hds : List ExceptHandler} {l : List Clause} (hs : X.stack = X.env :: X.outer) (hf : X.env.frame = some X.env.locals) (nd : X.N.Nodup) (hi : X.N[i]? = some n) (hn : X.env.kindOf n = some .local) (tk : Takes X Wo)
    (ok : X.Ok) (G : Got X B e k d sI sN pins σ H) (A : AsOk X n hds l) : wAsM X.K Wo D i l k d σ H → wpAny (model X.prog X.w) X.A (handleBy (.ref e) X.env hds) (SP X pins D) X.xe sN := by
  induction A with
  | nil =>
    intro w
    obtain ⟨f1, f2, f3, o, vs, T, oT, q1, g, z, dt, q2, q3⟩ := id G.fly
    refine wpAny_handleBy_nil ?_
    unfold PySem.passOn
    refine wpAny_bind (wpAny_field g dt q2 ?_)
    rw [if_neg (by simp)]
    have last : wpAny (model X.prog X.w) X.A (setFlight (.ref e) X.env.frame) (fun _ s4 => wpAny (model X.prog X.w) X.A (throw (.ref e) : Sem Flow) (SP X pins D) X.xe s4) X.xe sN := by
      rw [hf]
      exact HandSPX.setFlight_upZ G.fly fun h4 held up4 => wpAny_throw (tk _ _ ⟨e, B, sI, pins, σ, H, k, d, rfl, G.inv, G.ground, G.ups.trans up4, .inr (.inr (hs ▸ held)), G.gone, G.os, G.bare, w⟩)
    first
      | exact wpAny_bind last
      | exact wpAny_bind (wpAny_pure (wpAny_bind last))
  | @cons x c ts b0 bs p1 p2 hs2 l2 named walked more ih =>
    intro ⟨b, eb, yes, no⟩
    obtain ⟨o, vs, g, z, dt, nL, nF⟩ := G.far hs hf
    have S := G.invN.suite g dt G.gone nL nF
    refine wpAny_handleBy_cons (codeAny_handlers_test ?_) (by intro q; cases q)
    have look : PySem.W.Looks (model X.prog X.w) sN.heap (typeOf (.ref e)) k := fun _ _ _ _ kp q => wpAny_typeOf_ref (kp _ _ g) (by rw [z.1]; exact q)
    have asked := PySem.W.exm_one (M := model X.prog X.w) G.invN.kIn look eb
    have test : ∀ {Q' E' : Value → Shared → Prop}, Q' c sN → wpAny (model X.prog X.w) (X.A.mark (some (.ref e))) (eval (.Name x p1) X.env) Q' E' sN := fun q => by
      obtain ⟨gl, db, m | ⟨m, v, ne⟩⟩ := named
      · exact ld_glob (X := X.suite e ((e, o) :: (X.pn ++ pins))) S gl m q db
      · exact ld_blt (X := X.suite e ((e, o) :: (X.pn ++ pins))) S gl m v q ne db
    refine test (asked.here ?_)
    cases b with
    | false =>
      show wpAny _ X.A (handleBy (.ref e) X.env hs2) _ _ _
      exact ih (no rfl)
    | true =>
      refine codeAny_handlers_suite_as (HandSPX.lands_againZ G.fly fun h4 fl up => ?_)
      have G4 := G.moved fl up
      obtain ⟨o4, vs4, g4, z4, dt4, _, _⟩ := G4.far hs hf
      have S4 := G4.invN.suite g4 dt4 G4.gone nL nF
      refine store_ok (X := X.suite e ((e, o4) :: (X.pn ++ pins))) (v := .ref e) S4 nd hi (.inl hn) rfl (fun s5 S5 => ?_) (.inr hn)
      have behind : ∀ {σ6 : L2.St} {H6 : Hp} {s6 : Shared} {R : Shared → Prop}, Inv (X.suite e ((e, o4) :: (X.pn ++ pins))) [] σ6 H6 s6 → (∀ s7, Inv X pins (σ6.set i none) H6 s7 → R s7) →
          wpAny (model X.prog X.w) X.A (do bindName X.env n .none; unbindBehindTheSuite X.env n p2) (fun _ s7 => R s7) X.xe s6 := fun S6 r => gone_ok (S6.unsuite ok) nd hi hn r
      refine wpAny_mono ((walked e o4 k d (X.pn ++ pins) z4 ⟨_, dt4⟩).run [] s5 _ H _ S5 (yes rfl e G.gone)) (fun fl6 s6 h6 => ?_) fun _ _ z => z.elim
      cases fl6 with
      | ret u =>
        obtain ⟨v, σ6, H6, S6, r, q⟩ := h6
        exact behind S6 fun _ J => ⟨v, _, _, J, r, q⟩
      | next =>
        obtain ⟨σ6, H6, S6, q⟩ := h6
        exact behind S6 fun _ J => ⟨_, _, J, q⟩
      | brk =>
        obtain ⟨σ6, H6, S6, q⟩ := h6
        exact behind S6 fun _ J => ⟨_, _, J, q⟩
      | cont =>
        obtain ⟨σ6, H6, S6, q⟩ := h6
        exact behind S6 fun _ J => ⟨_, _, J, q⟩
theorem ps_try_asM {body : List Stmt} {h0 : ExceptHandler} {hds : List ExceptHandler} {l : List Clause} {pos : Pos} {tb : WX → TS} {Wo : WX} (hs : X.stack = X.env :: X.outer) (hf : X.env.frame = some X.env.locals) (nd : X.N.Nodup) (hi : X.N[i]? = some n) (hn : X.env.kindOf n = some .local) (tk : Takes X Wo)
    (hb : ∀ (W : WX) (pn : List (Addr × Obj)) (xe : Value → Shared → Prop), Takes (X.tr pn xe) W → PassesOwn (model X.prog X.w) X.A X.env xe → PSs (X.tr pn xe) body (tb W)) (A : AsOk X n (h0 :: hds) l) :
    PS X (.Try body (h0 :: hds) [] [] pos) (fun D σ H => tb (wAsM X.K Wo D i l) D σ H) := by
  refine ⟨fun pins s σ H D I h => wpAny_Try_except ?_⟩
  have fr : X.A.frames = some (X.env :: X.outer) := by rw [I.ok.frames, hs]
  refine wpAny_mono ((hb (wAsM X.K Wo D i l) (X.pn ++ pins) (fun u s1 => wpAny (model X.prog X.w) X.A (noteFrame u X.env) (fun _ s2 => wpAny (model X.prog X.w) X.A (setFlight u none) (fun _ s3 => wpAny (model X.prog X.w) X.A (handleBy u X.env (h0 :: hds)) (SP X pins D) X.xe s3) X.xe s2) X.xe s1)
    (fun u s1 z => ?_) PassesOwn.looking).run [] s σ H D (I.toTry _) h) (fun fl s1 z => ?_) fun _ _ z => z
  · obtain ⟨e, B, sI, pins2, σ2, H2, k, d, rfl, J, gr, up, sky, na, os, ag, w⟩ := z
    have sky2 : Sky B (X.env :: X.outer) e (Zc k d) X.env.locals s1.heap := by rw [← hs]; exact sky
    show wpAny (model X.prog X.w) X.A (noteFrame (.ref e) X.env) _ _ _
    exact Sky.land Zc.steady fr hf sky2 fun h3 fl up3 => as_walk hs hf nd hi hn tk I.ok ⟨J.ofTry I.ok, gr, up.trans up3, fl, os, ag, na⟩ A w
  · cases fl with
    | ret u =>
      obtain ⟨v, σ2, H2, J, r, q⟩ := z
      exact ⟨v, σ2, H2, J.ofTry I.ok, r, q⟩
    | next =>
      obtain ⟨σ2, H2, J, q⟩ := z
      exact wpAny_execs_nil ⟨σ2, H2, J.ofTry I.ok, q⟩
    | brk =>
      obtain ⟨σ2, H2, J, q⟩ := z
      exact ⟨σ2, H2, J.ofTry I.ok, q⟩
    | cont =>
      obtain ⟨σ2, H2, J, q⟩ := z
      exact ⟨σ2, H2, J.ofTry I.ok, q⟩
end
/-! ### the own exception classes -/
structure EK (K : PySem.W.Frag) (mg : Str → Option Value) (x : Str) (C : Addr) : Prop where
  at_ : mg x = some (.ref C)
  kp : PySem.W.keepIn K (.ref C) = true
  ty : PySem.W.typeIn K (.ref C) = some (.type "type")
  hd : PySem.W.hasDictIn K C = true
  ga : PySem.W.findIn K (.ref C) "__getattribute__" = some (some (.builtin "BaseException.__getattribute__"))
  gg : PySem.W.findIn K (.ref C) "__getattr__" = some none
  be : PySem.W.subIn K (.ref C) (.type "BaseException") = some true
  ca : PySem.W.findIn K (.ref C) "__class__" = some (some (.builtin "object.__class__"))
  mo : PySem.W.mroIn K C (.type "object") = some true
  sv : PySem.W.subIn K (.ref C) (.type "ValueError") = some true
  ss : PySem.W.subIn K (.ref C) (.ref C) = some true
/-- made without an own __init__ -/
structure EKo (K : PySem.W.Frag) (mg : Str → Option Value) (x : Str) (C : Addr) : Prop extends EK K mg x C where
  en : PySem.W.excIn K C [.type "ValueError", .type "Exception", .type "BaseException", .type "object"] "ValueError.__new__" = true
/-- made with an own __init__ that sets its place -/
structure EKi (K : PySem.W.Frag) (mg : Str → Option Value) (x : Str) (C : Addr) (q : Str) (st : Stmt) : Prop extends EK K mg x C where
  cls : ∃ nm q N bs bm sn sub ab col dd k0 k1 k2 k3 k5, K.lookup C = some (excClassObj nm q C N bs bm true sn sub ab col dd k0 k1 k2 k3 k5 "ValueError.__new__") ∧ PySem.HandSPX.refsVE bm = true
  sa : PySem.W.findIn K (.ref C) "__setattr__" = some (some (.builtin "object.__setattr__"))
  np : PySem.W.findIn K (.ref C) "place" = some none
  init : MDef K C "__init__" q st ["self", "place"]
/-- the class whose __init__ the others call -/
structure EKb (K : PySem.W.Frag) (mg : Str → Option Value) (x : Str) (C : Addr) : Prop extends EK K mg x C where
  sg : PySem.W.specialIn K (.ref C) "__getattribute__" = some (some (.builtin "type.__getattribute__"))
  rd : PySem.W.readsIn K C (.type "type") = true
  fc : PySem.W.findCls K (.ref C) (.type "type") "__init__" = some (.val (.builtin "ValueError.__init__"))
structure ObC (K : PySem.W.Frag) : Prop where
  cg : PySem.W.specialIn K (.builtin "object.__class__") "__get__" = some (some (.builtin "getset_descriptor.__get__"))
  ct : PySem.W.takesIn K (.builtin "object.__class__") = some true
section
variable {K : PySem.W.Frag} {mg : Str → Option Value} {x y q : Str} {C D : Addr} {b : Bool} {st : Stmt}
theorem EKi.oex (T : EKi K mg x C q st) : OexC K C := ⟨T.cls, T.sa, T.be, T.ty, T.kp⟩
theorem EK.xf (T : EK K mg x C) : XfC K C := ⟨T.ga, T.gg, T.be, T.hd⟩
theorem EK.isC (T : EK K mg x C) : (PySem.W.clsIn K C).isSome = true := by
  obtain ⟨cd, h, _⟩ := PySem.W.any_some T.hd
  rw [h]
  rfl
theorem EK.exm (T : EK K mg y D) (h : PySem.W.subIn K (.ref C) (.ref D) = some b) : PySem.W.exmOne K (.ref C) (.ref D) = some b := PySem.W.exm_ref T.be T.hd T.ty h
theorem EK.kit (T : EK K mg y D) (S : EK K mg x C) (h : PySem.W.subIn K (.ref C) (.ref D) = some b) : PySem.W.kitOne K (.ref C) (.ref D) = some b := by
  unfold PySem.W.kitOne
  split
  · rename_i e
    have e' : C = D := Value.ref.inj (beq_iff_eq.mp e)
    subst e'
    exact S.ss.symm.trans h
  · show (if ((PySem.W.clsIn K D).isSome && PySem.W.typeIn K (.ref D) == some (.type "type")) = true then PySem.W.subIn K (.ref C) (.ref D) else none) = some b
    rw [T.isC, T.ty, if_pos (by rfl)]
    exact h
theorem EK.kitV (S : EK K mg x C) : PySem.W.kitOne K (.ref C) (.type "ValueError") = some true := by
  unfold PySem.W.kitOne
  split
  · rfl
  · show (if PySem.W.kitMeta "ValueError" = true then PySem.W.subIn K (.ref C) (.type "ValueError") else none) = some true
    rw [if_pos (by decide +kernel)]
    exact S.sv
end
/-- its dict, where it has one -/
def ExD (H : Hp) (d : Option Addr) : Prop := d = none ∨ ∃ dd fs, d = some dd ∧ H dd = some (.xd fs)
theorem k_isE {X : Cx} {x : Str} {H : Hp} {Q : VK} {a C : Addr} {oe : Obj} {pn : List (Addr × Obj)} {d : Option Addr} {c : V} {cv : Value} {b : Bool} (T : EK X.K X.mg x C) (O : ObC X.K) (hz : Zc (.ref C) d oe) (hf : ∃ vs, oe.data = .fields vs) (hd : ExD H d) (hc : ∀ u, RelV c u → u = cv) (e : PySem.W.kitOne X.K (.ref C) cv = some b) (q : Q (.bl b) H) :
    WB1 (X.suite a ((a, oe) :: pn)) (.builtin "isinstance") [.ref a, c] H Q := by
  refine ⟨fun xs H' Q' => xs = [.ref a, c] ∧ ExD H' d ∧ Q' (.bl b) H', ?_, rfl, hd, q⟩
  intro pins s σ H' xs us Q' I r h
  obtain ⟨rfl, hd, q⟩ := h
  cases r with
  | cons rx rr =>
    cases rr with
    | cons rt rr =>
      cases rr
      cases rx
      have ec := hc _ rt
      subst ec
      obtain ⟨hget, _⟩ := I.pin (a, oe) (List.mem_append.mpr (.inl List.mem_cons_self))
      obtain ⟨vs, hv⟩ := hf
      have fin : ∀ od, PySem.W.InstAt s.heap a oe C od → wpAny (model X.prog X.w) (X.suite a ((a, oe) :: pn)).A (call (.builtin "isinstance") [.ref a, _]) (EP (X.suite a ((a, oe) :: pn)) pins σ Q') (X.suite a ((a, oe) :: pn)).xe s := fun od J =>
        PySem.W.kia_one (PySem.W.kitx_exc T.isC T.ga T.gg T.be T.ca O.cg O.ct T.mo) I.kIn J e (fun z => nomatch z) fun tk => ⟨.bl b, H', I.kept (t' := tk) fun _ _ z => z, rfl, q⟩
      rcases hd with rfl | ⟨dd, fs, rfl, hx⟩
      · refine fin none ?_
        obtain ⟨oc, od, oda, osl⟩ := oe
        obtain ⟨h1, h2⟩ := hz
        dsimp only at h1 h2 hv
        subst h1 h2 hv
        exact ⟨hget, rfl, rfl, trivial⟩
      · have hx' : ObjOk X.prog X.w H' s.heap dd (.xd fs) := I.hok dd _ hx
        obtain ⟨mA, hns, hr⟩ := hx'
        obtain ⟨od, ho, hl⟩ := lookIn_ns hns
        exact fin (some od) ⟨hget, hz.1, by unfold PySem.W.notCls; rw [hv] <;> rfl, by rw [hz.2]; exact ho⟩
section
variable {X : Cx} {N L Vs G : List Str} {e a b c : Expr} {es : List Expr} {σ : L2.St} {H : Hp} {Q : VK} {pos p p1 p2 pos1 : Pos} {x f m q : Str} {v : V} {D : Ends} {W : WX} {C : Addr} {st : Stmt}
theorem w_place {n : Str} {d : Option Addr} {pn : List (Addr × Obj)} {a : Addr} {oe : Obj} (T : EK X.K X.mg x C) (hno : PySem.W.findIn X.K (.ref C) n = some none) (hz : Zc (.ref C) d oe) (hf : ∃ vs, oe.data = .fields vs)
    (h : WE (X.suite a ((a, oe) :: pn)) e σ H fun x H1 => x = .ref a ∧ ∃ (dd : Addr) (fs : List (Str × V)) (v : V), d = some dd ∧ H1 dd = some (.xd fs) ∧ fs.lookup n = some v ∧ Q v H1)
    (hb : attributeBase e n X.env (eval e X.env) = eval e X.env) : WE (X.suite a ((a, oe) :: pn)) (.Attribute e n pos) σ H Q :=
  .of (pe_xf T.xf hno hz hf (pe _ e) hb) (h.mono fun x H1 ⟨ex, dd, fs, v, q⟩ => ⟨ex, rfl, dd, fs, v, q⟩)
/-- LoopError.__init__(self, ..) -/
theorem w_leinit {pl : Sem Bool} (F : Fr X N L Vs G) (T : EKb X.K X.mg x C) (hx : x ∈ G) (h : WA X (e :: es) σ H fun vs H1 => ∃ (a C : Addr) (ws : List V), vs = .ref a :: ws ∧ ws.length ≤ 1000 ∧ OexC X.K C ∧ H1 a = some (exo a C none) ∧ Q .non H1)
    (hc : eval (.Call (.Attribute (.Name x p1) "__init__" p2) (e :: es) [] pos) X.env = (do
      let ov ← eval (.Name x p1) X.env
      standAt p2.atName
      let (f, first) ← holding [ov] (getMethod ov "__init__" pl)
      callWith pos f first (backTo pos (starEach (e :: es) X.env)) (backToKw pos (keywordEach [] X.env))))
    (he : starEach (e :: es) X.env = (false, eval e X.env) :: starEach es X.env) (hpl : (backTo pos (starEach es X.env)).any (·.1) = false) : WE X (.Call (.Attribute (.Name x p1) "__init__" p2) (e :: es) [] pos) σ H Q := fun pins s I => by
  refine PySem.W.methodCall_KW (ld_glob I (F.gl x hx) T.at_ ?_ (F.nodbg x (List.mem_append_right _ hx)).1) hc
  obtain ⟨m0, fr⟩ := I.fr
  refine PySem.W.method_of_cls fr I.ok.mod.kin T.sg (PySem.W.cls_val fr I.ok.mod.kin T.ty T.rd T.fc (by decide +kernel) ?_)
  show wpAny _ _ (callWith pos (Value.builtin "ValueError.__init__") [] (backTo pos (starEach (e :: es) X.env)) []) _ _ _
  refine PyProof.Rows.callWith_method1 (thn (h pos pins _ (I.tok _)) fun us s1 ⟨vs, H1, I1, r1, a, C, ws, ev, hl, O, ea, q⟩ => ?_) he hpl
  subst ev
  cases r1 with
  | @cons _ u0 _ ur ra rw' =>
    obtain rfl : u0 = Value.ref a := ra
    exact oinit_ok O I1 ea (by rw [← Paired.length rw', sizeLine_eq]; omega) fun s' J => ⟨.non, H1, J, rfl, q⟩
/-- self.place = .. in a new exception -/
theorem s_ost {o : Expr} {p' : Pos} (h : WE X e σ H fun y H1 => WE X o σ H1 fun x H2 => ∃ a C : Addr, x = .ref a ∧ OexC X.K C ∧ PySem.W.findIn X.K (.ref C) f = some none ∧ H2 a = some (exo a C none) ∧ ∀ dx, H2 dx = none → dx ≠ a → D.nx σ (upd (upd H2 dx (exd dx [(f, y)])) a (exo a C (some dx))))
    (hs : swapsWith e (some (.Attribute o f p')) pos.line X.env = pure false) : WS X (.Assign [.Attribute o f p'] e pos) D σ H :=
  .of (ps_ost (pe X o) (pe X e) hs) (h.mono fun y H1 z => z.mono fun x H2 ⟨a, C, e1, O, n, e2, q⟩ => ⟨a, C, e1, O, n, .inl ⟨e2, q⟩⟩)
/-- what such an __init__ does -/
def spInit (C : Addr) : Sp := fun vs H Q _ => ∃ (a : Addr) (n : Int), vs = [.ref a, .int n] ∧ H a = some (exo a C none) ∧ ∀ dx, H dx = none → dx ≠ a → Q .non (upd (upd H dx (exd dx [("place", .int n)])) a (exo a C (some dx)))
theorem s_raiseO {i : Nat} (F : Fr X N L Vs G) (tk : Takes X W) (T : EKo X.K X.mg x C) (hx : x ∈ G) (h : W (.ref C) none σ H) : WS X (.Raise (some (.Call (.Name x p) [.Constant (.str m) i p2] [] pos1)) none pos) D σ H :=
  s_raise F tk (pmk_own PySem.F.excBase_ValueError T.en T.at_ T.kp (raises_own T.be T.ty) (F.gl x hx) (F.nodbg x (List.mem_append_right _ hx)).1) h
theorem s_raiseI {k k' : Nat} (F : Fr X N L Vs G) (tk : Takes X W) (T : EKi X.K X.mg x C q st) (I : MOk X.prog X.w X.K X.mg X.base k C "__init__" ["self", "place"] (spInit C)) (hr : Room k' X.A) (hk : k + 1 ≤ k') (hx : x ∈ G)
    (h : WE X e σ H fun v H1 => ∃ n, v = .int n ∧ ∀ d, H1 d = none → W (.ref C) (some d) σ (upd H1 d (.xd [("place", .int n)])))
    (he : starEach [e] X.env = (false, eval e X.env) :: starEach [] X.env) (hpl : (backTo pos1 (starEach [] X.env)).any (·.1) = false) :
    WS X (.Raise (some (.Call (.Name x p) [e] [] pos1)) none pos) D σ H := by
  obtain ⟨g, fd, FI, M, bi⟩ := I
  refine s_raise F tk (pmk_oex T.oex M.at_ (beq_iff_eq.mp M.fn) FI (hr.mono hk) bi .nil pass0 (F.gl x hx) T.at_ (pa X [e]) (F.nodbg x (List.mem_append_right _ hx)).1 he hpl) ?_
  refine (show WA X [e] σ H _ from a_cons (h.mono ?_) he)
  rintro v H1 ⟨n, e1, z⟩
  subst e1
  refine a_nil ⟨by simp, fun a na => ⟨a, n, rfl, upd_same, fun dx nd ne => ?_⟩⟩
  have nd' : H1 dx = none := by rw [upd_ne ne] at nd; exact nd
  refine ⟨rfl, dx, [("place", .int n)], upd_same, by rw [upd_ne ne, upd_same], nd', ?_⟩
  have eh : upd (del (upd (upd (upd H1 a (exo a C none)) dx (exd dx [("place", .int n)])) a (exo a C (some dx))) a) dx (.xd [("place", .int n)]) = upd H1 dx (.xd [("place", .int n)]) := by
    funext b
    by_cases hb : b = dx
    · rw [hb, upd_same, upd_same]
    · rw [upd_ne hb, upd_ne hb]
      by_cases ha : b = a
      · rw [ha, del_same, na]
      · rw [del_ne ha, upd_ne ha, upd_ne hb, upd_ne ha]
  rw [eh]
  exact z dx nd'
end
section
variable {X : Cx} {N L Vs G : List Str} {σ : L2.St} {H : Hp} {D : Ends}
/-- try: two clauses, with the same name -/
theorem s_try_two {n x1 x2 : Str} {i : Nat} {c1 c2 : Value} {body su1 su2 : List Stmt} {b1 b2 : Stmt} {p1 p2 q1 q2 pos : Pos} {Wo : WX} (C : Fr X N L Vs G) (R : Tr X) (hi : N[i]? = some n) (hn : X.env.kindOf n = some .local) (h1 : Names X x1 c1) (h2 : Names X x2 c2) (tk : Takes X Wo)
    (h : TB X body (wAsM X.K Wo D i [(c1, TSu X (b1 :: su1)), (c2, TSu X (b2 :: su2))]) D σ H) :
    WS X (.Try body [.ExceptHandler (some (.Name x1 p1)) (some n) (b1 :: su1) q1, .ExceptHandler (some (.Name x2 p2)) (some n) (b2 :: su2) q2] [] [] pos) D σ H :=
  .of (ps_try_asM R.hs R.hf (by rw [C.n]; exact C.nd) (by rw [C.n]; exact hi) hn tk (tb := TB X body) (fun W pn xe t o => ⟨fun pins s σ H D I q => q pn xe t o pins s I⟩)
    (.cons h1 (fun e o k d pn z f => ⟨fun pins s σ H D I q => q o pn z f pins s I⟩) (.cons h2 (fun e o k d pn z f => ⟨fun pins s σ H D I q => q o pn z f pins s I⟩) .nil))) h
theorem EK.names {x : Str} {c : Addr} (T : EK X.K X.mg x c) (C : Fr X N L Vs G) (hx : x ∈ G) : Names X x (.ref c) := ⟨C.gl x hx, (C.nodbg x (List.mem_append_right _ hx)).1, .inl T.at_⟩
end
section
variable {X : Cx} {N L Vs G : List Str} {σ : L2.St} {H : Hp} {D : Ends} {elt iter : Expr} {x y : Str} {p : Pos}
/-- y = [elt for x in iter] -/
theorem s_setLc {sc : Scope} {i : Nat} {σ' : L2.St} {py pos spos : Pos} (C : Fr X N L Vs G) (hy : y ∈ L) (hyl : X.env.scope.names.lookup y = some .local) (hk : X.env.scope.kind = .function) (B : blB sc [x] [] [] = true) (ok : BlkOk N X.env.scope sc [(x, i)]) (hi : N[i]? = some x) (hw : Wip N σ x σ')
    (hpl : (py.line == pos.line) = true) (ha : (sc.names.any fun (n, k) => n == y && (k == .local || k == .cell)) = false) (hyN : y ∈ N)
    (h : WI1 X (.Name x p) iter σ H fun J H1 => LcL X N sc x elt (fun v H2 => ∃ σ2, Put N σ y v σ2 ∧ D.nx σ2 H2) J σ' H1)
    (hs : ∀ x, foldedSetIterable iter X.env x = pure x := by intro _; rfl) : WS X (.Assign [.Name y py] (.ListComp elt [⟨.Name x p, iter, [], 0⟩] sc pos) spos) D σ H := by
  obtain ⟨i', hi', rfl⟩ := hw.ix
  obtain rfl : i = i' := nodup_ix C.nd hi hi'
  obtain ⟨iy, hiy⟩ := List.getElem?_of_mem hyN
  refine .of (ps_setLc (own := [(x, i)]) (g := fun v σ0 H Q => gName i v σ0 H Q) (tt := tYes) (te := fun σ H Q => ∀ Y, Blk X sc Y → WE Y elt σ H Q) C.calm (by rw [C.n]; exact C.nd) (by rw [C.n]; exact hiy) hyl (sw_true hk hyl hpl ha) (pi1 X _ iter) (by rw [C.n]; exact ok) (fun s H Cd cl fp => ?_) (fun s H Cd cl fp => pts_nil) (fun s H Cd cl fp => ?_) hs) ?_
  · have F : Fr (X.blk s H sc (compEnvC sc cl Cd X.env) fp) N [x] [] [] := Fr.blk C.noG B s H Cd cl fp
    have hl := F.loc x List.mem_cons_self
    exact pg_name (by rw [F.n]; exact C.nd) (by rw [F.n]; exact hi) hl.1 hl.2
  · exact ⟨fun pins s' σ0 H0 Q0 I q => q _ ⟨s, H, Cd, cl, fp, rfl⟩ pins s' I⟩
  · intro pins s I
    refine thn (h pins s I) fun v s1 h1 => thn h1 fun itv s2 h2 => ?_
    obtain ⟨it, fp, tn, J, H2, e, I2, T, st2, f2, l⟩ := h2
    refine ⟨it, fp, tn, J, H2, e, I2, T, st2, f2, fun Dl hD => ?_⟩
    obtain ⟨W, w0, wt⟩ := l Dl hD
    refine ⟨W, w0, fun j m H hw => ?_⟩
    rcases wt j m H hw with q | ⟨q1, Nx, q2, q3⟩
    · obtain ⟨qa, σ2, hp2, qb⟩ := q
      obtain ⟨k2, e1, e2⟩ := hp2.ix
      obtain rfl : iy = k2 := nodup_ix C.nd hiy e1
      subst e2
      exact .inl ⟨qa, qb⟩
    · refine .inr ⟨q1, Nx, q2, fun y H' hy => ?_⟩
      obtain ⟨σ2, hp, q⟩ := q3 y H' hy
      obtain ⟨k, h1, h2⟩ := hp.ix
      have e : i = k := nodup_ix C.nd hi h1
      subst e
      subst h2
      show wipe ((wipe σ [i]).set i (some y)) [i] = wipe σ [i] ∧ _
      refine ⟨by unfold wipe; simp [wipe], ?_⟩
      show (if true = true then (∀ Y, Blk X sc Y → WE Y elt ((List.set σ i none).set i (some y)) H' fun z H4 => ∃ acc, H4 Dl = some (HO.lst acc) ∧ acc.length < sizeLine ∧ Nx (upd H4 Dl (HO.lst (acc ++ [z])))) else Nx H')
      rw [if_pos rfl]
      exact q
end
end LM
namespace LM
open PySem PySem.Spec PyProof.Rows L2
/-! ### programs as data, and as they lie in the heap -/
inductive Kd where
  | whn | lop | agn
  deriving DecidableEq, Repr
def Kd.nm : Kd → Str
  | .whn => "when"
  | .lop => "loop"
  | .agn => "again"
theorem in_blocks (kd : Kd) : inV (.str kd.nm) [.str "when", .str "loop", .str "again"] = true := by cases kd <;> decide +kernel
theorem kd_let (kd : Kd) : decide (kd.nm = ("let" : Str)) = false := by cases kd <;> decide +kernel
theorem kd_say (kd : Kd) : decide (kd.nm = ("say" : Str)) = false := by cases kd <;> decide +kernel
inductive Sg where
  | add | sub | mul | lss | div
  deriving DecidableEq, Repr
def Sg.nm : Sg → Str
  | .add => "+"
  | .sub => "-"
  | .mul => "*"
  | .lss => "<"
  | .div => "/"
inductive Row where
  | lt (to : Str) (sg : Sg) (one other : Key)
  | say (one : Key)
  | blk (kd : Kd) (test : Str) (rows : List Row)
mutual
def Row.dep : Row → Nat
  | .lt _ _ _ _ => 0
  | .say _ => 0
  | .blk _ _ rs => deps rs + 1
def deps : List Row → Nat
  | [] => 0
  | r :: rs => max r.dep (deps rs)
end
mutual
/-- how many rows in all -/
def Row.cnt : Row → Nat
  | .lt _ _ _ _ => 1
  | .say _ => 1
  | .blk _ _ rs => cnts rs + 1
def cnts : List Row → Nat
  | [] => 0
  | r :: rs => r.cnt + cnts rs
end
theorem deps_mem {r : Row} : ∀ {rs : List Row}, r ∈ rs → r.dep ≤ deps rs
  | [], h => nomatch h
  | s :: rs, h => by
    rw [deps]
    rcases List.mem_cons.mp h with rfl | h
    · exact Nat.le_max_left _ _
    · exact Nat.le_trans (deps_mem h) (Nat.le_max_right _ _)
theorem deps_append : ∀ (rs ss : List Row), deps (rs ++ ss) = max (deps rs) (deps ss)
  | [], ss => by simp [deps]
  | r :: rs, ss => by rw [List.cons_append, deps, deps, deps_append rs ss, Nat.max_assoc]
theorem cnts_append : ∀ (rs ss : List Row), cnts (rs ++ ss) = cnts rs + cnts ss
  | [], ss => by simp [cnts]
  | r :: rs, ss => by rw [List.cons_append, cnts, cnts, cnts_append rs ss, Nat.add_assoc]
theorem cnt_pos (r : Row) : 1 ≤ r.cnt := by cases r <;> simp [Row.cnt]
theorem len_cnts : ∀ (rs : List Row), rs.length ≤ cnts rs
  | [] => Nat.le_refl _
  | r :: rs => by
    have := len_cnts rs
    have := cnt_pos r
    rw [cnts, List.length_cons]
    omega
theorem cnts_mem {r : Row} : ∀ {rs : List Row}, r ∈ rs → r.cnt ≤ cnts rs
  | [], h => nomatch h
  | s :: rs, h => by
    rw [cnts]
    rcases List.mem_cons.mp h with rfl | h
    · exact Nat.le_add_right _ _
    · exact Nat.le_trans (cnts_mem h) (Nat.le_add_left _ _)

mutual
inductive RowIn (H : Hp) : V → Row → List Addr → Prop
  | lt {t : Addr} {to : Str} {sg : Sg} {x y : Key} (h : H t = some (.tup [.str "let", .str to, .str sg.nm, kV x, kV y])) : RowIn H (.ref t) (.lt to sg x y) []
  | say {t : Addr} {x : Key} (h : H t = some (.tup [.str "say", kV x])) : RowIn H (.ref t) (.say x) []
  | blk {t a : Addr} {kd : Kd} {s : Str} {rs : List Row} {fp : List Addr} (h : H t = some (.tup [.str kd.nm, .str s, .ref a])) (hr : RowsIn H a rs fp) : RowIn H (.ref t) (.blk kd s rs) fp
/-- a list of rows stands at a; fp: the lists that it is made of, a first -/
inductive RowsIn (H : Hp) : Addr → List Row → List Addr → Prop
  | mk {a : Addr} {vs : List V} {rs : List Row} {fp : List Addr} (h : H a = some (.lst vs)) (ha : AllIn H vs rs fp) : RowsIn H a rs (a :: fp)
inductive AllIn (H : Hp) : List V → List Row → List Addr → Prop
  | nil : AllIn H [] [] []
  | cons {v : V} {vs : List V} {r : Row} {rs : List Row} {f g : List Addr} (h : RowIn H v r f) (ha : AllIn H vs rs g) : AllIn H (v :: vs) (r :: rs) (f ++ g)
end
/-- H' knows what stands in H but for lists away from fp -/
def Kept (fp : List Addr) (H H' : Hp) : Prop := (∀ t xs, H t = some (.tup xs) → H' t = some (.tup xs)) ∧ ∀ l ∈ fp, H' l = H l
theorem Kept.left {f g : List Addr} {H H' : Hp} (k : Kept (f ++ g) H H') : Kept f H H' := ⟨k.1, fun l h => k.2 l (List.mem_append_left _ h)⟩
theorem Kept.right {f g : List Addr} {H H' : Hp} (k : Kept (f ++ g) H H') : Kept g H H' := ⟨k.1, fun l h => k.2 l (List.mem_append_right _ h)⟩
theorem Kept.tail {a : Addr} {g : List Addr} {H H' : Hp} (k : Kept (a :: g) H H') : Kept g H H' := ⟨k.1, fun l h => k.2 l (List.mem_cons_of_mem _ h)⟩
mutual
theorem RowIn.keep {H H' : Hp} : ∀ {r : Row} {v : V} {fp : List Addr}, RowIn H v r fp → Kept fp H H' → RowIn H' v r fp
  | .lt _ _ _ _, _, _, .lt h, k => .lt (k.1 _ _ h)
  | .say _, _, _, .say h, k => .say (k.1 _ _ h)
  | .blk _ _ rs, _, _, .blk h hr, k => .blk (k.1 _ _ h) (RowsIn.keep (rs := rs) hr k)
theorem RowsIn.keep {H H' : Hp} : ∀ {rs : List Row} {a : Addr} {fp : List Addr}, RowsIn H a rs fp → Kept fp H H' → RowsIn H' a rs fp
  | rs, _, _, .mk h ha, k => .mk (by rw [k.2 _ List.mem_cons_self]; exact h) (AllIn.keep (rs := rs) ha k.tail)
theorem AllIn.keep {H H' : Hp} : ∀ {rs : List Row} {vs : List V} {fp : List Addr}, AllIn H vs rs fp → Kept fp H H' → AllIn H' vs rs fp
  | [], _, _, .nil, _ => .nil
  | r :: rs, _, _, .cons h ha, k => .cons (RowIn.keep (r := r) h k.left) (AllIn.keep (rs := rs) ha k.right)
end
mutual
/-- the lists stand -/
theorem RowIn.at {H : Hp} : ∀ {r : Row} {v : V} {fp : List Addr}, RowIn H v r fp → ∀ l ∈ fp, ∃ xs, H l = some (.lst xs)
  | .lt _ _ _ _, _, _, .lt _, l, hl => nomatch hl
  | .say _, _, _, .say _, l, hl => nomatch hl
  | .blk _ _ rs, _, _, .blk _ hr, l, hl => RowsIn.at (rs := rs) hr l hl
theorem RowsIn.at {H : Hp} : ∀ {rs : List Row} {a : Addr} {fp : List Addr}, RowsIn H a rs fp → ∀ l ∈ fp, ∃ xs, H l = some (.lst xs)
  | rs, _, _, .mk h ha, l, hl => by
    rcases List.mem_cons.mp hl with e | hl
    · exact ⟨_, e ▸ h⟩
    · exact AllIn.at (rs := rs) ha l hl
theorem AllIn.at {H : Hp} : ∀ {rs : List Row} {vs : List V} {fp : List Addr}, AllIn H vs rs fp → ∀ l ∈ fp, ∃ xs, H l = some (.lst xs)
  | [], _, _, .nil, l, hl => nomatch hl
  | r :: rs, _, _, .cons h ha, l, hl => by
    rcases List.mem_append.mp hl with hl | hl
    · exact RowIn.at (r := r) h l hl
    · exact AllIn.at (rs := rs) ha l hl
end
theorem Kept.same {fp : List Addr} {H H' : Hp} (e : Same H H') (h : ∀ l ∈ fp, ∃ xs, H l = some (.lst xs)) : Kept fp H H' :=
  ⟨fun t xs q => e t _ q, fun l hl => by obtain ⟨xs, q⟩ := h l hl; rw [q]; exact e l _ q⟩
/-- a list away from fp changes -/
theorem Kept.upd {fp : List Addr} {H : Hp} {l : Addr} {xs : List V} {o : HO} (h : H l = some (.lst xs)) (hl : l ∉ fp) : Kept fp H (L2.upd H l o) :=
  ⟨fun t ys q => by rw [upd_ne (ne_of q h fun z => nomatch z)]; exact q, fun m hm => upd_ne fun z => hl (z ▸ hm)⟩
theorem RowsIn.mono {H H' : Hp} {rs : List Row} {a : Addr} {fp : List Addr} (h : RowsIn H a rs fp) (e : Same H H') : RowsIn H' a rs fp := h.keep (.same e h.at)
theorem RowIn.mono {H H' : Hp} {r : Row} {v : V} {fp : List Addr} (h : RowIn H v r fp) (e : Same H H') : RowIn H' v r fp := h.keep (.same e h.at)
theorem AllIn.mono {H H' : Hp} {rs : List Row} {vs : List V} {fp : List Addr} (h : AllIn H vs rs fp) (e : Same H H') : AllIn H' vs rs fp := h.keep (.same e h.at)
theorem AllIn.len {H : Hp} : ∀ {rs : List Row} {vs : List V} {fp : List Addr}, AllIn H vs rs fp → vs.length = rs.length
  | [], _, _, .nil => rfl
  | r :: rs, _, _, .cons _ ha => by rw [List.length_cons, List.length_cons, AllIn.len ha]
theorem AllIn.get {H : Hp} : ∀ {rs : List Row} {vs : List V} {fp : List Addr} {i : Nat} {v : V}, AllIn H vs rs fp → vs[i]? = some v → ∃ r f, rs[i]? = some r ∧ RowIn H v r f ∧ ∀ l ∈ f, l ∈ fp
  | [], _, _, i, v, .nil, h => by simp at h
  | r :: rs, _, _, 0, v, .cons h ha, e => by
    simp at e
    subst e
    exact ⟨r, _, rfl, h, fun l hl => List.mem_append_left _ hl⟩
  | r :: rs, _, _, i + 1, v, .cons h ha, e => by
    obtain ⟨r', f, h1, h2, h3⟩ := AllIn.get (i := i) ha (by simpa using e)
    exact ⟨r', f, by simpa using h1, h2, fun l hl => List.mem_append_right _ (h3 l hl)⟩
theorem AllIn.append {H : Hp} : ∀ {rs ss : List Row} {vs ws : List V} {f g : List Addr}, AllIn H vs rs f → AllIn H ws ss g → AllIn H (vs ++ ws) (rs ++ ss) (f ++ g)
  | [], ss, _, ws, _, g, .nil, h => h
  | r :: rs, ss, _, ws, _, g, .cons h ha, k => by
    rw [List.cons_append, List.cons_append, List.append_assoc]
    exact .cons h (AllIn.append ha k)
theorem AllIn.snoc {H : Hp} {rs : List Row} {r : Row} {vs : List V} {v : V} {f g : List Addr} (h : AllIn H vs rs f) (k : RowIn H v r g) : AllIn H (vs ++ [v]) (rs ++ [r]) (f ++ g) := by
  have := h.append (.cons k .nil)
  rw [List.append_nil] at this
  exact this
theorem take_succ {α : Type} {l : List α} {i : Nat} {x : α} (h : l[i]? = some x) : l.take (i + 1) = l.take i ++ [x] := by
  rw [List.take_succ, h]; rfl
theorem take_all {α : Type} {l : List α} {n : Nat} (h : l.length ≤ n) : l.take n = l := List.take_of_length_le h
/-- a name of the list, or a number -/
def KeyOk (ns : List Str) : Key → Prop
  | .inl i => 0 ≤ i ∧ i ≤ 999999
  | .inr s => s ∈ ns
mutual
def RowOk (ns : List Str) : Row → Prop
  | .lt to _ x y => to ∈ ns ∧ KeyOk ns x ∧ KeyOk ns y
  | .say x => KeyOk ns x
  | .blk _ s rs => s ∈ ns ∧ RowsOk ns rs
def RowsOk (ns : List Str) : List Row → Prop
  | [] => True
  | r :: rs => RowOk ns r ∧ RowsOk ns rs
end
theorem RowsOk_append {ns : List Str} : ∀ {rs ss : List Row}, RowsOk ns rs → RowsOk ns ss → RowsOk ns (rs ++ ss)
  | [], _, _, h => h
  | r :: rs, _, h, k => by
    rw [RowsOk] at h
    rw [List.cons_append, RowsOk]
    exact ⟨h.1, RowsOk_append h.2 k⟩
theorem RowsOk_mem {ns : List Str} {r : Row} : ∀ {rs : List Row}, RowsOk ns rs → r ∈ rs → RowOk ns r
  | [], _, h => nomatch h
  | s :: rs, h, k => by
    rw [RowsOk] at h
    rcases List.mem_cons.mp k with rfl | k
    · exact h.1
    · exact RowsOk_mem h.2 k
theorem RowsOk_one {ns : List Str} {r : Row} (h : RowOk ns r) : RowsOk ns [r] := by
  rw [RowsOk]
  exact ⟨h, by rw [RowsOk]; trivial⟩

/-! ### a program while it is built: a stack of open lists -/
/-- below the open list a: the lists bs that lie open (the nearest first), their rows, the lists of their rows -/
inductive Lower (H : Hp) (ns : List Str) : Addr → List Addr → List (List Row) → List Addr → Prop
  | nil {a : Addr} : Lower H ns a [] [] []
  | cons {a b t : Addr} {bs : List Addr} {us : List V} {kd : Kd} {s : Str} {ss : List Row} {ls : List (List Row)} {g g' : List Addr} (h : H b = some (.lst (us ++ [.ref t]))) (ht : H t = some (.tup [.str kd.nm, .str s, .ref a])) (hs : s ∈ ns)
      (ha : AllIn H us ss g) (ok : RowsOk ns ss) (hd : deps ss + bs.length ≤ 3) (hl : Lower H ns b bs ls g') : Lower H ns a (b :: bs) (ss :: ls) (b :: (g ++ g'))
theorem Lower.keep {H H' : Hp} {ns : List Str} {a : Addr} {bs : List Addr} {ls : List (List Row)} {g : List Addr} (h : Lower H ns a bs ls g) : Kept g H H' → Lower H' ns a bs ls g := by
  induction h with
  | nil => intro _; exact .nil
  | cons h ht hs ha ok hd hl ih =>
    intro k
    exact .cons (by rw [k.2 _ List.mem_cons_self]; exact h) (k.1 _ _ ht) hs (ha.keep k.tail.left) ok hd (ih k.tail.right)
theorem Lower.at {H : Hp} {ns : List Str} {a : Addr} {bs : List Addr} {ls : List (List Row)} {g : List Addr} (h : Lower H ns a bs ls g) : ∀ l ∈ g, ∃ xs, H l = some (.lst xs) := by
  induction h with
  | nil => intro l hl; exact nomatch hl
  | cons h ht hs ha ok hd hl ih =>
    intro l hm
    rcases List.mem_cons.mp hm with e | hm
    · exact ⟨_, e ▸ h⟩
    · rcases List.mem_append.mp hm with hm | hm
      · exact ha.at l hm
      · exact ih l hm
theorem Lower.len {H : Hp} {ns : List Str} {a : Addr} {bs : List Addr} {ls : List (List Row)} {g : List Addr} (h : Lower H ns a bs ls g) : ls.length = bs.length := by
  induction h with
  | nil => rfl
  | cons _ _ _ _ _ _ _ ih => rw [List.length_cons, List.length_cons, ih]
theorem Lower.mem {H : Hp} {ns : List Str} {a : Addr} {bs : List Addr} {ls : List (List Row)} {g : List Addr} (h : Lower H ns a bs ls g) : ∀ l ∈ bs, l ∈ g := by
  induction h with
  | nil => intro l hl; exact nomatch hl
  | cons _ _ _ _ _ _ _ ih =>
    intro l hm
    rcases List.mem_cons.mp hm with rfl | hm
    · exact List.mem_cons_self
    · exact List.mem_cons_of_mem _ (List.mem_append_right _ (ih l hm))
def total : List (List Row) → Nat
  | [] => 0
  | r :: rs => cnts r + 1 + total rs
/-- the stack at S, the tests at T; a is the top's list, bs those below; n: as many rows at most; F: what stands since before -/
structure Zip (F H : Hp) (ns : List Str) (S T : Addr) (a : Addr) (bs : List Addr) (vs : List V) (ts : List Str) (n : Nat) : Prop where
  ex : ∃ (rs : List Row) (f : List Addr) (ls : List (List Row)) (g : List Addr), AllIn H vs rs f ∧ Lower H ns a bs ls g ∧ (S :: T :: a :: (f ++ g)).Nodup ∧ (∀ l ∈ S :: T :: a :: (f ++ g), F l = none) ∧ RowsOk ns rs ∧ deps rs + bs.length ≤ 3 ∧ cnts rs + total ls ≤ n
  hS : H S = some (.lst ((a :: bs).reverse.map V.ref))
  hT : H T = some (.lst (ts.map V.str))
  ha : H a = some (.lst vs)
  lt : ts.length = bs.length
  nm : ∀ s ∈ ts, s = "" ∨ s ∈ ns
  l3 : bs.length ≤ 3
  fh : Same F H
theorem Same.kept {fp : List Addr} {H H' : Hp} (e : Same H H') (h : ∀ l ∈ fp, ∃ xs, H l = some (.lst xs)) : Kept fp H H' := Kept.same e h
/-- more stands -/
theorem Zip.mono {F H H' : Hp} {ns : List Str} {S T a : Addr} {bs : List Addr} {vs : List V} {ts : List Str} {n : Nat} (z : Zip F H ns S T a bs vs ts n) (e : Same H H') : Zip F H' ns S T a bs vs ts n := by
  obtain ⟨rs, f, ls, g, h1, h2, h3, h4, h5⟩ := z.ex
  exact ⟨⟨rs, f, ls, g, h1.mono e, h2.keep (.same e h2.at), h3, h4, h5⟩, e _ _ z.hS, e _ _ z.hT, e _ _ z.ha, z.lt, z.nm, z.l3, fun b o q => e b o (z.fh b o q)⟩
theorem Zip.le {F H : Hp} {ns : List Str} {S T a : Addr} {bs : List Addr} {vs : List V} {ts : List Str} {n m : Nat} (z : Zip F H ns S T a bs vs ts n) (h : n ≤ m) : Zip F H ns S T a bs vs ts m := by
  obtain ⟨rs, f, ls, g, h1, h2, h3, h4, h5, h6, h7⟩ := z.ex
  exact ⟨⟨rs, f, ls, g, h1, h2, h3, h4, h5, h6, by omega⟩, z.hS, z.hT, z.ha, z.lt, z.nm, z.l3, z.fh⟩
theorem Same.mut' {F H : Hp} {q : Addr} {o : HO} (e : Same F H) (h : F q = none) : Same F (upd H q o) := Same.mut e h
/-- a let or say is put to the top -/
theorem Zip.add {F H : Hp} {ns : List Str} {S T a : Addr} {bs : List Addr} {vs : List V} {ts : List Str} {n : Nat} (z : Zip F H ns S T a bs vs ts n) {v : V} {r : Row} (h : RowIn H v r []) (ok : RowOk ns r) (hd : r.dep = 0) (hc : r.cnt = 1) :
    Zip F (upd H a (.lst (vs ++ [v]))) ns S T a bs (vs ++ [v]) ts (n + 1) := by
  obtain ⟨rs, f, ls, g, h1, h2, h3, h4, h5, h6, h7⟩ := z.ex
  have nd := h3
  rw [List.nodup_cons, List.nodup_cons, List.nodup_cons] at nd
  obtain ⟨n1, n2, n3, n4⟩ := nd
  have af : a ∉ f := fun q => n3 (List.mem_append_left _ q)
  have ag : a ∉ g := fun q => n3 (List.mem_append_right _ q)
  have Sa : S ≠ a := fun q => n1 (by rw [q]; exact List.mem_cons_of_mem _ List.mem_cons_self)
  have Ta : T ≠ a := fun q => n2 (by rw [q]; exact List.mem_cons_self)
  have e1 : AllIn H (vs ++ [v]) (rs ++ [r]) f := by
    have := h1.snoc h
    rw [List.append_nil] at this
    exact this
  have c1 : cnts (rs ++ [r]) = cnts rs + 1 := by rw [cnts_append, cnts, cnts, hc]
  have d1 : deps (rs ++ [r]) = deps rs := by rw [deps_append, deps, deps, hd]; simp
  refine ⟨⟨rs ++ [r], f, ls, g, e1.keep (Kept.upd z.ha af), h2.keep (Kept.upd z.ha ag), h3, h4, RowsOk_append h5 (RowsOk_one ok), by rw [d1]; exact h6, by rw [c1]; omega⟩, by rw [upd_ne Sa]; exact z.hS, by rw [upd_ne Ta]; exact z.hT, upd_same, z.lt, z.nm, z.l3, Same.mut z.fh (h4 a (by simp))⟩
/-- from H to H3 nothing changed but the lists at a, S, T -/
def But3 (a S T : Addr) (H H3 : Hp) : Prop := ∀ l o, l ≠ a → l ≠ S → l ≠ T → H l = some o → H3 l = some o
theorem But3.kept {a S T : Addr} {H H3 : Hp} {fp : List Addr} (k : But3 a S T H H3) (ha : ∃ xs, H a = some (.lst xs)) (hS : ∃ xs, H S = some (.lst xs)) (hT : ∃ xs, H T = some (.lst xs)) (h : ∀ l ∈ fp, (∃ xs, H l = some (.lst xs)) ∧ l ≠ a ∧ l ≠ S ∧ l ≠ T) : Kept fp H H3 := by
  obtain ⟨x1, ha⟩ := ha
  obtain ⟨x2, hS⟩ := hS
  obtain ⟨x3, hT⟩ := hT
  refine ⟨fun t xs q => k t _ (ne_of q ha fun z => nomatch z) (ne_of q hS fun z => nomatch z) (ne_of q hT fun z => nomatch z) q, fun l hl => ?_⟩
  obtain ⟨⟨xs, q⟩, h1, h2, h3⟩ := h l hl
  rw [q, k l _ h1 h2 h3 q]
/-- a block is opened: lets es and its row are put to the top, its list c is the new top -/
theorem Zip.open {F H H3 : Hp} {ns : List Str} {S T a : Addr} {bs : List Addr} {vs : List V} {ts : List Str} {n : Nat} (z : Zip F H ns S T a bs vs ts n) {t c : Addr} {kd : Kd} {s x : Str} {ws : List V} {es : List Row} (k : But3 a S T H H3)
    (hc : H c = none) (hc3 : H3 c = some (.lst [])) (ht : H3 t = some (.tup [.str kd.nm, .str s, .ref c])) (hs : s ∈ ns) (hx : x = "" ∨ x ∈ ns) (hl : bs.length < 3)
    (hA : H3 a = some (.lst (vs ++ ws ++ [.ref t]))) (he : AllIn H3 ws es []) (hok : RowsOk ns es) (hde : deps es = 0) (hS : H3 S = some (.lst ((c :: a :: bs).reverse.map V.ref))) (hT : H3 T = some (.lst ((ts ++ [x]).map V.str))) :
    Zip F H3 ns S T c (a :: bs) [] (ts ++ [x]) (n + cnts es + 1) := by
  obtain ⟨rs, f, ls, g, h1, h2, h3, h4, h5, h6, h7⟩ := z.ex
  have nd := h3
  rw [List.nodup_cons, List.nodup_cons, List.nodup_cons] at nd
  obtain ⟨n1, n2, n3, n4⟩ := nd
  have nS : ∀ l ∈ T :: a :: (f ++ g), l ≠ S := fun l hl q => n1 (q ▸ hl)
  have nT : ∀ l ∈ a :: (f ++ g), l ≠ T := fun l hl q => n2 (q ▸ hl)
  have na : ∀ l ∈ f ++ g, l ≠ a := fun l hl q => n3 (q ▸ hl)
  have at1 : ∀ l ∈ f ++ g, ∃ xs, H l = some (.lst xs) := fun l hl => (List.mem_append.mp hl).elim (h1.at l) (h2.at l)
  have K : Kept (f ++ g) H H3 := k.kept ⟨_, z.ha⟩ ⟨_, z.hS⟩ ⟨_, z.hT⟩ fun l hl => ⟨at1 l hl, na l hl, nS l (List.mem_cons_of_mem _ (List.mem_cons_of_mem _ hl)), nT l (List.mem_cons_of_mem _ hl)⟩
  have cn : ∀ l o, H l = some o → l ≠ c := fun l o q e => by rw [e, hc] at q; cases q
  have Fc : F c = none := z.fh.free hc
  have e1 : AllIn H3 (vs ++ ws) (rs ++ es) f := by
    have := (h1.keep K.left).append he
    rw [List.append_nil] at this
    exact this
  have d1 : deps (rs ++ es) = deps rs := by rw [deps_append, hde]; simp
  refine ⟨⟨[], [], (rs ++ es) :: ls, a :: (f ++ g), .nil, .cons hA ht hs e1 (RowsOk_append h5 hok) (by rw [d1]; exact h6) (h2.keep K.right), ?_, ?_, by rw [RowsOk]; trivial, by rw [deps, List.length_cons]; omega, ?_⟩, hS, hT, hc3, by rw [List.length_append, List.length_cons, z.lt]; rfl, ?_, by rw [List.length_cons]; omega, ?_⟩
  · rw [List.nil_append, List.nodup_cons, List.nodup_cons, List.nodup_cons]
    refine ⟨fun q => ?_, fun q => ?_, fun q => ?_, List.nodup_cons.mpr ⟨n3, n4⟩⟩
    · rcases List.mem_cons.mp q with q | q
      · exact n1 (q ▸ List.mem_cons_self)
      · rcases List.mem_cons.mp q with q | q
        · exact cn S _ z.hS q
        · exact n1 (List.mem_cons_of_mem _ q)
    · rcases List.mem_cons.mp q with q | q
      · exact cn T _ z.hT q
      · exact n2 q
    · rcases List.mem_cons.mp q with q | q
      · exact cn a _ z.ha q.symm
      · obtain ⟨xs, e⟩ := at1 c q
        exact cn c _ e rfl
  · intro l hl
    rcases List.mem_cons.mp hl with rfl | hl
    · exact h4 _ (by simp)
    rcases List.mem_cons.mp hl with rfl | hl
    · exact h4 _ (by simp)
    rcases List.mem_cons.mp hl with rfl | hl
    · exact Fc
    · exact h4 l (List.mem_cons_of_mem _ (List.mem_cons_of_mem _ hl))
  · rw [cnts, total, cnts_append]
    omega
  · intro y hy
    rcases List.mem_append.mp hy with hy | hy
    · exact z.nm y hy
    · rw [List.mem_singleton] at hy
      exact hy ▸ hx
  · intro b o q
    have nb : ∀ l ∈ S :: T :: a :: (f ++ g), b ≠ l := fun l hl e => by have := h4 l hl; rw [← e, q] at this; cases this
    exact k b o (nb a (by simp)) (nb S (by simp)) (nb T (by simp)) (z.fh b o q)
/-- a block is closed: lets es are put to the top, which is the row of the next list then -/
theorem Zip.close {F H H3 : Hp} {ns : List Str} {S T a b : Addr} {bs : List Addr} {vs : List V} {ts : List Str} {n : Nat} (z : Zip F H ns S T a (b :: bs) vs ts n) {ws : List V} {es : List Row} (k : But3 a S T H H3)
    (hA : H3 a = some (.lst (vs ++ ws))) (he : AllIn H3 ws es []) (hok : RowsOk ns es) (hde : deps es = 0) (hS : H3 S = some (.lst ((b :: bs).reverse.map V.ref))) (hT : H3 T = some (.lst (ts.dropLast.map V.str))) :
    ∃ us, Zip F H3 ns S T b bs us ts.dropLast (n + cnts es) := by
  obtain ⟨rs, f, ls, g, h1, h2, h3, h4, h5, h6, h7⟩ := z.ex
  have nd := h3
  rw [List.nodup_cons, List.nodup_cons, List.nodup_cons] at nd
  obtain ⟨n1, n2, n3, n4⟩ := nd
  have nS : ∀ l ∈ T :: a :: (f ++ g), l ≠ S := fun l hl q => n1 (q ▸ hl)
  have nT : ∀ l ∈ a :: (f ++ g), l ≠ T := fun l hl q => n2 (q ▸ hl)
  have na : ∀ l ∈ f ++ g, l ≠ a := fun l hl q => n3 (q ▸ hl)
  have at1 : ∀ l ∈ f ++ g, ∃ xs, H l = some (.lst xs) := fun l hl => (List.mem_append.mp hl).elim (h1.at l) (h2.at l)
  have K : Kept (f ++ g) H H3 := k.kept ⟨_, z.ha⟩ ⟨_, z.hS⟩ ⟨_, z.hT⟩ fun l hl => ⟨at1 l hl, na l hl, nS l (List.mem_cons_of_mem _ (List.mem_cons_of_mem _ hl)), nT l (List.mem_cons_of_mem _ hl)⟩
  have e1 : AllIn H3 (vs ++ ws) (rs ++ es) f := by
    have := (h1.keep K.left).append he
    rw [List.append_nil] at this
    exact this
  have d1 : deps (rs ++ es) = deps rs := by rw [deps_append, hde]; simp
  have lz := z.lt
  have l3 := z.l3
  have zn := z.nm
  rw [List.length_cons] at lz l3 h6
  cases h2 with
  | @cons _ _ t _ us kd s ss ls' g1 g' hb ht hs ha ok hd hl =>
    have hb3 : H3 b = some (.lst (us ++ [.ref t])) := by rw [K.right.2 b List.mem_cons_self]; exact hb
    have ht3 := K.1 _ _ ht
    have hrow : RowIn H3 (.ref t) (.blk kd s (rs ++ es)) (a :: f) := .blk ht3 (.mk hA e1)
    refine ⟨us ++ [.ref t], ⟨ss ++ [.blk kd s (rs ++ es)], g1 ++ (a :: f), ls', g', (ha.keep K.right.tail.left).snoc hrow, hl.keep K.right.tail.right, ?_, ?_, RowsOk_append ok (RowsOk_one (by rw [RowOk]; exact ⟨hs, RowsOk_append h5 hok⟩)), ?_, ?_⟩, hS, hT, hb3, by rw [List.length_dropLast, lz]; rfl, fun y hy => zn y (List.dropLast_subset _ hy), by omega, ?_⟩
    · refine (List.Perm.nodup_iff ?_).mp h3
      refine List.Perm.cons _ (List.Perm.cons _ ?_)
      have p1 : (a :: (f ++ b :: (g1 ++ g'))).Perm (b :: ((a :: f) ++ (g1 ++ g'))) := by
        rw [← List.cons_append]
        exact List.perm_middle
      refine p1.trans (List.Perm.cons _ ?_)
      rw [← List.append_assoc]
      exact List.Perm.append_right _ List.perm_append_comm
    · intro l hl
      refine h4 l ?_
      simp only [List.mem_cons, List.mem_append] at hl ⊢
      rcases hl with h | h | h | (h | h | h) | h <;> simp [h]
    · rw [deps_append, deps, deps, Row.dep, d1]
      simp only [Nat.max_zero, Nat.zero_max]
      omega
    · rw [cnts_append, cnts, cnts, Row.cnt, cnts_append]
      rw [total] at h7
      omega
    · intro c o q
      have nb : ∀ l ∈ S :: T :: a :: (f ++ b :: (g1 ++ g')), c ≠ l := fun l hl e => by have := h4 l hl; rw [← e, q] at this; cases this
      exact k c o (nb a (by simp)) (nb S (by simp)) (nb T (by simp)) (z.fh c o q)
/-- all is closed -/
theorem Zip.done {F H : Hp} {ns : List Str} {S T a : Addr} {vs : List V} {ts : List Str} {n : Nat} (z : Zip F H ns S T a [] vs ts n) : ∃ rs fp, RowsIn H a rs fp ∧ RowsOk ns rs ∧ deps rs ≤ 3 ∧ cnts rs ≤ n ∧ Same F H ∧ fp.Nodup ∧ ∀ l ∈ fp, F l = none := by
  obtain ⟨rs, f, ls, g, h1, h2, h3, h4, h5, h6, h7⟩ := z.ex
  refine ⟨rs, a :: f, .mk z.ha h1, h5, h6, by omega, z.fh, (List.nodup_append.mp (show ((a :: f) ++ g).Nodup from (List.nodup_cons.mp (List.nodup_cons.mp h3).2).2)).1, fun l hl => h4 l ?_⟩
  simp only [List.mem_cons, List.mem_append] at hl ⊢
  rcases hl with h | h <;> simp [h]
end LM
local macro_rules | `(tactic| wtm_at "lm.at") => `(tactic| (repeat (with_reducible first | exact LM.At.here | apply LM.At.there)))
local macro_rules | `(tactic| wtm_at "lm.put") => `(tactic| (repeat (with_reducible first | exact LM.Put.here | apply LM.Put.there)))
local macro_rules | `(tactic| wtm_at "lm.wip") => `(tactic| (repeat (with_reducible first | exact LM.Wip.here | apply LM.Wip.there)))
local macro_rules | `(tactic| wtm_at "lm.mem") => `(tactic| (repeat (with_reducible first | exact List.mem_cons_self | apply List.mem_cons_of_mem)))
local macro_rules | `(tactic| wtm_at "lm.h") => `(tactic| with_reducible first
  | assumption
  | exact L2.upd_same
  | (apply L2.SqL.of; wtm_at "lm.h"; done)
  | (apply L2.SqT.of; wtm_at "lm.h"; done)
  | (apply L2.Rd.of; wtm_at "lm.h"; done)
  | (apply LM.sq_all; assumption)
  | (apply L2.Same.seq; assumption; wtm_at "lm.h"; done)
  | (apply LM.Same.sqt; assumption; wtm_at "lm.h"; done)
  | (apply LM.Same.rd; assumption; wtm_at "lm.h"; done)
  | (apply LM.Same.at; assumption; wtm_at "lm.h"; done))
local macro_rules | `(tactic| wtm_at "lm.e") => `(tactic| with_reducible first
  | (refine' LM.w_name (by assumption) ?k1 ?k2 ?_; (case k1 => wtm_at "lm.at"); (case k2 => wtm_at "lm.mem"))
  | refine LM.w_int ?_
  | refine LM.w_str ?_
  | (refine' LM.w_globR (by assumption) ?k1 ?k2 ?_; (case k2 => assumption); (case k1 => wtm_at "lm.mem"))
  | (refine' LM.w_globI (by assumption) ?k1 ?k2 ?_; (case k2 => assumption); (case k1 => wtm_at "lm.mem"))
  | (refine' LM.w_globS (by assumption) ?k1 ?k2 ?_; (case k2 => assumption); (case k1 => wtm_at "lm.mem"))
  | (refine' LM.w_dix (L2.hu_of (by assumption)) ?k1 ?_; (case k1 => with_unfolding_all (refine LM.noSl_str)))
  | (refine' LM.w_ix ?k1 ?_; (case k1 => with_unfolding_all (intro _ _; rfl)))
  | refine LM.w_op ?_
  | (refine LM.w_cmp (L2.nomark _) ?_)
  | (refine' LM.w_cmp ?k1 ?_; (case k1 => with_unfolding_all rfl))
  | refine LM.w_slice ?_
  | refine LM.w_tup ?_
  | refine LM.w_lst ?_
  | (refine' LM.w_call (by assumption) ?k1 (by assumption) ?k2 ?k3 ?_ ?k4 ?k5; (case k1 => assumption); (case k2 => (first | omega | decide)); (case k3 => wtm_at "lm.mem"); (case k4 => with_unfolding_all rfl); (case k5 => with_unfolding_all rfl))
  | (refine' LM.w_callB (by assumption) ?k1 ?k2 ?k3 ?_ ?k4 ?k5; (case k3 => first | exact PySem.boot_len | exact PyProof.Rows.boot_isinstance | exact LM.boot_max | exact LM.boot_min | exact PyProof.Rows.boot_sorted | exact LM.boot_all | exact LM.boot_sum); (case k1 => wtm_at "lm.mem"); (case k2 => assumption); (case k4 => with_unfolding_all rfl); (case k5 => with_unfolding_all rfl))
  | (refine' LM.w_callTy (by assumption) ?k1 ?k2 ?k3 ?_ ?k4 ?k5; (case k3 => first | exact PyProof.Rows.boot_int | exact PyProof.Rows.boot_str | exact PyProof.Rows.boot_list | exact PyProof.Rows.boot_dict); (case k1 => wtm_at "lm.mem"); (case k2 => assumption); (case k4 => with_unfolding_all rfl); (case k5 => with_unfolding_all rfl))
  | (refine' LM.w_append ?_ ?k1 ?k2 ?k3 ?k4 ?k5; (case k1 => with_unfolding_all rfl); (case k2 => with_unfolding_all rfl); (case k3 => with_unfolding_all rfl); (case k4 => with_unfolding_all rfl); (case k5 => with_unfolding_all rfl))
  | (refine' LM.w_extend ?_ ?k1 ?k2 ?k3 ?k4 ?k5; (case k1 => with_unfolding_all rfl); (case k2 => with_unfolding_all rfl); (case k3 => with_unfolding_all rfl); (case k4 => with_unfolding_all rfl); (case k5 => with_unfolding_all rfl))
  | (refine' LM.w_get2 (L2.hu_of (by assumption)) ?_ ?k1; (case k1 => with_unfolding_all exact ⟨rfl, rfl, rfl, rfl⟩))
  | (refine' LM.w_pop ?_ ?k1 ?k2; (case k1 => with_unfolding_all rfl); (case k2 => with_unfolding_all rfl))
  | (refine' LM.w_ty (by assumption) ?k1 ?k2 ?k3 ?_; (case k3 => first | exact PyProof.Rows.boot_int | exact PyProof.Rows.boot_str | exact PyProof.Rows.boot_list | exact PyProof.Rows.boot_tuple | exact PyProof.Rows.boot_bool | exact PyProof.Rows.boot_dict); (case k1 => wtm_at "lm.mem"); (case k2 => assumption))
  | refine LM.w_bl ?_
  | refine LM.w_non ?_
  | refine LM.w_dict0 ?_
  | refine LM.w_neg ?_
  | refine LM.w_not ?_
  | refine LM.w_and ?_
  | refine LM.w_or ?_
  | refine LM.w_one ?_
  | refine LM.w_ifExp ?_
  | (refine' LM.w_join ?_ ?k1 ?k2 ?k3; (case k1 => with_unfolding_all rfl); (case k2 => with_unfolding_all rfl); (case k3 => with_unfolding_all rfl))
  | (refine' LM.w_callX (by assumption) (by assumption) ?k1 (by assumption) ?k2 ?k3 ?_ ?k4 ?k5; (case k1 => assumption); (case k2 => (first | omega | decide)); (case k3 => wtm_at "lm.mem"); (case k4 => with_unfolding_all rfl); (case k5 => with_unfolding_all rfl))
  | (refine' LM.w_nameS (by assumption) ?k1 ?k2 ?_; (case k1 => wtm_at "lm.at"); (case k2 => wtm_at "lm.mem"))
  | (refine' LM.w_globRS (by assumption) ?k1 ?k2 ?_; (case k2 => assumption); (case k1 => wtm_at "lm.mem"))
  | (refine' LM.w_tyS (by assumption) ?k1 ?k2 ?k3 ?_; (case k3 => first | exact PyProof.Rows.Boot.«ValueError»); (case k1 => wtm_at "lm.mem"); (case k2 => assumption))
  | (refine' LM.w_callBS (by assumption) ?k1 ?k2 ?k3 ?_ ?k4 ?k5; (case k3 => first | exact PySem.boot_len | exact PyProof.Rows.boot_isinstance); (case k1 => wtm_at "lm.mem"); (case k2 => assumption); (case k4 => with_unfolding_all rfl); (case k5 => with_unfolding_all rfl))
)
local macro_rules | `(tactic| wtm_at "lm.t") => `(tactic| with_reducible first
  | (refine LM.t_cmp (L2.nomark _) ?_)
  | (refine' LM.t_cmp ?k1 ?_; (case k1 => with_unfolding_all rfl))
  | refine LM.t_not ?_
  | refine LM.t_bool ?_
  | (refine' LM.t_truth ?k1 ?_; (case k1 => with_unfolding_all (intro _; rfl)))
)
local macro_rules | `(tactic| wtm_at "lm.ww") => `(tactic| with_reducible first
  | refine LM.ww_and ?_
  | refine LM.ww_and1 ?_
  | refine LM.ww_or ?_
  | refine LM.ww_or1 ?_
)
local macro_rules | `(tactic| wtm_at "lm.b") => `(tactic| with_reducible first
  | refine LM.b_add ?_
  | refine LM.b_sub ?_
  | (refine LM.b_mod (by decide) ?_)
  | (refine' LM.b_div ?k1 ?_; (case k1 => with_unfolding_all exact ⟨by decide, by decide⟩))
  | (refine' LM.b_mul ?k1 ?_; (case k1 => with_unfolding_all first | exact .inl (by decide) | exact .inr (by decide)))
)
local macro_rules | `(tactic| wtm_at "lm.cm") => `(tactic| with_reducible first
  | refine LM.c_lt ?_
  | refine LM.c_gt ?_
  | refine LM.c_le ?_
  | refine LM.c_ge ?_
  | refine LM.c_eqI ?_
  | refine LM.c_neI ?_
  | refine LM.c_eqS ?_
  | refine LM.c_neS ?_
  | (refine' LM.c_inT ?k1 ?k2 ?k3 ?_; (case k1 => wtm_at "lm.h"); (case k2 => with_unfolding_all rfl); (case k3 => with_unfolding_all rfl))
)
local macro_rules | `(tactic| wtm_at "lm.ki") => `(tactic| with_reducible first
  | refine LM.ki_str_str ?_
  | refine LM.ki_str_int ?_
  | refine LM.ki_str_bool ?_
  | refine LM.ki_str_list ?_
  | refine LM.ki_str_tuple ?_
  | refine LM.ki_str_dict ?_
  | refine LM.ki_int_str ?_
  | refine LM.ki_int_int ?_
  | refine LM.ki_int_bool ?_
  | refine LM.ki_int_list ?_
  | refine LM.ki_int_tuple ?_
  | refine LM.ki_int_dict ?_
  | refine LM.ki_bool_str ?_
  | refine LM.ki_bool_int ?_
  | refine LM.ki_bool_bool ?_
  | refine LM.ki_bool_list ?_
  | refine LM.ki_bool_tuple ?_
  | refine LM.ki_bool_dict ?_
  | refine LM.ki_NoneType_str ?_
  | refine LM.ki_NoneType_int ?_
  | refine LM.ki_NoneType_bool ?_
  | refine LM.ki_NoneType_list ?_
  | refine LM.ki_NoneType_tuple ?_
  | refine LM.ki_NoneType_dict ?_
  | (refine' LM.ki_list_str ?k1 ?_; (case k1 => wtm_at "lm.h"))
  | (refine' LM.ki_list_int ?k1 ?_; (case k1 => wtm_at "lm.h"))
  | (refine' LM.ki_list_bool ?k1 ?_; (case k1 => wtm_at "lm.h"))
  | (refine' LM.ki_list_list ?k1 ?_; (case k1 => wtm_at "lm.h"))
  | (refine' LM.ki_list_tuple ?k1 ?_; (case k1 => wtm_at "lm.h"))
  | (refine' LM.ki_list_dict ?k1 ?_; (case k1 => wtm_at "lm.h"))
  | (refine' LM.ki_tuple_str ?k1 ?_; (case k1 => wtm_at "lm.h"))
  | (refine' LM.ki_tuple_int ?k1 ?_; (case k1 => wtm_at "lm.h"))
  | (refine' LM.ki_tuple_bool ?k1 ?_; (case k1 => wtm_at "lm.h"))
  | (refine' LM.ki_tuple_list ?k1 ?_; (case k1 => wtm_at "lm.h"))
  | (refine' LM.ki_tuple_tuple ?k1 ?_; (case k1 => wtm_at "lm.h"))
  | (refine' LM.ki_tuple_dict ?k1 ?_; (case k1 => wtm_at "lm.h"))
  | (refine' LM.ki_dict_str ?k1 ?_; (case k1 => wtm_at "lm.h"))
  | (refine' LM.ki_dict_int ?k1 ?_; (case k1 => wtm_at "lm.h"))
  | (refine' LM.ki_dict_bool ?k1 ?_; (case k1 => wtm_at "lm.h"))
  | (refine' LM.ki_dict_list ?k1 ?_; (case k1 => wtm_at "lm.h"))
  | (refine' LM.ki_dict_tuple ?k1 ?_; (case k1 => wtm_at "lm.h"))
  | (refine' LM.ki_dict_dict ?k1 ?_; (case k1 => wtm_at "lm.h"))
)
local macro_rules | `(tactic| wtm_at "lm.k") => `(tactic| with_reducible first
  | (refine' LM.k_lenL ?k1 ?_; (case k1 => wtm_at "lm.h"))
  | (refine' LM.k_lenT ?k1 ?_; (case k1 => wtm_at "lm.h"))
  | refine LM.k_intb ?_
  | (refine LM.k_max (by assumption) ?_)
  | (refine LM.k_min (by assumption) ?_)
)
local macro_rules | `(tactic| wtm_at "lm.a") => `(tactic| with_reducible first
  | refine LM.a_nil ?_
  | (refine' LM.a_cons ?_ ?k1; (case k1 => with_unfolding_all rfl))
)
local macro_rules | `(tactic| wtm_at "lm.x") => `(tactic| with_reducible first
  | (refine' LM.ex_put ?k1 ?_; (case k1 => wtm_at "lm.put"))
  | (refine' LM.ex_len ?k1 ?_; (case k1 => with_unfolding_all rfl))
  | (refine' LM.o_int ?_)
  | refine LM.x_bl ?_
  | refine LM.x_str ?_
  | refine LM.x_int ?_
  | refine LM.x_tbl ?_
  | (refine' LM.x_sq ?k1 ?_; (case k1 => wtm_at "lm.h"))
  | (refine' LM.x_st ?k1 ?_; (case k1 => wtm_at "lm.h"))
  | refine LM.ite_T ?_
  | refine LM.ite_F ?_
  | refine LM.ite_nT ?_
  | refine LM.ite_nF ?_
  | refine LM.nx_mk ?_
  | refine LM.rt_mk ?_
  | (refine' LM.ite_bT ?k1 ?_; (case k1 => first | exact LM.in_blocks _ | with_unfolding_all decide +kernel))
  | (refine' LM.ite_bF ?k1 ?_; (case k1 => first | exact LM.kd_let _ | exact LM.kd_say _ | with_unfolding_all decide +kernel))
  | (refine' LM.ite_lenT ?k1 ?_; (case k1 => with_unfolding_all rfl))
  | (refine' LM.ite_lenF ?k1 ?_; (case k1 => with_unfolding_all rfl))
  | (refine' LM.ite_nlT ?k1 ?_; (case k1 => with_unfolding_all rfl))
  | (refine' LM.ite_nlF ?k1 ?_; (case k1 => with_unfolding_all rfl))
)
local macro_rules | `(tactic| wtm_at "lm.ix") => `(tactic| with_reducible first
  | (refine' LM.i_tup ?k1 ?k2 ?_; (case k1 => wtm_at "lm.h"); (case k2 => with_unfolding_all rfl))
  | (refine' LM.i_lst ?k1 ?k2 ?_; (case k1 => wtm_at "lm.h"); (case k2 => with_unfolding_all rfl))
)
local macro_rules | `(tactic| wtm_at "lm.s") => `(tactic| with_reducible first
  | refine LM.s_if ?_
  | refine LM.s_ret ?_
  | (refine' LM.s_set (by assumption) ?k1 ?_ ?k2; (case k1 => wtm_at "lm.mem"); (case k2 => with_unfolding_all rfl))
  | (refine' LM.s_for (by assumption) ?k1 ?_ ?k2; (case k1 => wtm_at "lm.mem"); (case k2 => with_unfolding_all (intro _; rfl)))
  | (refine' LM.s_expr ?_ ?k1; (case k1 => with_unfolding_all rfl))
  | (refine' LM.s_sub ?_ ?k1 ?k2 ?k3 ?k4; (case k1 => with_unfolding_all (intro _; rfl)); (case k2 => with_unfolding_all rfl); (case k3 => with_unfolding_all rfl); (case k4 => with_unfolding_all rfl))
  | refine LM.s_pass ?_
  | refine LM.s_retN ?_
  | (refine' LM.s_setS (by assumption) ?k1 ?_ ?k2; (case k1 => wtm_at "lm.mem"); (case k2 => with_unfolding_all rfl))
)
local macro_rules | `(tactic| wtm_at "lm.ss") => `(tactic| with_reducible first
  | refine LM.s_nil ?_
  | refine LM.s_one ?_
)
local macro_rules | `(tactic| wtm_at "lm.w") => `(tactic| with_reducible first
  | (refine' LM.wi_range (by assumption) ?k1 ?k2 ?_ ?k3; (case k1 => wtm_at "lm.mem"); (case k2 => assumption); (case k3 => with_unfolding_all rfl))
)
local macro_rules | `(tactic| wtm_at "lms") => `(tactic| (repeat (first
  | (guard_target = LM.WE _ _ _ _ _; wtm_at "lm.e")
  | (guard_target = LM.WA _ _ _ _ _; wtm_at "lm.a")
  | (guard_target = LM.WB _ _ _ _ _ _; wtm_at "lm.b")
  | (guard_target = LM.WC _ _ _ _ _ _; wtm_at "lm.cm")
  | (guard_target = LM.WS _ _ _ _ _; wtm_at "lm.s")
  | (guard_target = LM.WSs _ _ _ _ _; wtm_at "lm.ss")
  | (guard_target = LM.WT _ _ _ _ _; wtm_at "lm.t")
  | (guard_target = LM.WW _ _ _ _ _; wtm_at "lm.ww")
  | (guard_target = LM.WB1 _ (PySem.Value.builtin "isinstance") _ _ _; wtm_at "lm.ki")
  | (guard_target = LM.WB1 _ _ _ _ _; wtm_at "lm.k")
  | (guard_target = LM.WO _ _ _ _ _; with_reducible first | refine LM.o_none ?_ | refine LM.o_some ?_)
  | (guard_target = LM.WI _ _ _ _ _; wtm_at "lm.ix")
  | (guard_target = LM.WI1 _ _ _ _ _ _; wtm_at "lm.w")
  | wtm_at "lm.x")))
local macro_rules | `(tactic| wtm_at "lm") => `(tactic| (repeat (first
  | (guard_target = LM.WE _ _ _ _ _; wtm_at "lm.e")
  | (guard_target = LM.WA _ _ _ _ _; wtm_at "lm.a")
  | (guard_target = LM.WB _ _ _ _ _ _; wtm_at "lm.b")
  | (guard_target = LM.WC _ _ _ _ _ _; wtm_at "lm.cm")
  | (guard_target = LM.WS _ _ _ _ _; wtm_at "lm.s")
  | (guard_target = LM.WSs _ _ _ _ _; (first | wtm_at "lm.ss" | (with_reducible refine LM.s_cons ?_)))
  | (guard_target = LM.WT _ _ _ _ _; wtm_at "lm.t")
  | (guard_target = LM.WW _ _ _ _ _; wtm_at "lm.ww")
  | (guard_target = LM.WB1 _ (PySem.Value.builtin "isinstance") _ _ _; wtm_at "lm.ki")
  | (guard_target = LM.WB1 _ _ _ _ _; wtm_at "lm.k")
  | (guard_target = LM.WO _ _ _ _ _; with_reducible first | refine LM.o_none ?_ | refine LM.o_some ?_)
  | (guard_target = LM.WI _ _ _ _ _; wtm_at "lm.ix")
  | (guard_target = LM.WI1 _ _ _ _ _ _; wtm_at "lm.w")
  | wtm_at "lm.x")))
namespace LM
open PySem PySem.Spec PyProof.Rows L2
def top (i : Nat) : Stmt := PySem.Challenge.pw_loopmover_k12_lines_that_are_none.main.body.getD i (.Pass ⟨0, 0, 0, 0⟩)
abbrev s_p_is_name : Stmt := top 13
abbrev s_p_value_of : Stmt := top 16
abbrev s_p_row_of : Stmt := top 17
abbrev s_p_read : Stmt := top 18
abbrev s_l_cell_at : Stmt := top 20
abbrev s_l_mixed : Stmt := top 21
abbrev s_l_names : Stmt := top 22
abbrev s_l_value : Stmt := top 23
abbrev s_l_let : Stmt := top 24
abbrev s_l_closed : Stmt := top 25
abbrev s_l_opened : Stmt := top 26
abbrev s_l_program : Stmt := top 27
abbrev s_l_whole : Stmt := top 28
abbrev s_l_lines : Stmt := top 29
abbrev s_l_odd_line : Stmt := top 30
abbrev s_l_due : Stmt := top 31
abbrev s_l_found : Stmt := top 32
abbrev s_l_refused_by_any : Stmt := top 33
abbrev s_law : Stmt := top 34
abbrev s_BadLine___init__ : Stmt := inClass (top 5) 0
abbrev s_TooDeep___init__ : Stmt := inClass (top 6) 0
structure Exs (K : PySem.W.Frag) (mg : Str → Option Value) (C_LoopError C_BadRow C_BadName C_BadNumber C_BadLine C_TooDeep : Addr) : Prop where
  x_LoopError : EKb K mg "LoopError" C_LoopError
  x_BadRow : EKo K mg "BadRow" C_BadRow
  x_BadName : EKo K mg "BadName" C_BadName
  x_BadNumber : EKo K mg "BadNumber" C_BadNumber
  x_BadLine : EKi K mg "BadLine" C_BadLine "BadLine.__init__" s_BadLine___init__
  x_TooDeep : EKi K mg "TooDeep" C_TooDeep "TooDeep.__init__" s_TooDeep___init__
  s_BadRow_LoopError : PySem.W.subIn K (.ref C_BadRow) (.ref C_LoopError) = some true
  s_BadRow_BadName : PySem.W.subIn K (.ref C_BadRow) (.ref C_BadName) = some false
  s_BadRow_BadNumber : PySem.W.subIn K (.ref C_BadRow) (.ref C_BadNumber) = some false
  s_BadRow_BadLine : PySem.W.subIn K (.ref C_BadRow) (.ref C_BadLine) = some false
  s_BadRow_TooDeep : PySem.W.subIn K (.ref C_BadRow) (.ref C_TooDeep) = some false
  s_BadName_LoopError : PySem.W.subIn K (.ref C_BadName) (.ref C_LoopError) = some true
  s_BadName_BadRow : PySem.W.subIn K (.ref C_BadName) (.ref C_BadRow) = some false
  s_BadName_BadNumber : PySem.W.subIn K (.ref C_BadName) (.ref C_BadNumber) = some false
  s_BadName_BadLine : PySem.W.subIn K (.ref C_BadName) (.ref C_BadLine) = some false
  s_BadName_TooDeep : PySem.W.subIn K (.ref C_BadName) (.ref C_TooDeep) = some false
  s_BadNumber_LoopError : PySem.W.subIn K (.ref C_BadNumber) (.ref C_LoopError) = some true
  s_BadNumber_BadRow : PySem.W.subIn K (.ref C_BadNumber) (.ref C_BadRow) = some false
  s_BadNumber_BadName : PySem.W.subIn K (.ref C_BadNumber) (.ref C_BadName) = some false
  s_BadNumber_BadLine : PySem.W.subIn K (.ref C_BadNumber) (.ref C_BadLine) = some false
  s_BadNumber_TooDeep : PySem.W.subIn K (.ref C_BadNumber) (.ref C_TooDeep) = some false
  s_BadLine_LoopError : PySem.W.subIn K (.ref C_BadLine) (.ref C_LoopError) = some true
  s_BadLine_BadRow : PySem.W.subIn K (.ref C_BadLine) (.ref C_BadRow) = some false
  s_BadLine_BadName : PySem.W.subIn K (.ref C_BadLine) (.ref C_BadName) = some false
  s_BadLine_BadNumber : PySem.W.subIn K (.ref C_BadLine) (.ref C_BadNumber) = some false
  s_BadLine_TooDeep : PySem.W.subIn K (.ref C_BadLine) (.ref C_TooDeep) = some false
  s_TooDeep_LoopError : PySem.W.subIn K (.ref C_TooDeep) (.ref C_LoopError) = some true
  s_TooDeep_BadRow : PySem.W.subIn K (.ref C_TooDeep) (.ref C_BadRow) = some false
  s_TooDeep_BadName : PySem.W.subIn K (.ref C_TooDeep) (.ref C_BadName) = some false
  s_TooDeep_BadNumber : PySem.W.subIn K (.ref C_TooDeep) (.ref C_BadNumber) = some false
  s_TooDeep_BadLine : PySem.W.subIn K (.ref C_TooDeep) (.ref C_BadLine) = some false
  ob : ObC K
/-- what the module holds: its defs, its constants; the built-in names that it leaves alone -/
structure Txt (K : PySem.W.Frag) (mg : Str → Option Value) : Prop where
  d_p_is_name : Def K mg "is_name" s_p_is_name ["thing"]
  d_p_value_of : Def K mg "value_of" s_p_value_of ["word"]
  d_p_row_of : Def K mg "row_of" s_p_row_of ["words"]
  d_p_read : Def K mg "read" s_p_read ["lines"]
  d_l_cell_at : Def K mg "_law_cell_at" s_l_cell_at ["_law_script", "_law_k"]
  d_l_mixed : Def K mg "_law_mixed" s_l_mixed ["_law_cell", "_law_k"]
  d_l_names : Def K mg "_law_names" s_l_names ["_law_cell"]
  d_l_value : Def K mg "_law_value" s_l_value ["_law_kind", "_law_number", "_law_names_here"]
  d_l_let : Def K mg "_law_let" s_l_let ["_law_number", "_law_names_here"]
  d_l_closed : Def K mg "_law_closed" s_l_closed ["_law_stack", "_law_tests"]
  d_l_opened : Def K mg "_law_opened" s_l_opened ["_law_number", "_law_names_here", "_law_stack", "_law_tests"]
  d_l_program : Def K mg "_law_program" s_l_program ["_law_cells", "_law_names_here"]
  d_l_whole : Def K mg "_law_whole" s_l_whole ["_law_found_here"]
  d_l_lines : Def K mg "_law_lines" s_l_lines ["_law_rows"]
  d_l_odd_line : Def K mg "_law_odd_line" s_l_odd_line ["_law_number"]
  d_l_due : Def K mg "_law_due" s_l_due ["_law_lines_here"]
  d_l_found : Def K mg "_law_found" s_l_found ["_law_lines_here"]
  d_l_refused_by_any : Def K mg "_law_refused_by_any" s_l_refused_by_any ["_law_lines_here"]
  b_ValueError : mg "ValueError" = none
  b_all : mg "all" = none
  b_bool : mg "bool" = none
  b_int : mg "int" = none
  b_isinstance : mg "isinstance" = none
  b_len : mg "len" = none
  b_list : mg "list" = none
  b_max : mg "max" = none
  b_range : mg "range" = none
  b_str : mg "str" = none
  c_MOST_DEEP : ∃ t, mg "MOST_DEEP" = some (.int 20 t)
  c_LETTERS : ∃ t, mg "LETTERS" = some (.str "abcdefghijklmnopqrstuvwxyz" t)
  c_WORDS : ∃ a, mg "WORDS" = some (.ref a) ∧ ∀ H, SqT K H a [.str "say", .str "when", .str "loop", .str "again", .str "end"]
  c_BLOCKS : ∃ a, mg "BLOCKS" = some (.ref a) ∧ ∀ H, SqT K H a [.str "when", .str "loop", .str "again"]
  c_SIGNS : ∃ a, mg "SIGNS" = some (.ref a) ∧ ∀ H, SqT K H a [.str "+", .str "-", .str "*", .str "<", .str "/"]
  c_FIGURES : ∃ t, mg "FIGURES" = some (.str "0123456789" t)
  xs : ∃ C_LoopError C_BadRow C_BadName C_BadNumber C_BadLine C_TooDeep, Exs K mg C_LoopError C_BadRow C_BadName C_BadNumber C_BadLine C_TooDeep
section
variable {P : Program} {w : World} {K : PySem.W.Frag} {mg : Str → Option Value} {base : Heap}
theorem go_BadLine___init__ {k : Nat} {sp : Sp} {C : Addr} (F : MDef K C "__init__" "BadLine.__init__" s_BadLine___init__ ["self", "place"]) (len : ∀ vs H Q E, sp vs H Q E → vs.length = 2)
    (hbody : ∀ X : Cx, X.prog = P → X.w = w → X.K = K → X.mg = mg → X.base = base → Fr X ["self", "place"] ["self", "place"] ["self", "place"] ["LoopError"] → X.env.scope = defScope s_BadLine___init__ → Room k X.A → ∀ (vs : List V) (H : Hp) (Q : VK) (E : XK), sp vs H Q E → WSs X (defBody s_BadLine___init__) { nx := fun _ H' => Q .non H', rt := Q } (start ["self", "place"] vs) H) :
    MOk P w K mg base (k + 1) C "__init__" ["self", "place"] sp := F.ok ⟨rfl, rfl, rfl, by decide +kernel, rfl, by decide +kernel, by decide +kernel⟩ (by decide +kernel) len hbody
theorem go_TooDeep___init__ {k : Nat} {sp : Sp} {C : Addr} (F : MDef K C "__init__" "TooDeep.__init__" s_TooDeep___init__ ["self", "place"]) (len : ∀ vs H Q E, sp vs H Q E → vs.length = 2)
    (hbody : ∀ X : Cx, X.prog = P → X.w = w → X.K = K → X.mg = mg → X.base = base → Fr X ["self", "place"] ["self", "place"] ["self", "place"] ["LoopError"] → X.env.scope = defScope s_TooDeep___init__ → Room k X.A → ∀ (vs : List V) (H : Hp) (Q : VK) (E : XK), sp vs H Q E → WSs X (defBody s_TooDeep___init__) { nx := fun _ H' => Q .non H', rt := Q } (start ["self", "place"] vs) H) :
    MOk P w K mg base (k + 1) C "__init__" ["self", "place"] sp := F.ok ⟨rfl, rfl, rfl, by decide +kernel, rfl, by decide +kernel, by decide +kernel⟩ (by decide +kernel) len hbody
abbrev ps_p_is_name : List Str := ["thing"]
abbrev G_p_is_name : List Str := ["isinstance", "str", "len", "WORDS", "all"]
theorem go_p_is_name {k : Nat} {sp : Sp} (F : Def K mg "is_name" s_p_is_name ["thing"]) (len : ∀ vs H Q E, sp vs H Q E → vs.length = 1)
    (hbody : ∀ X : Cx, X.prog = P → X.w = w → X.K = K → X.mg = mg → X.base = base → Fr X ["thing", "sign"] ["thing"] ["thing"] ["isinstance", "str", "len", "WORDS", "all"] → X.env.scope = defScope s_p_is_name → Room k X.A → ∀ (vs : List V) (H : Hp) (Q : VK) (E : XK), sp vs H Q E → WSs X (defBody s_p_is_name) { nx := fun _ H' => Q .non H', rt := Q } (start ["thing", "sign"] vs) H) :
    CallOk P w K mg base (k + 1) "is_name" ["thing"] sp := by
      have hb := @Def.ok P w K mg base "is_name" s_p_is_name ["thing", "sign"] ["thing"] ["thing"] ["isinstance", "str", "len", "WORDS", "all"] k sp F ⟨rfl, rfl, rfl, by decide +kernel, rfl, by decide +kernel, by decide +kernel⟩ (by decide +kernel) len
      refine hb ?_
      with_reducible exact hbody
abbrev ps_p_value_of : List Str := ["word"]
abbrev G_p_value_of : List Str := ["is_name", "len", "all", "int"]
theorem go_p_value_of {k : Nat} {sp : Sp} (F : Def K mg "value_of" s_p_value_of ["word"]) (len : ∀ vs H Q E, sp vs H Q E → vs.length = 1)
    (hbody : ∀ X : Cx, X.prog = P → X.w = w → X.K = K → X.mg = mg → X.base = base → Fr X ["word", "sign"] ["word"] ["word"] ["is_name", "len", "all", "int"] → X.env.scope = defScope s_p_value_of → Room k X.A → ∀ (vs : List V) (H : Hp) (Q : VK) (E : XK), sp vs H Q E → WSs X (defBody s_p_value_of) { nx := fun _ H' => Q .non H', rt := Q } (start ["word", "sign"] vs) H) :
    CallOk P w K mg base (k + 1) "value_of" ["word"] sp := by
      have hb := @Def.ok P w K mg base "value_of" s_p_value_of ["word", "sign"] ["word"] ["word"] ["is_name", "len", "all", "int"] k sp F ⟨rfl, rfl, rfl, by decide +kernel, rfl, by decide +kernel, by decide +kernel⟩ (by decide +kernel) len
      refine hb ?_
      with_reducible exact hbody
abbrev ps_p_row_of : List Str := ["words"]
abbrev G_p_row_of : List Str := ["len", "BLOCKS", "is_name", "value_of", "SIGNS"]
theorem go_p_row_of {k : Nat} {sp : Sp} (F : Def K mg "row_of" s_p_row_of ["words"]) (len : ∀ vs H Q E, sp vs H Q E → vs.length = 1)
    (hbody : ∀ X : Cx, X.prog = P → X.w = w → X.K = K → X.mg = mg → X.base = base → Fr X ["words"] ["words"] ["words"] ["len", "BLOCKS", "is_name", "value_of", "SIGNS"] → X.env.scope = defScope s_p_row_of → Room k X.A → ∀ (vs : List V) (H : Hp) (Q : VK) (E : XK), sp vs H Q E → WSs X (defBody s_p_row_of) { nx := fun _ H' => Q .non H', rt := Q } (start ["words"] vs) H) :
    CallOk P w K mg base (k + 1) "row_of" ["words"] sp := by
      have hb := @Def.ok P w K mg base "row_of" s_p_row_of ["words"] ["words"] ["words"] ["len", "BLOCKS", "is_name", "value_of", "SIGNS"] k sp F ⟨rfl, rfl, rfl, by decide +kernel, rfl, by decide +kernel, by decide +kernel⟩ (by decide +kernel) len
      refine hb ?_
      with_reducible exact hbody
theorem gox_p_read {k : Nat} {sp : Sp} (F : Def K mg "read" s_p_read ["lines"]) (len : ∀ vs H Q E, sp vs H Q E → vs.length = 1)
    (hbody : ∀ X : Cx, X.prog = P → X.w = w → X.K = K → X.mg = mg → X.base = base → Fr X ["lines", "open_rows", "place", "row"] ["lines", "open_rows", "place", "row"] ["lines", "open_rows", "place", "row"] ["range", "len", "BadLine", "row_of", "MOST_DEEP", "TooDeep"] → Tr X → X.env.scope = defScope s_p_read → Room k X.A → ∀ (vs : List V) (H : Hp) (Q : VK) (E : XK), Takes X (fun cls d _ H' => E cls d H') → sp vs H Q E → WSs X (defBody s_p_read) { nx := fun _ H' => Q .non H', rt := Q } (start ["lines", "open_rows", "place", "row"] vs) H) :
    CallX P w K mg base (k + 1) "read" ["lines"] sp := by
      have hb := @Def.okX P w K mg base "read" s_p_read ["lines", "open_rows", "place", "row"] ["lines", "open_rows", "place", "row"] ["lines"] ["range", "len", "BadLine", "row_of", "MOST_DEEP", "TooDeep"] k sp F ⟨rfl, rfl, rfl, by decide +kernel, rfl, by decide +kernel, by decide +kernel⟩ (by decide +kernel) len
      refine hb ?_
      with_reducible exact hbody
abbrev ps_l_cell_at : List Str := ["_law_script", "_law_k"]
abbrev G_l_cell_at : List Str := ["len"]
theorem go_l_cell_at {k : Nat} {sp : Sp} (F : Def K mg "_law_cell_at" s_l_cell_at ["_law_script", "_law_k"]) (len : ∀ vs H Q E, sp vs H Q E → vs.length = 2)
    (hbody : ∀ X : Cx, X.prog = P → X.w = w → X.K = K → X.mg = mg → X.base = base → Fr X ["_law_script", "_law_k"] ["_law_script", "_law_k"] ["_law_script", "_law_k"] ["len"] → X.env.scope = defScope s_l_cell_at → Room k X.A → ∀ (vs : List V) (H : Hp) (Q : VK) (E : XK), sp vs H Q E → WSs X (defBody s_l_cell_at) { nx := fun _ H' => Q .non H', rt := Q } (start ["_law_script", "_law_k"] vs) H) :
    CallOk P w K mg base (k + 1) "_law_cell_at" ["_law_script", "_law_k"] sp := by
      have hb := @Def.ok P w K mg base "_law_cell_at" s_l_cell_at ["_law_script", "_law_k"] ["_law_script", "_law_k"] ["_law_script", "_law_k"] ["len"] k sp F ⟨rfl, rfl, rfl, by decide +kernel, rfl, by decide +kernel, by decide +kernel⟩ (by decide +kernel) len
      refine hb ?_
      with_reducible exact hbody
abbrev ps_l_mixed : List Str := ["_law_cell", "_law_k"]
abbrev G_l_mixed : List Str := []
theorem go_l_mixed {k : Nat} {sp : Sp} (F : Def K mg "_law_mixed" s_l_mixed ["_law_cell", "_law_k"]) (len : ∀ vs H Q E, sp vs H Q E → vs.length = 2)
    (hbody : ∀ X : Cx, X.prog = P → X.w = w → X.K = K → X.mg = mg → X.base = base → Fr X ["_law_cell", "_law_k", "_law_number"] ["_law_cell", "_law_k", "_law_number"] ["_law_cell", "_law_k", "_law_number"] [] → X.env.scope = defScope s_l_mixed → Room k X.A → ∀ (vs : List V) (H : Hp) (Q : VK) (E : XK), sp vs H Q E → WSs X (defBody s_l_mixed) { nx := fun _ H' => Q .non H', rt := Q } (start ["_law_cell", "_law_k", "_law_number"] vs) H) :
    CallOk P w K mg base (k + 1) "_law_mixed" ["_law_cell", "_law_k"] sp := by
      have hb := @Def.ok P w K mg base "_law_mixed" s_l_mixed ["_law_cell", "_law_k", "_law_number"] ["_law_cell", "_law_k", "_law_number"] ["_law_cell", "_law_k"] [] k sp F ⟨rfl, rfl, rfl, by decide +kernel, rfl, by decide +kernel, by decide +kernel⟩ (by decide +kernel) len
      refine hb ?_
      with_reducible exact hbody
abbrev ps_l_names : List Str := ["_law_cell"]
abbrev G_l_names : List Str := ["range"]
theorem go_l_names {k : Nat} {sp : Sp} (F : Def K mg "_law_names" s_l_names ["_law_cell"]) (len : ∀ vs H Q E, sp vs H Q E → vs.length = 1)
    (hbody : ∀ X : Cx, X.prog = P → X.w = w → X.K = K → X.mg = mg → X.base = base → Fr X ["_law_cell", "_law_letters", "_law_some", "_law_size", "_law_j", "_law_tail", "_law_k", "_law_word", "_law_place", "_law_words"] ["_law_cell", "_law_letters", "_law_some", "_law_size", "_law_j", "_law_tail", "_law_k", "_law_word", "_law_place", "_law_words"] ["_law_cell", "_law_letters", "_law_some", "_law_size", "_law_j", "_law_tail", "_law_k", "_law_word", "_law_place", "_law_words"] ["range"] → X.env.scope = defScope s_l_names → Room k X.A → ∀ (vs : List V) (H : Hp) (Q : VK) (E : XK), sp vs H Q E → WSs X (defBody s_l_names) { nx := fun _ H' => Q .non H', rt := Q } (start ["_law_cell", "_law_letters", "_law_some", "_law_size", "_law_j", "_law_tail", "_law_k", "_law_word", "_law_place", "_law_words"] vs) H) :
    CallOk P w K mg base (k + 1) "_law_names" ["_law_cell"] sp := by
      have hb := @Def.ok P w K mg base "_law_names" s_l_names ["_law_cell", "_law_letters", "_law_some", "_law_size", "_law_j", "_law_tail", "_law_k", "_law_word", "_law_place", "_law_words"] ["_law_cell", "_law_letters", "_law_some", "_law_size", "_law_j", "_law_tail", "_law_k", "_law_word", "_law_place", "_law_words"] ["_law_cell"] ["range"] k sp F ⟨rfl, rfl, rfl, by decide +kernel, rfl, by decide +kernel, by decide +kernel⟩ (by decide +kernel) len
      refine hb ?_
      with_reducible exact hbody
abbrev ps_l_value : List Str := ["_law_kind", "_law_number", "_law_names_here"]
abbrev G_l_value : List Str := []
theorem go_l_value {k : Nat} {sp : Sp} (F : Def K mg "_law_value" s_l_value ["_law_kind", "_law_number", "_law_names_here"]) (len : ∀ vs H Q E, sp vs H Q E → vs.length = 3)
    (hbody : ∀ X : Cx, X.prog = P → X.w = w → X.K = K → X.mg = mg → X.base = base → Fr X ["_law_kind", "_law_number", "_law_names_here"] ["_law_kind", "_law_number", "_law_names_here"] ["_law_kind", "_law_number", "_law_names_here"] [] → X.env.scope = defScope s_l_value → Room k X.A → ∀ (vs : List V) (H : Hp) (Q : VK) (E : XK), sp vs H Q E → WSs X (defBody s_l_value) { nx := fun _ H' => Q .non H', rt := Q } (start ["_law_kind", "_law_number", "_law_names_here"] vs) H) :
    CallOk P w K mg base (k + 1) "_law_value" ["_law_kind", "_law_number", "_law_names_here"] sp := by
      have hb := @Def.ok P w K mg base "_law_value" s_l_value ["_law_kind", "_law_number", "_law_names_here"] ["_law_kind", "_law_number", "_law_names_here"] ["_law_kind", "_law_number", "_law_names_here"] [] k sp F ⟨rfl, rfl, rfl, by decide +kernel, rfl, by decide +kernel, by decide +kernel⟩ (by decide +kernel) len
      refine hb ?_
      with_reducible exact hbody
abbrev ps_l_let : List Str := ["_law_number", "_law_names_here"]
abbrev G_l_let : List Str := ["_law_value"]
theorem go_l_let {k : Nat} {sp : Sp} (F : Def K mg "_law_let" s_l_let ["_law_number", "_law_names_here"]) (len : ∀ vs H Q E, sp vs H Q E → vs.length = 2)
    (hbody : ∀ X : Cx, X.prog = P → X.w = w → X.K = K → X.mg = mg → X.base = base → Fr X ["_law_number", "_law_names_here", "_law_one", "_law_other"] ["_law_number", "_law_names_here", "_law_one", "_law_other"] ["_law_number", "_law_names_here", "_law_one", "_law_other"] ["_law_value"] → X.env.scope = defScope s_l_let → Room k X.A → ∀ (vs : List V) (H : Hp) (Q : VK) (E : XK), sp vs H Q E → WSs X (defBody s_l_let) { nx := fun _ H' => Q .non H', rt := Q } (start ["_law_number", "_law_names_here", "_law_one", "_law_other"] vs) H) :
    CallOk P w K mg base (k + 1) "_law_let" ["_law_number", "_law_names_here"] sp := by
      have hb := @Def.ok P w K mg base "_law_let" s_l_let ["_law_number", "_law_names_here", "_law_one", "_law_other"] ["_law_number", "_law_names_here", "_law_one", "_law_other"] ["_law_number", "_law_names_here"] ["_law_value"] k sp F ⟨rfl, rfl, rfl, by decide +kernel, rfl, by decide +kernel, by decide +kernel⟩ (by decide +kernel) len
      refine hb ?_
      with_reducible exact hbody
abbrev ps_l_closed : List Str := ["_law_stack", "_law_tests"]
abbrev G_l_closed : List Str := []
theorem go_l_closed {k : Nat} {sp : Sp} (F : Def K mg "_law_closed" s_l_closed ["_law_stack", "_law_tests"]) (len : ∀ vs H Q E, sp vs H Q E → vs.length = 2)
    (hbody : ∀ X : Cx, X.prog = P → X.w = w → X.K = K → X.mg = mg → X.base = base → Fr X ["_law_stack", "_law_tests", "_law_test"] ["_law_stack", "_law_tests", "_law_test"] ["_law_stack", "_law_tests", "_law_test"] [] → X.env.scope = defScope s_l_closed → Room k X.A → ∀ (vs : List V) (H : Hp) (Q : VK) (E : XK), sp vs H Q E → WSs X (defBody s_l_closed) { nx := fun _ H' => Q .non H', rt := Q } (start ["_law_stack", "_law_tests", "_law_test"] vs) H) :
    CallOk P w K mg base (k + 1) "_law_closed" ["_law_stack", "_law_tests"] sp := by
      have hb := @Def.ok P w K mg base "_law_closed" s_l_closed ["_law_stack", "_law_tests", "_law_test"] ["_law_stack", "_law_tests", "_law_test"] ["_law_stack", "_law_tests"] [] k sp F ⟨rfl, rfl, rfl, by decide +kernel, rfl, by decide +kernel, by decide +kernel⟩ (by decide +kernel) len
      refine hb ?_
      with_reducible exact hbody
abbrev ps_l_opened : List Str := ["_law_number", "_law_names_here", "_law_stack", "_law_tests"]
abbrev G_l_opened : List Str := ["len", "max", "int"]
theorem go_l_opened {k : Nat} {sp : Sp} (F : Def K mg "_law_opened" s_l_opened ["_law_number", "_law_names_here", "_law_stack", "_law_tests"]) (len : ∀ vs H Q E, sp vs H Q E → vs.length = 4)
    (hbody : ∀ X : Cx, X.prog = P → X.w = w → X.K = K → X.mg = mg → X.base = base → Fr X ["_law_number", "_law_names_here", "_law_stack", "_law_tests", "_law_kind", "_law_test"] ["_law_number", "_law_names_here", "_law_stack", "_law_tests", "_law_kind", "_law_test"] ["_law_number", "_law_names_here", "_law_stack", "_law_tests", "_law_kind", "_law_test"] ["len", "max", "int"] → X.env.scope = defScope s_l_opened → Room k X.A → ∀ (vs : List V) (H : Hp) (Q : VK) (E : XK), sp vs H Q E → WSs X (defBody s_l_opened) { nx := fun _ H' => Q .non H', rt := Q } (start ["_law_number", "_law_names_here", "_law_stack", "_law_tests", "_law_kind", "_law_test"] vs) H) :
    CallOk P w K mg base (k + 1) "_law_opened" ["_law_number", "_law_names_here", "_law_stack", "_law_tests"] sp := by
      have hb := @Def.ok P w K mg base "_law_opened" s_l_opened ["_law_number", "_law_names_here", "_law_stack", "_law_tests", "_law_kind", "_law_test"] ["_law_number", "_law_names_here", "_law_stack", "_law_tests", "_law_kind", "_law_test"] ["_law_number", "_law_names_here", "_law_stack", "_law_tests"] ["len", "max", "int"] k sp F ⟨rfl, rfl, rfl, by decide +kernel, rfl, by decide +kernel, by decide +kernel⟩ (by decide +kernel) len
      refine hb ?_
      with_reducible exact hbody
abbrev ps_l_program : List Str := ["_law_cells", "_law_names_here"]
abbrev G_l_program : List Str := ["range", "len", "_law_mixed", "_law_opened", "_law_closed", "_law_value", "_law_let"]
theorem go_l_program {k : Nat} {sp : Sp} (F : Def K mg "_law_program" s_l_program ["_law_cells", "_law_names_here"]) (len : ∀ vs H Q E, sp vs H Q E → vs.length = 2)
    (hbody : ∀ X : Cx, X.prog = P → X.w = w → X.K = K → X.mg = mg → X.base = base → Fr X ["_law_cells", "_law_names_here", "_law_stack", "_law_tests", "_law_k", "_law_number", "_law_way"] ["_law_cells", "_law_names_here", "_law_stack", "_law_tests", "_law_k", "_law_number", "_law_way"] ["_law_cells", "_law_names_here", "_law_stack", "_law_tests", "_law_k", "_law_number", "_law_way"] ["range", "len", "_law_mixed", "_law_opened", "_law_closed", "_law_value", "_law_let"] → X.env.scope = defScope s_l_program → Room k X.A → ∀ (vs : List V) (H : Hp) (Q : VK) (E : XK), sp vs H Q E → WSs X (defBody s_l_program) { nx := fun _ H' => Q .non H', rt := Q } (start ["_law_cells", "_law_names_here", "_law_stack", "_law_tests", "_law_k", "_law_number", "_law_way"] vs) H) :
    CallOk P w K mg base (k + 1) "_law_program" ["_law_cells", "_law_names_here"] sp := by
      have hb := @Def.ok P w K mg base "_law_program" s_l_program ["_law_cells", "_law_names_here", "_law_stack", "_law_tests", "_law_k", "_law_number", "_law_way"] ["_law_cells", "_law_names_here", "_law_stack", "_law_tests", "_law_k", "_law_number", "_law_way"] ["_law_cells", "_law_names_here"] ["range", "len", "_law_mixed", "_law_opened", "_law_closed", "_law_value", "_law_let"] k sp F ⟨rfl, rfl, rfl, by decide +kernel, rfl, by decide +kernel, by decide +kernel⟩ (by decide +kernel) len
      refine hb ?_
      with_reducible exact hbody
abbrev ps_l_whole : List Str := ["_law_found_here"]
abbrev G_l_whole : List Str := ["isinstance", "int", "bool"]
theorem go_l_whole {k : Nat} {sp : Sp} (F : Def K mg "_law_whole" s_l_whole ["_law_found_here"]) (len : ∀ vs H Q E, sp vs H Q E → vs.length = 1)
    (hbody : ∀ X : Cx, X.prog = P → X.w = w → X.K = K → X.mg = mg → X.base = base → Fr X ["_law_found_here"] ["_law_found_here"] ["_law_found_here"] ["isinstance", "int", "bool"] → X.env.scope = defScope s_l_whole → Room k X.A → ∀ (vs : List V) (H : Hp) (Q : VK) (E : XK), sp vs H Q E → WSs X (defBody s_l_whole) { nx := fun _ H' => Q .non H', rt := Q } (start ["_law_found_here"] vs) H) :
    CallOk P w K mg base (k + 1) "_law_whole" ["_law_found_here"] sp := by
      have hb := @Def.ok P w K mg base "_law_whole" s_l_whole ["_law_found_here"] ["_law_found_here"] ["_law_found_here"] ["isinstance", "int", "bool"] k sp F ⟨rfl, rfl, rfl, by decide +kernel, rfl, by decide +kernel, by decide +kernel⟩ (by decide +kernel) len
      refine hb ?_
      with_reducible exact hbody
abbrev ps_l_lines : List Str := ["_law_rows"]
abbrev G_l_lines : List Str := ["len", "str", "_law_lines"]
theorem go_l_lines {k : Nat} {sp : Sp} (F : Def K mg "_law_lines" s_l_lines ["_law_rows"]) (len : ∀ vs H Q E, sp vs H Q E → vs.length = 1)
    (hbody : ∀ X : Cx, X.prog = P → X.w = w → X.K = K → X.mg = mg → X.base = base → Fr X ["_law_rows", "_law_lines_here", "_law_row"] ["_law_rows", "_law_lines_here", "_law_row"] ["_law_rows", "_law_lines_here", "_law_row"] ["len", "str", "_law_lines"] → X.env.scope = defScope s_l_lines → Room k X.A → ∀ (vs : List V) (H : Hp) (Q : VK) (E : XK), sp vs H Q E → WSs X (defBody s_l_lines) { nx := fun _ H' => Q .non H', rt := Q } (start ["_law_rows", "_law_lines_here", "_law_row"] vs) H) :
    CallOk P w K mg base (k + 1) "_law_lines" ["_law_rows"] sp := by
      have hb := @Def.ok P w K mg base "_law_lines" s_l_lines ["_law_rows", "_law_lines_here", "_law_row"] ["_law_rows", "_law_lines_here", "_law_row"] ["_law_rows"] ["len", "str", "_law_lines"] k sp F ⟨rfl, rfl, rfl, by decide +kernel, rfl, by decide +kernel, by decide +kernel⟩ (by decide +kernel) len
      refine hb ?_
      with_reducible exact hbody
abbrev ps_l_odd_line : List Str := ["_law_number"]
abbrev G_l_odd_line : List Str := []
theorem go_l_odd_line {k : Nat} {sp : Sp} (F : Def K mg "_law_odd_line" s_l_odd_line ["_law_number"]) (len : ∀ vs H Q E, sp vs H Q E → vs.length = 1)
    (hbody : ∀ X : Cx, X.prog = P → X.w = w → X.K = K → X.mg = mg → X.base = base → Fr X ["_law_number", "_law_some"] ["_law_number", "_law_some"] ["_law_number", "_law_some"] [] → X.env.scope = defScope s_l_odd_line → Room k X.A → ∀ (vs : List V) (H : Hp) (Q : VK) (E : XK), sp vs H Q E → WSs X (defBody s_l_odd_line) { nx := fun _ H' => Q .non H', rt := Q } (start ["_law_number", "_law_some"] vs) H) :
    CallOk P w K mg base (k + 1) "_law_odd_line" ["_law_number"] sp := by
      have hb := @Def.ok P w K mg base "_law_odd_line" s_l_odd_line ["_law_number", "_law_some"] ["_law_number", "_law_some"] ["_law_number"] [] k sp F ⟨rfl, rfl, rfl, by decide +kernel, rfl, by decide +kernel, by decide +kernel⟩ (by decide +kernel) len
      refine hb ?_
      with_reducible exact hbody
abbrev ps_l_due : List Str := ["_law_lines_here"]
abbrev G_l_due : List Str := ["range", "len"]
theorem go_l_due {k : Nat} {sp : Sp} (F : Def K mg "_law_due" s_l_due ["_law_lines_here"]) (len : ∀ vs H Q E, sp vs H Q E → vs.length = 1)
    (hbody : ∀ X : Cx, X.prog = P → X.w = w → X.K = K → X.mg = mg → X.base = base → Fr X ["_law_lines_here", "_law_deep", "_law_k", "_law_word"] ["_law_lines_here", "_law_deep", "_law_k", "_law_word"] ["_law_lines_here", "_law_deep", "_law_k", "_law_word"] ["range", "len"] → X.env.scope = defScope s_l_due → Room k X.A → ∀ (vs : List V) (H : Hp) (Q : VK) (E : XK), sp vs H Q E → WSs X (defBody s_l_due) { nx := fun _ H' => Q .non H', rt := Q } (start ["_law_lines_here", "_law_deep", "_law_k", "_law_word"] vs) H) :
    CallOk P w K mg base (k + 1) "_law_due" ["_law_lines_here"] sp := by
      have hb := @Def.ok P w K mg base "_law_due" s_l_due ["_law_lines_here", "_law_deep", "_law_k", "_law_word"] ["_law_lines_here", "_law_deep", "_law_k", "_law_word"] ["_law_lines_here"] ["range", "len"] k sp F ⟨rfl, rfl, rfl, by decide +kernel, rfl, by decide +kernel, by decide +kernel⟩ (by decide +kernel) len
      refine hb ?_
      with_reducible exact hbody
theorem got_l_found {k : Nat} {sp : Sp} (F : Def K mg "_law_found" s_l_found ["_law_lines_here"]) (len : ∀ vs H Q E, sp vs H Q E → vs.length = 1)
    (hbody : ∀ X : Cx, X.prog = P → X.w = w → X.K = K → X.mg = mg → X.base = base → Fr X ["_law_lines_here", "e"] ["_law_lines_here", "e"] ["_law_lines_here", "e"] ["read", "BadLine", "TooDeep"] → Tr X → X.env.scope = defScope s_l_found → Room k X.A → ∀ (vs : List V) (H : Hp) (Q : VK) (E : XK), sp vs H Q E → WSs X (defBody s_l_found) { nx := fun _ H' => Q .non H', rt := Q } (start ["_law_lines_here", "e"] vs) H) :
    CallOk P w K mg base (k + 1) "_law_found" ["_law_lines_here"] sp := by
      have hb := @Def.okT P w K mg base "_law_found" s_l_found ["_law_lines_here", "e"] ["_law_lines_here", "e"] ["_law_lines_here"] ["read", "BadLine", "TooDeep"] k sp F ⟨rfl, rfl, rfl, by decide +kernel, rfl, by decide +kernel, by decide +kernel⟩ (by decide +kernel) len
      refine hb ?_
      with_reducible exact hbody
theorem got_l_refused_by_any {k : Nat} {sp : Sp} (F : Def K mg "_law_refused_by_any" s_l_refused_by_any ["_law_lines_here"]) (len : ∀ vs H Q E, sp vs H Q E → vs.length = 1)
    (hbody : ∀ X : Cx, X.prog = P → X.w = w → X.K = K → X.mg = mg → X.base = base → Fr X ["_law_lines_here", "e", "_law_others", "_law_both"] ["_law_lines_here", "e", "_law_others", "_law_both"] ["_law_lines_here", "e", "_law_others", "_law_both"] ["read", "LoopError", "isinstance", "BadRow", "BadName", "BadNumber", "BadLine", "TooDeep", "ValueError"] → Tr X → X.env.scope = defScope s_l_refused_by_any → Room k X.A → ∀ (vs : List V) (H : Hp) (Q : VK) (E : XK), sp vs H Q E → WSs X (defBody s_l_refused_by_any) { nx := fun _ H' => Q .non H', rt := Q } (start ["_law_lines_here", "e", "_law_others", "_law_both"] vs) H) :
    CallOk P w K mg base (k + 1) "_law_refused_by_any" ["_law_lines_here"] sp := by
      have hb := @Def.okT P w K mg base "_law_refused_by_any" s_l_refused_by_any ["_law_lines_here", "e", "_law_others", "_law_both"] ["_law_lines_here", "e", "_law_others", "_law_both"] ["_law_lines_here"] ["read", "LoopError", "isinstance", "BadRow", "BadName", "BadNumber", "BadLine", "TooDeep", "ValueError"] k sp F ⟨rfl, rfl, rfl, by decide +kernel, rfl, by decide +kernel, by decide +kernel⟩ (by decide +kernel) len
      refine hb ?_
      with_reducible exact hbody
abbrev ps_law : List Str := ["_law_script"]
abbrev G_law : List Str := ["_law_names", "_law_cell_at", "_law_lines", "_law_program", "len", "range", "_law_due", "_law_odd_line", "_law_found", "list", "_law_whole", "_law_refused_by_any"]
theorem go_law {k : Nat} {sp : Sp} {f : Addr} {fd : FuncData} (F : Fun K "law" "law" s_law f fd) (len : ∀ vs H Q E, sp vs H Q E → vs.length = 1)
    (hbody : ∀ X : Cx, X.prog = P → X.w = w → X.K = K → X.mg = mg → X.base = base → Fr X ["_law_script", "_law_names_here", "_law_lines_here", "_law_at", "_law_more", "_law_way", "_law_count", "_law_begin", "_law_k", "_law_head", "_law_word", "_law_due_here", "_law_found_here"] ["_law_script", "_law_names_here", "_law_lines_here", "_law_at", "_law_more", "_law_way", "_law_count", "_law_begin", "_law_k", "_law_head", "_law_word", "_law_due_here", "_law_found_here"] ["_law_script", "_law_names_here", "_law_lines_here", "_law_at", "_law_more", "_law_way", "_law_count", "_law_begin", "_law_k", "_law_head", "_law_word", "_law_due_here", "_law_found_here"] ["_law_names", "_law_cell_at", "_law_lines", "_law_program", "len", "range", "_law_due", "_law_odd_line", "_law_found", "list", "_law_whole", "_law_refused_by_any"] → X.env.scope = defScope s_law → Room k X.A → ∀ (vs : List V) (H : Hp) (Q : VK) (E : XK), sp vs H Q E → WSs X (defBody s_law) { nx := fun _ H' => Q .non H', rt := Q } (start ["_law_script", "_law_names_here", "_law_lines_here", "_law_at", "_law_more", "_law_way", "_law_count", "_law_begin", "_law_k", "_law_head", "_law_word", "_law_due_here", "_law_found_here"] vs) H) :
    FnOk P w K mg base CX0 (k + 1) f fd ["_law_script"] sp := LM.Fun.okW F ⟨rfl, rfl, rfl, by decide +kernel, rfl, by decide +kernel, by decide +kernel⟩ (by decide +kernel) len hbody
end
/-! ### texts by their codes; what is a name; _law_names -/
def tx (l : List Nat) : Str := ⟨l.toArray⟩
theorem tx_append (l m : List Nat) : tx l ++ tx m = tx (l ++ m) := by
  show (⟨l.toArray ++ m.toArray⟩ : Str) = ⟨(l ++ m).toArray⟩
  rw [List.append_toArray]
theorem tx_length (l : List Nat) : (tx l).length = l.length := List.size_toArray
theorem tx_inj {l m : List Nat} (h : tx l = tx m) : l = m := by
  have e : l.toArray = m.toArray := congrArg Str.cps h
  have := congrArg Array.toList e
  simpa using this
theorem tx_of (s : Str) : s = tx s.cps.toList := by
  show s = (⟨s.cps.toList.toArray⟩ : Str)
  rw [Array.toArray_toList]
theorem cut_to (l : List Nat) (n : Nat) : cutS (tx l) none (some (n : Int)) = tx (l.take n) := by
  unfold cutS
  have e : (tx l).cps.toList = l := by simp [tx]
  rw [e, tx_length, HT.sIx_none, HT.sIx_nat]
  show tx ((l.drop 0).take (min n l.length - 0)) = tx (l.take n)
  rw [List.drop_zero, Nat.sub_zero]
  congr 1
  by_cases h : n ≤ l.length
  · rw [Nat.min_eq_left h]
  · rw [Nat.min_eq_right (by omega), List.take_of_length_le (by omega), List.take_of_length_le (by omega)]
theorem cut_from_to (l : List Nat) (a b : Nat) (ha : a ≤ l.length) (hb : b ≤ l.length) : cutS (tx l) (some (a : Int)) (some (b : Int)) = tx ((l.drop a).take (b - a)) := by
  unfold cutS
  have e : (tx l).cps.toList = l := by simp [tx]
  rw [e, tx_length, HT.sIx_nat, HT.sIx_nat, Nat.min_eq_left ha, Nat.min_eq_left hb]
  rfl
/-- the words of the rows -/
def reserved : List (List Nat) := [[115, 97, 121], [119, 104, 101, 110], [108, 111, 111, 112], [97, 103, 97, 105, 110], [101, 110, 100]]
def nameL (l : List Nat) : Bool := Nat.ble 1 l.length && Nat.ble l.length 6 && l.all (fun c => Nat.ble 97 c && Nat.ble c 122) && !(reserved.any fun r => r == l)
def isName (s : Str) : Bool := nameL s.cps.toList
theorem isName_tx (l : List Nat) : isName (tx l) = nameL l := by
  unfold isName
  simp [tx]
def letter (i : Int) : Nat := 97 + (i % 26).toNat
theorem atI_letter (i : Int) : ∃ c, atI ("abcdefghijklmnopqrstuvwxyz" : Str).cps.toList (i % 26) = some c ∧ (⟨#[c]⟩ : Str) = tx [letter i] := by
  have e : ("abcdefghijklmnopqrstuvwxyz" : Str).cps.toList = (List.range 26).map (97 + ·) := by decide +kernel
  rw [e]
  have h0 : 0 ≤ i % 26 := Int.emod_nonneg _ (by decide)
  have h1 : i % 26 < 26 := Int.emod_lt_of_pos _ (by decide)
  obtain ⟨k, hk⟩ : ∃ k : Nat, i % 26 = k := ⟨(i % 26).toNat, by omega⟩
  have hk2 : k < 26 := by omega
  refine ⟨97 + k, ?_, ?_⟩
  · rw [hk]
    refine atI_nat ?_
    rw [List.getElem?_map, List.getElem?_range hk2]
    rfl
  · unfold letter
    rw [hk]
    rfl
theorem letter_lt (i : Int) : ∃ d : Nat, d < 26 ∧ letter i = 97 + d := ⟨(i % 26).toNat, by omega, rfl⟩
theorem join_empty : ∀ ls : List (List Nat), Txt.join ("" : Str) (ls.map tx) = tx ls.flatten := by
  have z : ("" : Str) = tx [] := by decide +kernel
  intro ls
  rw [show ∀ (y : Str) ps, Txt.join y ps = Str.join y ps from fun y ps => PySem.StrLaws.glued_eq_join y ps, z]
  induction ls with
  | nil => rfl
  | cons l r ih =>
    cases r with
    | nil =>
      show tx l = tx (l ++ [])
      rw [List.append_nil]
    | cons m r =>
      show tx l ++ tx [] ++ Str.join (tx []) (List.map tx (m :: r)) = tx (l ++ (m :: r).flatten)
      rw [ih, tx_append, tx_append, List.append_nil]
/-- the tail of letters that begins by d -/
def tailL (d : Nat) : List Nat := (List.range 6).map fun j => 97 + (d + 5 * j + 1) % 26
theorem nameL_of {l : List Nat} (h1 : 1 ≤ l.length) (h2 : l.length ≤ 6) (h3 : ∀ c ∈ l, 97 ≤ c ∧ c ≤ 122) (h4 : ∀ r ∈ reserved, r ≠ l) : nameL l = true := by
  unfold nameL
  rw [Bool.and_eq_true, Bool.and_eq_true, Bool.and_eq_true]
  refine ⟨⟨⟨Nat.ble_eq_true_of_le h1, Nat.ble_eq_true_of_le h2⟩, List.all_eq_true.mpr fun c hc => ?_⟩, ?_⟩
  · rw [Nat.ble_eq_true_of_le (h3 c hc).1, Nat.ble_eq_true_of_le (h3 c hc).2]
    rfl
  · have : reserved.any (fun r => r == l) = false := by
      rw [List.any_eq_false]
      intro r hr
      rw [beq_iff_eq]
      exact h4 r hr
    rw [this]
    rfl
theorem tail_rng (d : Nat) : ∀ c ∈ tailL d, 97 ≤ c ∧ c ≤ 122 := fun c hc => by
  obtain ⟨j, _, rfl⟩ := List.mem_map.mp hc
  constructor <;> omega
theorem tail_len (d : Nat) : (tailL d).length = 6 := rfl
/-- words of the three kinds are none of the rows' words -/
def okA : Bool := (List.range 26).all fun d => reserved.all fun r => (List.range r.length).all fun pl => !(((tailL d).take r.length).eraseIdx pl == r.eraseIdx pl)
def okB : Bool := (List.range 26).all fun d => reserved.all fun r => (List.range 6).all fun m => !((tailL d).take m == r.drop 1)
def okC : Bool := (List.range 26).all fun b => reserved.all fun r => (List.range 6).all fun m => !(((List.range m).map fun j => 97 + (b + 3 * j) % 26) == r.drop 1)
theorem okA_all : okA = true := by decide +kernel
theorem okB_all : okB = true := by decide +kernel
theorem okC_all : okC = true := by decide +kernel
theorem okA_at {d a sz pl : Nat} (h1 : d < 26) (h2 : a < 26) (h3 : sz < 7) (h4 : pl < sz) : nameL ((tailL d).take pl ++ [97 + a] ++ ((tailL d).drop (pl + 1)).take (sz - (pl + 1))) = true := by
  have hl := tail_len d
  have l1 : ((tailL d).take pl).length = pl := by rw [List.length_take]; omega
  have l2 : (((tailL d).drop (pl + 1)).take (sz - (pl + 1))).length = sz - (pl + 1) := by rw [List.length_take, List.length_drop]; omega
  have hlen : ((tailL d).take pl ++ [97 + a] ++ ((tailL d).drop (pl + 1)).take (sz - (pl + 1))).length = sz := by
    rw [List.length_append, List.length_append, l1, l2, List.length_singleton]; omega
  refine nameL_of (by omega) (by omega) (fun c hc => ?_) fun r hr e => ?_
  · rcases List.mem_append.mp hc with hc | hc
    · rcases List.mem_append.mp hc with hc | hc
      · exact tail_rng d c (List.mem_of_mem_take hc)
      · rw [List.mem_singleton] at hc
        omega
    · exact tail_rng d c (List.mem_of_mem_drop (List.mem_of_mem_take hc))
  · have hrl : r.length = sz := by rw [e, hlen]
    have h := okA_all
    unfold okA at h
    have h := List.all_eq_true.mp (List.all_eq_true.mp (List.all_eq_true.mp h d (List.mem_range.mpr h1)) r hr) pl (List.mem_range.mpr (by omega))
    have e1 : ((tailL d).take sz).eraseIdx pl = ((tailL d).take pl ++ [97 + a] ++ ((tailL d).drop (pl + 1)).take (sz - (pl + 1))).eraseIdx pl := by
      rw [List.eraseIdx_eq_take_drop_succ, List.eraseIdx_eq_take_drop_succ, List.take_take, Nat.min_eq_left (by omega), List.append_assoc, List.take_append_of_le_length (Nat.le_of_eq l1.symm), List.take_of_length_le (Nat.le_of_eq l1), List.drop_append, l1, List.drop_of_length_le (by omega : ((tailL d).take pl).length ≤ pl + 1),
        show pl + 1 - pl = 1 by omega, List.nil_append, List.drop_take]
      rfl
    rw [← e, ← hrl] at e1
    rw [e1] at h
    simp at h
theorem okB_at {d a m : Nat} (h1 : d < 26) (h2 : a < 26) (h3 : m < 6) : nameL ([97 + a] ++ (tailL d).take m) = true := by
  have hl := tail_len d
  refine nameL_of (by simp) (by rw [List.length_append, List.length_take, List.length_singleton]; omega) (fun c hc => ?_) fun r hr e => ?_
  · rcases List.mem_append.mp hc with hc | hc
    · rw [List.mem_singleton] at hc
      omega
    · exact tail_rng d c (List.mem_of_mem_take hc)
  · have h := okB_all
    unfold okB at h
    have h := List.all_eq_true.mp (List.all_eq_true.mp (List.all_eq_true.mp h d (List.mem_range.mpr h1)) r hr) m (List.mem_range.mpr h3)
    rw [e] at h
    simp at h
theorem okC_at {b a m : Nat} (h1 : b < 26) (h2 : a < 26) (h3 : m < 6) : nameL ((97 + a) :: (List.range m).map fun j => 97 + (b + 3 * j) % 26) = true := by
  refine nameL_of (by simp) (by rw [List.length_cons, List.length_map, List.length_range]; omega) (fun c hc => ?_) fun r hr e => ?_
  · rcases List.mem_cons.mp hc with hc | hc
    · omega
    · obtain ⟨j, _, rfl⟩ := List.mem_map.mp hc
      constructor <;> omega
  · have h := okC_all
    unfold okC at h
    have h := List.all_eq_true.mp (List.all_eq_true.mp (List.all_eq_true.mp h b (List.mem_range.mpr h1)) r hr) m (List.mem_range.mpr h3)
    rw [e] at h
    simp at h
theorem letter_add (i : Int) (j : Nat) : letter (i + j) = 97 + ((i % 26).toNat + j) % 26 := by
  unfold letter
  omega
/-! ### _law_cell_at, _law_mixed, _law_value, _law_let -/
section
variable {P : Program} {w : World} {K : PySem.W.Frag} {mg : Str → Option Value} {base : Heap}
theorem atI_map {ns : List Int} {k : Nat} (h : k < ns.length) : atI (ns.map V.int) (k : Int) = some (.int (ns.getD k 0)) := by
  refine atI_nat ?_
  rw [List.getElem?_map, List.getElem?_eq_getElem h]
  simp [List.getD, h]
theorem atI_strs {ns : List Str} {i : Int} (h0 : 0 ≤ i) (h : i < ns.length) : ∃ s, s ∈ ns ∧ atI (ns.map V.str) i = some (.str s) := by
  obtain ⟨k, rfl⟩ : ∃ k : Nat, i = k := ⟨i.toNat, by omega⟩
  have hk : k < ns.length := by omega
  refine ⟨ns[k], List.getElem_mem hk, atI_nat ?_⟩
  rw [List.getElem?_map, List.getElem?_eq_getElem hk]
  rfl
def spCellAt (K : PySem.W.Frag) : Sp := fun vs H Q _ => ∃ (a : Addr) (ns : List Int) (k : Nat), vs = [.ref a, .int k] ∧ SqL K H a (ns.map V.int) ∧ Q (.int (ns.getD k 0)) H
theorem ok_cell_at (T : Txt K mg) : CallOk P w K mg base 1 "_law_cell_at" ["_law_script", "_law_k"] (spCellAt K) := by
  refine go_l_cell_at T.d_l_cell_at (fun vs H Q E h => ?_) ?_
  · obtain ⟨a, ns, k, rfl, _⟩ := h
    rfl
  intro X e1 e2 e3 e4 e5 C sc hr vs H Q E h
  subst e1 e2 e3 e4 e5
  obtain ⟨a, ns, k, rfl, hS, q⟩ := h
  show WSs X _ _ [some (.ref a), some (.int k)] H
  refine s_cons ?_
  have b1 := T.b_len
  wtm_at "lm"
  refine ite_dec (fun c => ?_) (fun c => ?_)
  · wtm_at "lm"
    rw [List.length_map] at c
    exact i_lst hS (atI_map (by omega)) q
  · wtm_at "lm"
    rw [List.length_map] at c
    rw [List.getD_eq_getElem?_getD, List.getElem?_eq_none (by omega)] at q
    exact q
def mixed (c k : Int) : Int := ((c + 7 * k + 3) * 48271 % 2147483647) * ((c + 7 * k + 3) * 48271 % 2147483647) % 2147483647
theorem mixed_lo (c k : Int) : 0 ≤ mixed c k := Int.emod_nonneg _ (by decide)
theorem mixed_hi (c k : Int) : mixed c k < 2147483647 := Int.emod_lt_of_pos _ (by decide)
def spMixed : Sp := fun vs H Q _ => ∃ c k : Int, vs = [.int c, .int k] ∧ Q (.int (mixed c k)) H
theorem ok_mixed (T : Txt K mg) : CallOk P w K mg base 1 "_law_mixed" ["_law_cell", "_law_k"] spMixed := by
  refine go_l_mixed T.d_l_mixed (fun vs H Q E h => ?_) ?_
  · obtain ⟨c, k, rfl, _⟩ := h
    rfl
  intro X e1 e2 e3 e4 e5 C sc hr vs H Q E h
  subst e1 e2 e3 e4 e5
  obtain ⟨c, k, rfl, q⟩ := h
  show WSs X _ _ [some (.int c), some (.int k), none] H
  refine s_cons ?_
  wtm_at "lm"
  have h1 : 0 ≤ (c + 7 * k + 3) * 48271 % 2147483647 := Int.emod_nonneg _ (by decide)
  have h2 : (c + 7 * k + 3) * 48271 % 2147483647 < 2147483647 := Int.emod_lt_of_pos _ (by decide)
  refine b_mul (.inl ⟨by omega, by omega⟩) ?_
  wtm_at "lm"
  exact q
def spValue (K : PySem.W.Frag) : Sp := fun vs H Q _ => ∃ (kd n : Int) (a : Addr) (ns : List Str), vs = [.int kd, .int n, .ref a] ∧ 0 ≤ kd ∧ SqL K H a (ns.map V.str) ∧ ns.length = 16 ∧ kd < 16 ∧ ∀ k, KeyOk ns k → Q (kV k) H
theorem ok_value (T : Txt K mg) : CallOk P w K mg base 1 "_law_value" ["_law_kind", "_law_number", "_law_names_here"] (spValue K) := by
  refine go_l_value T.d_l_value (fun vs H Q E h => ?_) ?_
  · obtain ⟨kd, n, a, ns, rfl, _⟩ := h
    rfl
  intro X e1 e2 e3 e4 e5 C sc hr vs H Q E h
  subst e1 e2 e3 e4 e5
  obtain ⟨kd, n, a, ns, rfl, h0, hS, hl, hk, q⟩ := h
  show WSs X _ _ [some (.int kd), some (.int n), some (.ref a)] H
  refine s_cons ?_
  wtm_at "lm"
  refine ite_dec (fun c => ?_) (fun c => ?_)
  · wtm_at "lm"
    obtain ⟨s, hs, e⟩ := atI_strs (ns := ns) h0 (by omega)
    exact i_lst hS e (q (.inr s) hs)
  wtm_at "lm"
  refine ite_dec (fun c => ?_) (fun c => ?_)
  · wtm_at "lm"
    exact q (.inl (kd - 11)) ⟨by omega, by omega⟩
  wtm_at "lm"
  exact q (.inl (n % 1000000)) ⟨by omega, by omega⟩
theorem sg_of (i : Int) (h0 : 0 ≤ i) (h1 : i < 5) : ∃ sg : Sg, ∃ c, atI ("+-*</" : Str).cps.toList i = some c ∧ (⟨#[c]⟩ : Str) = sg.nm := by
  have : i = 0 ∨ i = 1 ∨ i = 2 ∨ i = 3 ∨ i = 4 := by omega
  rcases this with rfl | rfl | rfl | rfl | rfl
  · exact ⟨.add, 43, by decide +kernel, by decide +kernel⟩
  · exact ⟨.sub, 45, by decide +kernel, by decide +kernel⟩
  · exact ⟨.mul, 42, by decide +kernel, by decide +kernel⟩
  · exact ⟨.lss, 60, by decide +kernel, by decide +kernel⟩
  · exact ⟨.div, 47, by decide +kernel, by decide +kernel⟩
def spLet (K : PySem.W.Frag) : Sp := fun vs H Q _ => ∃ (n : Int) (a : Addr) (ns : List Str), vs = [.int n, .ref a] ∧ SqL K H a (ns.map V.str) ∧ ns.length = 16 ∧
  ∀ (t : Addr) (H' : Hp) (to : Str) (sg : Sg) (x y : Key), Same H H' → H' t = some (.tup [.str "let", .str to, .str sg.nm, kV x, kV y]) → to ∈ ns → KeyOk ns x → KeyOk ns y → Q (.ref t) H'
theorem ok_let (T : Txt K mg) : CallOk P w K mg base 2 "_law_let" ["_law_number", "_law_names_here"] (spLet K) := by
  have GV : CallOk P w K mg base 1 "_law_value" ["_law_kind", "_law_number", "_law_names_here"] (spValue K) := ok_value T
  refine go_l_let T.d_l_let (fun vs H Q E h => ?_) ?_
  · obtain ⟨n, a, ns, rfl, _⟩ := h
    rfl
  intro X e1 e2 e3 e4 e5 C sc hr vs H Q E h
  subst e1 e2 e3 e4 e5
  obtain ⟨n, a, ns, rfl, hS, hl, q⟩ := h
  show WSs X _ _ [some (.int n), some (.ref a), none, none] H
  refine s_cons ?_
  wtm_at "lm"
  refine ⟨_, _, a, ns, rfl, by omega, hS, hl, by omega, fun x hx => ?_⟩
  wtm_at "lm"
  refine ⟨_, _, a, ns, rfl, by omega, hS, hl, by omega, fun y hy => ?_⟩
  wtm_at "lm"
  obtain ⟨to, ht, e⟩ := atI_strs (ns := ns) (i := n % 8) (by omega) (by omega)
  refine i_lst hS e ?_
  wtm_at "lm"
  obtain ⟨sg, c, e1, e2⟩ := sg_of (n / 8 % 5) (by omega) (by omega)
  refine i_str (by decide +kernel) e1 ?_
  wtm_at "lm"
  intro t H' hn s h
  rw [e2] at h
  exact q t H' to sg x y s h ht hx hy
end
section
variable {P : Program} {w : World} {K : PySem.W.Frag} {mg : Str → Option Value} {base : Heap}
def spNames : Sp := fun vs H Q _ => ∃ c : Int, vs = [.int c] ∧ ∀ (p : Addr) (H' : Hp) (ns : List Str), Same H H' → H p = none → H' p = some (.lst (ns.map V.str)) → ns.length = 16 → (∀ s ∈ ns, isName s = true) → Q (.ref p) H'
/-- a name by its letters -/
def Nm (s : Str) : Prop := ∃ l, s = tx l ∧ nameL l = true
theorem Nm.is {s : Str} (h : Nm s) : isName s = true := by
  obtain ⟨l, rfl, h⟩ := h
  rw [isName_tx]
  exact h
theorem other_words : ∀ s ∈ (["whens", "essay", "reloop", "let", "ends", "sayer", "loops", "send", "agains", "awhen"] : List Str), isName s = true := by decide +kernel
theorem ok_names (T : Txt K mg) : CallOk P w K mg base 1 "_law_names" ["_law_cell"] spNames := by
  refine go_l_names T.d_l_names (fun vs H Q E h => ?_) ?_
  · obtain ⟨c, rfl, _⟩ := h
    rfl
  intro X e1 e2 e3 e4 e5 C sc hr vs H Q E h
  subst e1 e2 e3 e4 e5
  obtain ⟨c, rfl, q⟩ := h
  show WSs X _ _ [some (.int c), none, none, none, none, none, none, none, none, none] H
  have b1 := T.b_range
  refine s_cons ?_
  wtm_at "lm"
  intro p H1 hp s1 h1
  wtm_at "lm"
  refine w_lc (i := 4) C (by decide +kernel) (by rw [sc]; exact blkOk_by (by decide +kernel)) rfl (by wtm_at "lm.wip") (wi_range C (by wtm_at "lm.mem") b1 ?_)
  wtm_at "lm"
  refine ⟨by decide, by decide, ?_⟩
  refine lc_vals (f := fun i v => v = .int (0 + i)) (walk_range (lo := 0) (n := 6)) (fun j => .str (tx [letter (c / 72 + 5 * j + 1)])) (by decide) (fun _ _ => trivial) (fun j y H2 hj hy s2 => ?_) fun l H2 hl s2 h2 => ?_
  · subst hy
    rw [Int.zero_add]
    refine ⟨_, by wtm_at "lm.put", fun Y hY => ?_⟩
    have CY := hY.fr (L' := ["_law_j"]) (Vs' := ["_law_cell", "_law_letters", "_law_j"]) (G' := []) C (by decide +kernel)
    wtm_at "lm"
    obtain ⟨d, e1, e2⟩ := atI_letter (c / 72 + 5 * j + 1)
    exact i_str (by decide +kernel) e1 ⟨Same.refl _, by rw [e2]⟩
  have hm : (List.range 6).map (fun j : Nat => V.str (tx [letter (c / 72 + 5 * j + 1)])) = ((List.range 6).map fun j : Nat => tx [letter (c / 72 + 5 * j + 1)]).map V.str := by rw [List.map_map]; rfl
  rw [hm] at h2
  have ht : Txt.join ("" : Str) ((List.range 6).map fun j : Nat => tx [letter (c / 72 + 5 * j + 1)]) = tx (tailL (c / 72 % 26).toNat) := by
    have := join_empty ((List.range 6).map fun j : Nat => [letter (c / 72 + 5 * j + 1)])
    rw [List.map_map] at this
    refine this.trans ?_
    congr 1
    show [letter _, letter _, letter _, letter _, letter _, letter _] = [_, _, _, _, _, _]
    unfold letter
    simp only [List.cons.injEq, and_true]
    refine ⟨?_, ?_, ?_, ?_, ?_, ?_⟩ <;> (show 97 + _ = 97 + _; omega)
  refine ⟨l, _, rfl, SqL.of h2, by show 6 + 6 * 0 ≤ 16777216; decide, ?_⟩
  rw [ht]
  have hd : (c / 72 % 26).toNat < 26 := by omega
  generalize hdd : (c / 72 % 26).toNat = d at hd ⊢
  have p2 := s2 _ _ h1
  have tl := tail_len d
  obtain ⟨n, hsz, hn0, hn1⟩ : ∃ n : Nat, 1 + c / 3 % 6 = (n : Int) ∧ 0 < n ∧ n < 7 := ⟨(1 + c / 3 % 6).toNat, by omega, by omega, by omega⟩
  rw [hsz]
  wtm_at "lm"
  refine ⟨by decide, by decide, ?_⟩
  refine for_r (fun i σ H3 => ∃ (ns : List Str) (o4 o6 o7 o8 : Option V), σ = [some (.int c), some (.str "abcdefghijklmnopqrstuvwxyz"), some (.ref p), some (.int n), o4, some (.str (tx (tailL d))), o6, o7, o8, none] ∧
    ns.length = i ∧ (∀ s ∈ ns, isName s = true) ∧ Same H H3 ∧ H3 p = some (.lst (ns.map V.str))) ⟨[], _, _, _, _, rfl, rfl, fun _ h => (nomatch h), s1.trans s2, p2⟩ ?_ ?_
  · rintro k σ H3 hk ⟨ns, o4, o6, o7, o8, rfl, hl3, hn, s3, p3⟩
    refine ⟨_, by wtm_at "lm.put", ?_⟩
    refine s_cons ?_
    wtm_at "lms"
    obtain ⟨a, e1, e2⟩ := atI_letter (c / 72 + 5 * k)
    refine i_str (by decide +kernel) e1 ?_
    rw [e2]
    obtain ⟨a0, ha0, ea0⟩ := letter_lt (c / 72 + 5 * k)
    rw [ea0]
    wtm_at "lms"
    refine s_cut (fun σ' H' => ∃ (s : Str) (o4 o8 : Option V), σ' = [some (.int c), some (.str "abcdefghijklmnopqrstuvwxyz"), some (.ref p), some (.int n), o4, some (.str (tx (tailL d))), some (.int k), some (.str s), o8, none] ∧ isName s = true ∧ H' = H3) ?_ ?_
    · wtm_at "lm"
      refine ite_dec (fun c1 => ?_) (fun c1 => ?_)
      · wtm_at "lm"
        refine b_mod (by omega) ?_
        obtain ⟨pl, hpl, hpl1⟩ : ∃ pl : Nat, c / 18 % (n : Int) = (pl : Int) ∧ pl < n := by
          have h1 : 0 ≤ c / 18 % (n : Int) := Int.emod_nonneg _ (by omega)
          have h2 : c / 18 % (n : Int) < n := Int.emod_lt_of_pos _ (by omega)
          exact ⟨(c / 18 % (n : Int)).toNat, by omega, by omega⟩
        rw [hpl]
        wtm_at "lm"
        refine l_str (by rw [tx_length, tl]; decide) ?_
        rw [cut_to]
        wtm_at "lm"
        refine b_adds (by rw [tx_length, tx_length, List.length_take, tl]; exact sz (by simp; omega)) ?_
        rw [tx_append]
        wtm_at "lm"
        rw [show (pl : Int) + 1 = ((pl + 1 : Nat) : Int) from rfl]
        refine l_str (by rw [tx_length, tl]; decide) ?_
        rw [cut_from_to _ _ _ (by omega) (by omega)]
        refine b_adds (by rw [tx_length, tx_length, List.length_append, List.length_take, List.length_take, List.length_drop, tl]; exact sz (by simp; omega)) ?_
        rw [tx_append]
        wtm_at "lm"
        exact ⟨_, _, _, rfl, by rw [isName_tx]; exact okA_at hd ha0 hn1 hpl1, rfl⟩
      · wtm_at "lm"
        refine ite_dec (fun c2 => ?_) (fun c2 => ?_)
        · wtm_at "lm"
          obtain ⟨b, e3, e4⟩ := atI_letter (c / 72 + 7 * (k / 4))
          refine i_str (by decide +kernel) e3 ?_
          rw [e4]
          obtain ⟨b0, hb0, eb0⟩ := letter_lt (c / 72 + 7 * (k / 4))
          rw [eb0]
          wtm_at "lm"
          obtain ⟨m, hm1, hm2⟩ : ∃ m : Nat, (k : Int) % 4 + c / 18 % 3 = (m : Int) ∧ m < 6 := ⟨((k : Int) % 4 + c / 18 % 3).toNat, by omega, by omega⟩
          rw [hm1]
          refine l_str (by rw [tx_length, tl]; decide) ?_
          rw [cut_to]
          refine b_adds (by rw [tx_length, tx_length, List.length_take, tl]; exact sz (by simp; omega)) ?_
          rw [tx_append]
          wtm_at "lm"
          exact ⟨_, _, _, rfl, by rw [isName_tx]; exact okB_at hd hb0 hm2, rfl⟩
        · wtm_at "lm"
          obtain ⟨m, hm1, hm2⟩ : ∃ m : Nat, (c / 26 + (k : Int)) % 6 = (m : Int) ∧ m < 6 := ⟨((c / 26 + (k : Int)) % 6).toNat, by omega, by omega⟩
          rw [hm1]
          refine ⟨by omega, by omega, ?_⟩
          rw [Int.toNat_natCast]
          have hb1 : ((c / 7 + k) % 26).toNat < 26 := by omega
          refine for_r (fun i σ H' => ∃ o4 : Option V, i ≤ m ∧ σ = [some (.int c), some (.str "abcdefghijklmnopqrstuvwxyz"), some (.ref p), some (.int n), o4, some (.str (tx (tailL d))), some (.int k), some (.str (tx ((97 + a0) :: (List.range i).map fun j => 97 + (((c / 7 + k) % 26).toNat + 3 * j) % 26))), o8, none] ∧ H' = H3) ⟨_, Nat.zero_le _, rfl, rfl⟩ ?_ ?_
          · rintro j σ H' hj ⟨o4', hjm, rfl, rfl⟩
            refine ⟨_, by wtm_at "lm.put", ?_⟩
            wtm_at "lm"
            obtain ⟨b, e3, e4⟩ := atI_letter (c / 7 + 3 * j + k)
            refine i_str (by decide +kernel) e3 ?_
            rw [e4]
            refine b_adds (by rw [tx_length, tx_length]; exact sz (by simp; omega)) ?_
            rw [tx_append]
            wtm_at "lm"
            refine ⟨some (.int j), hj, ?_, rfl⟩
            have e5 : letter (c / 7 + 3 * j + k) = 97 + (((c / 7 + k) % 26).toNat + 3 * j) % 26 := by
              unfold letter
              omega
            rw [e5, List.range_succ, List.map_append]
            rfl
          · rintro σ H' ⟨o4', hjm, rfl, rfl⟩
            exact ⟨_, _, _, rfl, by rw [isName_tx]; exact okC_at hb1 ha0 hm2, rfl⟩
    · rintro σ' H' ⟨s, o4', o8', rfl, hs, rfl⟩
      wtm_at "lm"
      refine x_app p3 (by rw [List.length_map]; omega) ?_
      wtm_at "lm"
      refine ⟨ns ++ [s], _, _, _, _, rfl, by rw [List.length_append, hl3]; rfl, fun y hy => ?_, Same.mut s3 hp, by rw [upd_same, List.map_append]; rfl⟩
      rcases List.mem_append.mp hy with hy | hy
      · exact hn y hy
      · rw [List.mem_singleton] at hy
        exact hy ▸ hs
  · rintro σ H3 ⟨ns, o4, o6, o7, o8, rfl, hl3, hn, s3, p3⟩
    wtm_at "lm"
    refine ite_dec (fun c1 => ?_) (fun c1 => ?_)
    · wtm_at "lm"
      intro u H4 hu s4 h4
      wtm_at "lm"
      obtain ⟨s, hs, e⟩ := atI_strs (ns := ["whens", "essay", "reloop", "let", "ends", "sayer", "loops", "send", "agains", "awhen"]) (i := c / 40 % 10) (by omega) (by show _ < (10 : Int); omega)
      refine i_lst (SqL.of h4) e ?_
      wtm_at "lm"
      have p4 := s4 _ _ p3
      obtain ⟨k, hk, hk1⟩ : ∃ k : Nat, c / 5 % 8 = (k : Int) ∧ k < 8 := ⟨(c / 5 % 8).toNat, by omega, by omega⟩
      rw [hk]
      refine p_lst p4 (Evl.ixN_nat (j := k) (by rw [List.length_map, hl3]; omega)) ?_
      wtm_at "lm"
      refine q p _ (ns.set k s) (Same.mut (s3.trans s4) hp) hp (by rw [upd_same, List.map_set]) (by rw [List.length_set]; exact hl3) fun y hy => ?_
      rcases List.mem_or_eq_of_mem_set hy with hy | hy
      · exact hn y hy
      · exact hy ▸ other_words s hs
    · wtm_at "lm"
      exact q p H3 ns s3 hp p3 hl3 hn
end
/-! ### _law_closed, _law_opened, _law_program -/
section
variable {P : Program} {w : World} {K : PySem.W.Frag} {mg : Str → Option Value} {base : Heap}
theorem Zip.size {F H : Hp} {ns : List Str} {S T a : Addr} {bs : List Addr} {vs : List V} {ts : List Str} {n : Nat} (z : Zip F H ns S T a bs vs ts n) : vs.length ≤ n := by
  obtain ⟨rs, f, ls, g, h1, h2, h3, h4, h5, h6, h7⟩ := z.ex
  have := len_cnts rs
  rw [h1.len]
  omega
theorem Zip.ne {F H : Hp} {ns : List Str} {S T a : Addr} {bs : List Addr} {vs : List V} {ts : List Str} {n : Nat} (z : Zip F H ns S T a bs vs ts n) : S ≠ T ∧ S ≠ a ∧ T ≠ a := by
  obtain ⟨rs, f, ls, g, h1, h2, h3, h4, h5, h6, h7⟩ := z.ex
  rw [List.nodup_cons, List.nodup_cons] at h3
  exact ⟨fun q => h3.1 (q ▸ List.mem_cons_self), fun q => h3.1 (q ▸ List.mem_cons_of_mem _ List.mem_cons_self), fun q => h3.2.1 (q ▸ List.mem_cons_self)⟩
theorem atI_top (a : Addr) (bs : List Addr) : atI ((a :: bs).reverse.map V.ref) (-1) = some (.ref a) := by
  rw [List.reverse_cons, List.map_append]
  exact atI_last _ _
theorem drop_top (a : Addr) (bs : List Addr) : ((a :: bs).reverse.map V.ref).dropLast = bs.reverse.map V.ref := by
  rw [List.reverse_cons, List.map_append]
  exact List.dropLast_concat
theorem last_top (a : Addr) (bs : List Addr) : ((a :: bs).reverse.map V.ref)[((a :: bs).reverse.map V.ref).length - 1]? = some (.ref a) := by
  rw [List.reverse_cons, List.map_append, List.length_append, List.getElem?_append_right (by show _ ≤ _ + 1 - 1; omega)]
  show [V.ref a][_]? = _
  simp
def spClosed : Sp := fun vs H Q _ => ∃ (F : Hp) (ns : List Str) (S T a b : Addr) (bs : List Addr) (us : List V) (ts : List Str) (n : Nat), vs = [.ref S, .ref T] ∧ n ≤ 100000 ∧ Zip F H ns S T a (b :: bs) us ts n ∧
  ∀ (H3 : Hp) (us' : List V), Zip F H3 ns S T b bs us' ts.dropLast (n + 1) → Q .non H3
theorem ok_closed (T : Txt K mg) : CallOk P w K mg base 1 "_law_closed" ["_law_stack", "_law_tests"] spClosed := by
  refine go_l_closed T.d_l_closed (fun vs H Q E h => ?_) ?_
  · obtain ⟨F, ns, S, T, a, b, bs, us, ts, n, rfl, _⟩ := h
    rfl
  intro X e1 e2 e3 e4 e5 C sc hr vs H Q E h
  subst e1 e2 e3 e4 e5
  obtain ⟨F, ns, S, T, a, b, bs, us, ts, n, rfl, hn, z, q⟩ := h
  show WSs X _ _ [some (.ref S), some (.ref T), none] H
  obtain ⟨ST, Sa, Ta⟩ := z.ne
  have lt := z.lt
  rw [List.length_cons] at lt
  obtain ⟨s, hs⟩ : ∃ s, ts[ts.length - 1]? = some s := ⟨ts[ts.length - 1]'(by omega), List.getElem?_eq_getElem (by omega)⟩
  have hs' : (ts.map V.str)[(ts.map V.str).length - 1]? = some (.str s) := by rw [List.length_map, List.getElem?_map, hs]; rfl
  refine s_cons ?_
  wtm_at "lms"
  refine ⟨T, _, _, rfl, z.hT, hs', ?_⟩
  rw [← List.map_dropLast]
  wtm_at "lm"
  refine ite_ndec (fun c => ?_) (fun c => ?_)
  · have hsn : s ∈ ns := (z.nm s (List.mem_of_getElem? hs)).resolve_left c
    wtm_at "lm"
    refine i_lst (SqL.of (by rw [upd_ne ST]; exact z.hS)) (atI_top a _) ?_
    have ha2 : upd H T (.lst (ts.dropLast.map V.str)) a = some (.lst us) := by rw [upd_ne Ta.symm]; exact z.ha
    wtm_at "lm"
    intro t H2 ht s2 h2
    have ha3 := s2 _ _ ha2
    refine x_app ha3 (Nat.lt_of_le_of_lt z.size (by omega)) ?_
    wtm_at "lm"
    have hS3 : H2 S = some (.lst ((a :: b :: bs).reverse.map V.ref)) := s2 _ _ (by rw [upd_ne ST]; exact z.hS)
    have hS2 : upd H2 a (.lst (us ++ [.ref t])) S = some (.lst ((a :: b :: bs).reverse.map V.ref)) := by
      rw [upd_ne Sa]
      exact hS3
    refine ⟨S, _, _, rfl, hS2, last_top a (b :: bs), ?_⟩
    wtm_at "lm"
    rw [drop_top]
    have hrow : RowIn (upd (upd H2 a (.lst (us ++ [.ref t]))) S (.lst ((b :: bs).reverse.map V.ref))) (.ref t) (.lt s .sub (.inr s) (.inl 1)) [] :=
      .lt (by rw [upd_ne (ne_of h2 hS3 fun z => nomatch z), upd_ne (ne_of h2 ha3 fun z => nomatch z)]; exact h2)
    obtain ⟨us', z'⟩ := z.close (H3 := upd (upd H2 a (.lst (us ++ [.ref t]))) S (.lst ((b :: bs).reverse.map V.ref))) (ws := [.ref t]) (es := [.lt s .sub (.inr s) (.inl 1)])
      (fun l o h1 h2 h3 h4 => by rw [upd_ne h2, upd_ne h1]; exact s2 _ _ (by rw [upd_ne h3]; exact h4)) (by rw [upd_ne Sa.symm]; exact upd_same) (by have := AllIn.cons hrow .nil; exact this) (RowsOk_one (by rw [RowOk]; exact ⟨hsn, hsn, by constructor <;> decide⟩)) (by rfl) upd_same
      (by rw [upd_ne ST.symm, upd_ne Ta]; exact s2 _ _ upd_same)
    exact q _ us' z'
  · wtm_at "lm"
    refine ⟨S, _, _, rfl, by rw [upd_ne ST]; exact z.hS, last_top a (b :: bs), ?_⟩
    wtm_at "lm"
    rw [drop_top]
    obtain ⟨us', z'⟩ := z.close (H3 := upd (upd H T (.lst (ts.dropLast.map V.str))) S (.lst ((b :: bs).reverse.map V.ref))) (ws := []) (es := [])
      (fun l o h1 h2 h3 h4 => by rw [upd_ne h2, upd_ne h3]; exact h4) (by rw [List.append_nil, upd_ne Sa.symm, upd_ne Ta.symm]; exact z.ha) .nil (by rw [RowsOk]; trivial) (by rfl) upd_same
      (by rw [upd_ne ST.symm]; exact upd_same)
    exact q _ us' (z'.le (Nat.le_succ _))
theorem Zip.none {F H : Hp} {ns : List Str} {S T a : Addr} {bs : List Addr} {vs : List V} {ts : List Str} {n : Nat} (z : Zip F H ns S T a bs vs ts n) : F S = none ∧ F T = none ∧ F a = none := by
  obtain ⟨rs, f, ls, g, h1, h2, h3, h4, h5, h6, h7⟩ := z.ex
  exact ⟨h4 S (by simp), h4 T (by simp), h4 a (by simp)⟩
theorem kind_of (n : Int) : ∃ kd : Kd, atI ([.str "when", .str "loop", .str "again", .str "loop"] : List V) (n % 4) = some (.str kd.nm) := by
  have : n % 4 = 0 ∨ n % 4 = 1 ∨ n % 4 = 2 ∨ n % 4 = 3 := by omega
  rcases this with h | h | h | h <;> rw [h]
  · exact ⟨.whn, rfl⟩
  · exact ⟨.lop, rfl⟩
  · exact ⟨.agn, rfl⟩
  · exact ⟨.lop, rfl⟩
def spOpened (K : PySem.W.Frag) : Sp := fun vs H Q _ => ∃ (F : Hp) (ns : List Str) (nb : Int) (A S T a : Addr) (bs : List Addr) (us : List V) (ts : List Str) (n : Nat), vs = [.int nb, .ref A, .ref S, .ref T] ∧ SqL K F A (ns.map V.str) ∧ ns.length = 16 ∧ n ≤ 100000 ∧ bs.length < 3 ∧ Zip F H ns S T a bs us ts n ∧
  ∀ (H3 : Hp) (c : Addr) (ts' : List Str), Zip F H3 ns S T c (a :: bs) [] ts' (n + 2) → Q .non H3
theorem ok_opened (T : Txt K mg) : CallOk P w K mg base 1 "_law_opened" ["_law_number", "_law_names_here", "_law_stack", "_law_tests"] (spOpened K) := by
  refine go_l_opened T.d_l_opened (fun vs H Q E h => ?_) ?_
  · obtain ⟨F, ns, nb, A, S, T, a, bs, us, ts, n, rfl, _⟩ := h
    rfl
  intro X e1 e2 e3 e4 e5 C sc hr vs H Q E h
  subst e1 e2 e3 e4 e5
  obtain ⟨F, ns, nb, A, S, T', a, bs, us, ts, n, rfl, hA, hl, hn, hb, z, q⟩ := h
  show WSs X _ _ [some (.int nb), some (.ref A), some (.ref S), some (.ref T'), none, none] H
  obtain ⟨ST, Sa, Ta⟩ := z.ne
  obtain ⟨FS, FT, Fa⟩ := z.none
  have lt := z.lt
  have b1 := T.b_len
  have b2 := T.b_max
  have b3 := T.b_int
  refine s_cons ?_
  wtm_at "lms"
  intro p H1 hp s1 h1
  wtm_at "lms"
  obtain ⟨kd, ekd⟩ := kind_of nb
  refine i_lst (SqL.of h1) ekd ?_
  have F1 : Same F H1 := z.fh.trans s1
  wtm_at "lm"
  obtain ⟨s0, hs0, es0⟩ := atI_strs (ns := ns) (i := nb / 64 % 8) (by omega) (by omega)
  refine i_lst (F1.seq hA) es0 ?_
  have hT1 : H1 T' = some (.lst (ts.map V.str)) := s1 _ _ z.hT
  wtm_at "lm"
  refine x_app hT1 (by rw [List.length_map]; omega) ?_
  have ets : ts.map V.str ++ [V.str ""] = (ts ++ [("" : Str)]).map V.str := by rw [List.map_append]; rfl
  rw [ets]
  wtm_at "lms"
  have F2 : Same F (upd H1 T' (.lst ((ts ++ [("" : Str)]).map V.str))) := Same.mut F1 FT
  have hS2 : upd H1 T' (.lst ((ts ++ [("" : Str)]).map V.str)) S = some (.lst ((a :: bs).reverse.map V.ref)) := by rw [upd_ne ST]; exact s1 _ _ z.hS
  have ha2 : upd H1 T' (.lst ((ts ++ [("" : Str)]).map V.str)) a = some (.lst us) := by rw [upd_ne Ta.symm]; exact s1 _ _ z.ha
  have us_le := z.size
  -- behind the if: the test's name, the tests, what was put
  refine s_cut (fun σ' H' => ∃ (s x : Str) (ws : List V) (es : List Row), σ' = [some (.int nb), some (.ref A), some (.ref S), some (.ref T'), some (.str kd.nm), some (.str s)] ∧ s ∈ ns ∧ (x = "" ∨ x ∈ ns) ∧ But3 a S T' H H' ∧ H' S = some (.lst ((a :: bs).reverse.map V.ref)) ∧ H' T' = some (.lst ((ts ++ [x]).map V.str)) ∧
    H' a = some (.lst (us ++ ws)) ∧ AllIn H' ws es [] ∧ RowsOk ns es ∧ deps es = 0 ∧ cnts es ≤ 1 ∧ ws.length ≤ 1) ?_ ?_
  · wtm_at "lm"
    refine ite_dec (fun c => ?_) (fun c => ?_)
    · wtm_at "lm"
      rw [List.length_map, List.length_append, List.length_singleton]
      wtm_at "lm"
      obtain ⟨s, hs, es⟩ := atI_strs (ns := ns) (i := 11 + ((ts.length + 1 : Nat) : Int)) (by omega) (by omega)
      refine i_lst (F2.seq hA) es ?_
      wtm_at "lm"
      refine p_lst (j := ts.length) upd_same (by rw [List.length_map, List.length_append]; unfold ixN; rw [if_neg (by decide), if_pos (by simp; omega)]; simp; omega) ?_
      rw [upd_upd, show ((ts ++ [("" : Str)]).map V.str).set ts.length (.str s) = (ts ++ [s]).map V.str by rw [← List.map_set, List.set_append_right _ _ (Nat.le_refl _), Nat.sub_self]; rfl]
      have hS3 : upd H1 T' (.lst ((ts ++ [s]).map V.str)) S = some (.lst ((a :: bs).reverse.map V.ref)) := by rw [upd_ne ST]; exact s1 _ _ z.hS
      have ha3 : upd H1 T' (.lst ((ts ++ [s]).map V.str)) a = some (.lst us) := by rw [upd_ne Ta.symm]; exact s1 _ _ z.ha
      wtm_at "lm"
      refine i_lst (SqL.of hS3) (atI_top a bs) ?_
      wtm_at "lm"
      intro t H2 ht s2 h2
      have ha4 := s2 _ _ ha3
      have hS4 := s2 _ _ hS3
      have hT4 := s2 _ _ (upd_same (H := H1) (a := T') (o := .lst ((ts ++ [s]).map V.str)))
      refine x_app ha4 (by omega) ?_
      wtm_at "lm"
      generalize hm : (if (if decide (kd.nm = ("again" : Str)) = true then (1 : Int) else 0) > nb / 4 % 4 then (if decide (kd.nm = ("again" : Str)) = true then (1 : Int) else 0) else nb / 4 % 4) = m at h2 ⊢
      have hm2 : 0 ≤ m ∧ m ≤ 999999 := by
        rw [← hm]
        split <;> (try split) <;> omega
      have hrow : RowIn (upd H2 a (.lst (us ++ [.ref t]))) (.ref t) (.lt s .add (.inl m) (.inl 0)) [] := .lt (by rw [upd_ne (ne_of h2 ha4 fun z => nomatch z)]; exact h2)
      refine ⟨s, s, [.ref t], [.lt s .add (.inl m) (.inl 0)], rfl, hs, .inr hs, fun l o h1 h2 h3 h4 => by rw [upd_ne h1]; exact s2 _ _ (by rw [upd_ne h3]; exact s1 _ _ h4), by rw [upd_ne Sa]; exact hS4, by rw [upd_ne Ta]; exact hT4, upd_same, by have := AllIn.cons hrow .nil; exact this,
        RowsOk_one (by rw [RowOk]; exact ⟨hs, hm2, by constructor <;> decide⟩), rfl, Nat.le_refl _, Nat.le_refl _⟩
    · wtm_at "lm"
      refine ⟨s0, "", [], [], rfl, hs0, .inl rfl, fun l o h1 h2 h3 h4 => by rw [upd_ne h3]; exact s1 _ _ h4, hS2, upd_same, by rw [List.append_nil]; exact ha2, .nil, by rw [RowsOk]; trivial, rfl, by decide, by decide⟩
  · rintro σ' H' ⟨s, x, ws, es, rfl, hs, hx, k, hS', hT', ha', he, hok, hde, hce, hwl⟩
    wtm_at "lm"
    refine i_lst (SqL.of hS') (atI_top a bs) ?_
    wtm_at "lm"
    intro c H2 hc s2 h2
    wtm_at "lm"
    intro t H3 ht s3 h3
    have ha3 := s3 _ _ (s2 _ _ ha')
    have hS3 := s3 _ _ (s2 _ _ hS')
    have hT3 := s3 _ _ (s2 _ _ hT')
    have hS4 : upd H3 a (.lst (us ++ ws ++ [.ref t])) S = some (.lst ((a :: bs).reverse.map V.ref)) := by rw [upd_ne Sa]; exact hS3
    refine x_app ha3 (by rw [List.length_append]; omega) ?_
    wtm_at "lm"
    refine i_lst (SqL.of hS4) (atI_top a bs) ?_
    wtm_at "lm"
    refine i_lst (SqL.of upd_same) (atI_last _ _) ?_
    wtm_at "lm"
    have nta : t ≠ a := ne_of h3 ha3 fun z => nomatch z
    refine i_tup (SqT.of (by rw [upd_ne nta]; exact h3)) (by rfl) ?_
    refine x_app hS4 (by rw [List.length_map, List.length_reverse, List.length_cons]; omega) ?_
    wtm_at "lm"
    have hf : H c = none := by
      cases e : H c with
      | none => rfl
      | some o =>
        have nc : ∀ x xs, H' x = some (.lst xs) → c ≠ x := fun x xs q z => by rw [← z, hc] at q; cases q
        rw [k c o (nc a _ ha') (nc S _ hS') (nc T' _ hT') e] at hc
        cases hc
    have nc : ∀ x o, H' x = some o → x ≠ c := fun x o q z => by rw [z, hc] at q; cases q
    refine q _ c (ts ++ [x]) ((z.open (t := t) (kd := kd) (s := s) (x := x) (ws := ws) (es := es) (H3 := upd (upd H3 a (.lst (us ++ ws ++ [.ref t]))) S (.lst ((a :: bs).reverse.map V.ref ++ [.ref c])))
      (fun l o h1 h2 h3 h4 => by rw [upd_ne h2, upd_ne h1]; exact s3 _ _ (s2 _ _ (k l o h1 h2 h3 h4))) hf ?_ ?_ hs hx hb ?_ ?_ hok hde ?_ ?_).le (by omega))
    · rw [upd_ne (nc S _ hS').symm, upd_ne (nc a _ ha').symm]
      exact s3 _ _ h2
    · rw [upd_ne (ne_of h3 hS3 fun z => nomatch z), upd_ne nta]
      exact h3
    · rw [upd_ne Sa.symm]
      exact upd_same
    · refine ((he.mono s2).mono s3).keep ⟨fun t' xs q => ?_, fun l hl => nomatch hl⟩
      rw [upd_ne (ne_of q hS3 fun z => nomatch z), upd_ne (ne_of q ha3 fun z => nomatch z)]
      exact q
    · rw [upd_same, List.reverse_cons (a := c), List.map_append]
      rfl
    · rw [upd_ne ST.symm, upd_ne Ta]
      exact hT3
def spProgram (K : PySem.W.Frag) : Sp := fun vs H Q _ => ∃ (cs : List Int) (ns : List Str) (Cc A : Addr), vs = [.ref Cc, .ref A] ∧ SqL K H Cc (cs.map V.int) ∧ cs.length ≤ 1000 ∧ SqL K H A (ns.map V.str) ∧ ns.length = 16 ∧
  ∀ (r : Addr) (H' : Hp) (rs : List Row) (fp : List Addr), Same H H' → RowsIn H' r rs fp → RowsOk ns rs → deps rs ≤ 3 → cnts rs ≤ 2 * cs.length + 3 → fp.Nodup → (∀ l ∈ fp, H l = none) → Q (.ref r) H'
theorem ok_program (T : Txt K mg) : CallOk P w K mg base 3 "_law_program" ["_law_cells", "_law_names_here"] (spProgram K) := by
  have G1 : CallOk P w K mg base 1 "_law_mixed" ["_law_cell", "_law_k"] spMixed := ok_mixed T
  have G2 : CallOk P w K mg base 1 "_law_opened" ["_law_number", "_law_names_here", "_law_stack", "_law_tests"] (spOpened K) := ok_opened T
  have G3 : CallOk P w K mg base 1 "_law_closed" ["_law_stack", "_law_tests"] spClosed := ok_closed T
  have G4 : CallOk P w K mg base 1 "_law_value" ["_law_kind", "_law_number", "_law_names_here"] (spValue K) := ok_value T
  have G5 : CallOk P w K mg base 2 "_law_let" ["_law_number", "_law_names_here"] (spLet K) := ok_let T
  refine go_l_program T.d_l_program (fun vs H Q E h => ?_) ?_
  · obtain ⟨cs, ns, Cc, A, rfl, _⟩ := h
    rfl
  intro X e1 e2 e3 e4 e5 C sc hr vs H Q E h
  subst e1 e2 e3 e4 e5
  obtain ⟨cs, ns, Cc, A, rfl, hC, hcl, hA, hl, q⟩ := h
  show WSs X _ _ [some (.ref Cc), some (.ref A), none, none, none, none, none] H
  have b1 := T.b_len
  have b2 := T.b_range
  refine s_cons ?_
  wtm_at "lms"
  intro a H1 ha s1 h1
  wtm_at "lms"
  intro S H2 hS s2 h2
  wtm_at "lm"
  intro T' H3 hT s3 h3
  have sH3 : Same H H3 := (s1.trans s2).trans s3
  have hC3 := sH3.seq hC
  wtm_at "lm"
  rw [List.length_map]
  refine ⟨by omega, by omega, ?_⟩
  rw [Int.toNat_natCast]
  have ha3 := s3 _ _ (s2 _ _ h1)
  have hS3 := s3 _ _ h2
  have Sa : S ≠ a := fun e => by rw [e, h1] at hS; cases hS
  have Ta : T' ≠ a := fun e => by rw [e, s2 _ _ h1] at hT; cases hT
  have ST : S ≠ T' := fun e => by rw [← e, h2] at hT; cases hT
  have FS : H S = none := s1.free hS
  have FT : H T' = none := (s1.trans s2).free hT
  have z0 : Zip H H3 ns S T' a [] [] [] 0 := ⟨⟨[], [], [], [], .nil, .nil, by simp [ST, Sa, Ta], by simp [FS, FT, ha], by rw [RowsOk]; trivial, by decide, by decide⟩, hS3, h3, ha3, rfl, fun s hs => (nomatch hs), Nat.zero_le _, sH3⟩
  refine for_r (fun i σ' H' => i ≤ cs.length ∧ ∃ (a : Addr) (bs : List Addr) (us : List V) (ts : List Str) (o4 o5 o6 : Option V), σ' = [some (.ref Cc), some (.ref A), some (.ref S), some (.ref T'), o4, o5, o6] ∧ Zip H H' ns S T' a bs us ts (2 * i)) ⟨Nat.zero_le _, a, [], [], [], _, _, _, rfl, z0⟩ ?_ ?_
  · rintro k σ' H' hk ⟨_, a, bs, us, ts, o4, o5, o6, rfl, z⟩
    refine ⟨_, by wtm_at "lm.put", ?_⟩
    have hC4 := z.fh.seq hC
    have hT4 := z.hT
    have lt := z.lt
    have zs := z.size
    wtm_at "lm"
    refine i_lst hC4 (atI_map (by omega)) ?_
    wtm_at "lm"
    refine ⟨_, _, rfl, ?_⟩
    have m0 := mixed_lo (cs.getD k 0) k
    generalize mixed (cs.getD k 0) k = m at m0 ⊢
    wtm_at "lm"
    have fin : ∀ (a : Addr) (bs : List Addr) (us : List V) (ts : List Str) (H3 : Hp), Zip H H3 ns S T' a bs us ts (2 * k + 2) → k + 1 ≤ cs.length ∧ ∃ (a_1 : Addr) (bs : List Addr) (us : List V) (ts : List Str) (o4 o5 o6 : Option V), [some (V.ref Cc), some (.ref A), some (.ref S), some (.ref T'), some (.int k), some (.int (m / 9)), some (.int (m % 9))] = [some (.ref Cc), some (.ref A), some (.ref S), some (.ref T'), o4, o5, o6] ∧ Zip H H3 ns S T' a_1 bs us ts (2 * (k + 1)) :=
      fun a bs us ts H3 z => ⟨hk, a, bs, us, ts, _, _, _, rfl, z⟩
    have br2 : ∀ {t : Addr} {r : Row} {H2 : Hp}, Same H' H2 → RowIn H2 (.ref t) r [] → RowOk ns r → r.dep = 0 → r.cnt = 1 → Zip H (upd H2 a (.lst (us ++ [.ref t]))) ns S T' a bs (us ++ [.ref t]) ts (2 * k + 2) :=
      fun s h1 h2 h3 h4 => ((z.mono s).add h1 h2 h3 h4).le (by omega)
    have A4 := z.fh.seq hA
    have hS4 := z.hS
    have ha4 := z.ha
    have leaf : ∀ {t : Addr} {r : Row} {H2 : Hp}, Same H' H2 → RowIn H2 (.ref t) r [] → RowOk ns r → r.dep = 0 → r.cnt = 1 → k + 1 ≤ cs.length ∧ ∃ (a_1 : Addr) (bs : List Addr) (us' : List V) (ts : List Str) (o4 o5 o6 : Option V), [some (V.ref Cc), some (.ref A), some (.ref S), some (.ref T'), some (.int k), some (.int (m / 9)), some (.int (m % 9))] = [some (.ref Cc), some (.ref A), some (.ref S), some (.ref T'), o4, o5, o6] ∧ Zip H (upd H2 a (.lst (us ++ [.ref t]))) ns S T' a_1 bs us' ts (2 * (k + 1)) :=
      fun s h1 h2 h3 h4 => fin _ _ _ _ _ (br2 s h1 h2 h3 h4)
    refine ite_dec (fun c => ?_) (fun c => ?_)
    · wtm_at "lm"
      rw [List.length_map]
      refine ite_dec (fun c2 => ?_) (fun c2 => ?_)
      · wtm_at "lm"
        exact ⟨H, ns, _, A, S, T', a, bs, us, ts, 2 * k, rfl, hA, hl, by omega, by omega, z, fun H3 c ts' z' => fin _ _ _ _ _ z'⟩
      · wtm_at "lm"
        refine ite_dec (fun c3 => absurd c3 (by omega)) (fun c3 => ?_)
        wtm_at "lm"
        refine ite_dec (fun c4 => absurd c4 (by omega)) (fun c4 => ?_)
        wtm_at "lm"
        refine i_lst (SqL.of hS4) (atI_top a bs) ?_
        wtm_at "lm"
        refine ⟨_, A, ns, rfl, A4, hl, fun t H2 to sg x y s5 h5 k1 k2 k3 => ?_⟩
        refine x_app (s5 _ _ ha4) (by omega) ?_
        wtm_at "lm"
        exact leaf s5 (.lt h5) (by rw [RowOk]; exact ⟨k1, k2, k3⟩) rfl rfl
    · wtm_at "lm"
      have chain : ∀ m2 : Int, 0 ≤ m2 → m2 % 16 < 16 := fun m2 _ => by omega
      refine ite_dec (fun c3 => ?_) (fun c3 => ?_)
      · wtm_at "lm"
        rw [List.length_map]
        refine ite_dec (fun c4 => ?_) (fun c4 => ?_)
        · wtm_at "lm"
          cases bs with
          | nil => rw [lt] at c4; exact absurd c4 (by decide)
          | cons b bs => exact ⟨H, ns, S, T', a, b, bs, us, ts, 2 * k, rfl, by omega, z, fun H3 us' z' => fin _ _ _ _ _ (z'.le (by omega))⟩
        · wtm_at "lm"
          refine ite_dec (fun c5 => absurd c5 (by omega)) (fun c5 => ?_)
          wtm_at "lm"
          refine i_lst (SqL.of hS4) (atI_top a bs) ?_
          wtm_at "lm"
          refine ⟨_, A, ns, rfl, A4, hl, fun t H2 to sg x y s5 h5 k1 k2 k3 => ?_⟩
          refine x_app (s5 _ _ ha4) (by omega) ?_
          wtm_at "lm"
          exact leaf s5 (.lt h5) (by rw [RowOk]; exact ⟨k1, k2, k3⟩) rfl rfl
      · wtm_at "lm"
        refine ite_dec (fun c5 => ?_) (fun c5 => ?_)
        · wtm_at "lm"
          refine i_lst (SqL.of hS4) (atI_top a bs) ?_
          wtm_at "lm"
          refine ⟨_, _, A, ns, rfl, by omega, A4, hl, by omega, fun x hx => ?_⟩
          wtm_at "lm"
          intro t H2 ht s5 h5
          refine x_app (s5 _ _ ha4) (by omega) ?_
          wtm_at "lm"
          exact leaf s5 (.say h5) (by rw [RowOk]; exact hx) rfl rfl
        · wtm_at "lm"
          refine i_lst (SqL.of hS4) (atI_top a bs) ?_
          wtm_at "lm"
          refine ⟨_, A, ns, rfl, A4, hl, fun t H2 to sg x y s5 h5 k1 k2 k3 => ?_⟩
          refine x_app (s5 _ _ ha4) (by omega) ?_
          wtm_at "lm"
          exact leaf s5 (.lt h5) (by rw [RowOk]; exact ⟨k1, k2, k3⟩) rfl rfl
  · rintro σ' H' ⟨_, a, bs, us, ts, o4, o5, o6, rfl, z⟩
    wtm_at "lm"
    refine s_while C (fun σ' H' => ∃ (a : Addr) (bs : List Addr) (us : List V) (ts : List Str) (o4 o5 o6 : Option V), σ' = [some (.ref Cc), some (.ref A), some (.ref S), some (.ref T'), o4, o5, o6] ∧ Zip H H' ns S T' a bs us ts (2 * cs.length + 3 - bs.length))
      (fun _ H' => match H' T' with | some (.lst xs) => xs.length | _ => 0) ⟨a, bs, us, ts, o4, o5, o6, rfl, z.le (by have := z.l3; omega)⟩ ?_
    rintro σ' H' ⟨a, bs, us, ts, o4, o5, o6, rfl, z⟩
    have hT4 := z.hT
    have lt := z.lt
    have l3 := z.l3
    wtm_at "lm"
    rw [List.length_map]
    refine ite_dec (fun c => ?_) (fun c => ?_)
    · wtm_at "lm"
      cases bs with
      | nil => rw [lt] at c; exact absurd c (by decide)
      | cons b bs =>
        refine ⟨H, ns, S, T', a, b, bs, us, ts, _, rfl, by omega, z, fun H3 us' z' => ?_⟩
        rw [List.length_cons] at z' l3
        wtm_at "lm"
        refine ⟨⟨b, bs, us', _, _, _, _, rfl, z'.le (by omega)⟩, ?_⟩
        rw [z'.hT, hT4]
        show (List.map V.str ts.dropLast).length < (List.map V.str ts).length
        rw [List.length_map, List.length_map, List.length_dropLast]
        omega
    · cases bs with
      | cons b bs => rw [lt] at c; exact absurd (by simp) c
      | nil =>
        have hS4 := z.hS
        wtm_at "lm"
        obtain ⟨rs, fp, h1, h2, h3, h4, h5, h6, h7⟩ := z.done
        exact q a H' rs fp h5 h1 h2 h3 h4 h6 h7
end
/-! ### _law_whole, _law_alike, _law_copied, _law_nested -/
/-- data of whole numbers and texts, lists and tuples: n deep at most -/
inductive PlainD : Nat → PyData → Prop where
  | int {n : Nat} (i : Int) : PlainD n (.int i)
  | str {n : Nat} (x : Str) : PlainD n (.str x)
  | lst {n : Nat} {ds : List PyData} (h : ∀ d ∈ ds, PlainD n d) (hl : ds.length ≤ 100000) : PlainD (n + 1) (.list ds)
  | tup {n : Nat} {ds : List PyData} (h : ∀ d ∈ ds, PlainD n d) (hl : ds.length ≤ 100000) : PlainD (n + 1) (.tuple ds)
theorem PlainD.mono {n : Nat} {d : PyData} (h : PlainD n d) : ∀ {m : Nat}, n ≤ m → PlainD m d := by
  induction h with
  | int i => intro m _; exact .int i
  | str x => intro m _; exact .str x
  | lst h hl ih =>
    intro m hm
    obtain ⟨k, rfl⟩ : ∃ k, m = k + 1 := ⟨m - 1, by omega⟩
    exact .lst (fun d hd => ih d hd (by omega)) hl
  | tup h hl ih =>
    intro m hm
    obtain ⟨k, rfl⟩ : ∃ k, m = k + 1 := ⟨m - 1, by omega⟩
    exact .tup (fun d hd => ih d hd (by omega)) hl
theorem DpAll.get {K : PySem.W.Frag} {H : Hp} : ∀ {vs : List V} {ds : List PyData} {i : Nat} {v : V}, DpAll K H vs ds → vs[i]? = some v → ∃ d, ds[i]? = some d ∧ Dp K H v d
  | _, _, i, v, .nil, h => by simp at h
  | _, _, 0, v, .cons h _, e => by
    simp at e
    subst e
    exact ⟨_, rfl, h⟩
  | _, _, i + 1, v, .cons _ h, e => by
    obtain ⟨d, h1, h2⟩ := DpAll.get (i := i) h (by simpa using e)
    exact ⟨d, by simpa using h1, h2⟩
theorem DpAll.len {K : PySem.W.Frag} {H : Hp} : ∀ {vs : List V} {ds : List PyData}, DpAll K H vs ds → vs.length = ds.length
  | _, _, .nil => rfl
  | _, _, .cons _ h => by rw [List.length_cons, List.length_cons, DpAll.len h]
mutual
theorem Dp.mono {K : PySem.W.Frag} {H H' : Hp} (e : Same H H') : ∀ {d : PyData} {v : V}, Dp K H v d → Dp K H' v d
  | .none, _, .non => .non
  | .bool _, _, .bl b => .bl b
  | .int _, _, .int i => .int i
  | .str _, _, .str x => .str x
  | .list ds, _, .lst h ha => .lst (e.seq h) (DpAll.mono e (ds := ds) ha)
  | .tuple ds, _, .tup h ha => .tup (Same.sqt e h) (DpAll.mono e (ds := ds) ha)
  | .dict _, _, h => nomatch h
theorem DpAll.mono {K : PySem.W.Frag} {H H' : Hp} (e : Same H H') : ∀ {ds : List PyData} {vs : List V}, DpAll K H vs ds → DpAll K H' vs ds
  | [], _, .nil => .nil
  | d :: ds, _, .cons h ha => .cons (Dp.mono e (d := d) h) (DpAll.mono e (ds := ds) ha)
end
section
variable {P : Program} {w : World} {K : PySem.W.Frag} {mg : Str → Option Value} {base : Heap}
def spWhole : Sp := fun vs H Q _ => ∃ i : Int, vs = [.int i] ∧ Q (.bl true) H
def spAlike (K : PySem.W.Frag) (n : Nat) : Sp := fun vs H Q _ => ∃ (x y : V) (d : PyData), vs = [x, y] ∧ Dp K H x d ∧ Dp K H y d ∧ PlainD n d ∧ ∀ H', Same H H' → Q (.bl true) H'
theorem all_true (n : Nat) : ((List.range n).map fun _ => true).all _root_.id = true := by
  rw [List.all_eq_true]
  intro b hb
  obtain ⟨_, _, rfl⟩ := List.mem_map.mp hb
  rfl
/-- count blocks, each about the next, the last about the list a -/
inductive NestIn (H : Hp) (ns : List Str) : Addr → Nat → Addr → Prop where
  | zero {a : Addr} : NestIn H ns a 0 a
  | succ {r t r1 a : Addr} {k : Nat} {kd : Kd} {s : Str} (h : H r = some (.lst [.ref t])) (ht : H t = some (.tup [.str kd.nm, .str s, .ref r1])) (hs : s ∈ ns) (hn : NestIn H ns r1 k a) : NestIn H ns r (k + 1) a
theorem NestIn.mono {H H' : Hp} {ns : List Str} {r a : Addr} {k : Nat} (h : NestIn H ns r k a) (e : Same H H') : NestIn H' ns r k a := by
  induction h with
  | zero => exact .zero
  | succ h ht hs _ ih => exact .succ (e _ _ h) (e _ _ ht) hs ih
theorem NestIn.rows {H : Hp} {ns : List Str} {r a : Addr} {k : Nat} (h : NestIn H ns r k a) : ∀ {rs : List Row} {fp : List Addr}, RowsIn H a rs fp → RowsOk ns rs → ∃ rs' fp', RowsIn H r rs' fp' ∧ RowsOk ns rs' ∧ deps rs' = deps rs + k ∧ cnts rs' = cnts rs + k := by
  induction h with
  | zero => intro rs fp h1 h2; exact ⟨rs, fp, h1, h2, rfl, rfl⟩
  | @succ r t r1 a k kd s h ht hs _ ih =>
    intro rs fp h1 h2
    obtain ⟨rs', fp', q1, q2, q3, q4⟩ := ih h1 h2
    refine ⟨[.blk kd s rs'], r :: (fp' ++ []), .mk h (.cons (.blk ht q1) .nil), RowsOk_one (by rw [RowOk]; exact ⟨hs, q2⟩), ?_, ?_⟩
    · rw [deps, deps, Row.dep, q3]
      simp
      omega
    · rw [cnts, cnts, Row.cnt, q4]
      omega
def spNested (K : PySem.W.Frag) : Sp := fun vs H Q _ => ∃ (ns : List Str) (a A : Addr) (m : Nat) (c : Int), vs = [.ref a, .int m, .ref A, .int c] ∧ m ≤ 1000 ∧ SqL K H A (ns.map V.str) ∧ ns.length = 16 ∧
  ∀ (r : Addr) (H' : Hp), Same H H' → NestIn H' ns r m a → Q (.ref r) H'
theorem kind3_of (n : Int) : ∃ kd : Kd, atI ([.str "when", .str "loop", .str "again"] : List V) (n % 3) = some (.str kd.nm) := by
  have : n % 3 = 0 ∨ n % 3 = 1 ∨ n % 3 = 2 := by omega
  rcases this with h | h | h <;> rw [h]
  · exact ⟨.whn, rfl⟩
  · exact ⟨.lop, rfl⟩
  · exact ⟨.agn, rfl⟩
/-- a program is copied: lists of its own -/
def spCopied (n : Nat) : Sp := fun vs H Q _ => ∃ (a : Addr) (rs : List Row) (fp : List Addr), vs = [.ref a] ∧ RowsIn H a rs fp ∧ deps rs ≤ n ∧ cnts rs ≤ 100000 ∧
  ∀ (r : Addr) (H' : Hp) (fp' : List Addr), Same H H' → RowsIn H' r rs fp' → (∀ l ∈ fp', H l = none) → fp'.Nodup → Q (.ref r) H'
/-- a part of a copy that is under way: D is the list that is made, its rows have lists fp, all new, none twice -/
structure Made (H H' : Hp) (D : Addr) (rs : List Row) : Prop where
  same : Same H H'
  ex : ∃ vs fp, H' D = some (.lst vs) ∧ AllIn H' vs rs fp ∧ (D :: fp).Nodup ∧ ∀ l ∈ D :: fp, H l = none
theorem Made.put {H H' H2 : Hp} {D : Addr} {rs : List Row} (m : Made H H' D rs) {v : V} {r : Row} {g : List Addr} (s : Same H' H2) (h : RowIn H2 v r g) (hg : ∀ l ∈ g, H' l = none) (nd : g.Nodup) : ∃ vs, H2 D = some (.lst vs) ∧ vs.length = rs.length ∧ Made H (upd H2 D (.lst (vs ++ [v]))) D (rs ++ [r]) := by
  obtain ⟨vs, fp, h1, h2, h3, h4⟩ := m.ex
  have hD := s _ _ h1
  have nf := h3
  rw [List.nodup_cons] at nf
  have gD : D ∉ g := fun z => by rw [hg D z] at h1; cases h1
  refine ⟨vs, hD, h2.len, Same.mut (m.same.trans s) (h4 D List.mem_cons_self), vs ++ [v], fp ++ g, upd_same, ((h2.mono s).snoc h).keep (Kept.upd hD fun z => (List.mem_append.mp z).elim nf.1 gD), ?_, fun l hl => ?_⟩
  · rw [← List.cons_append]
    refine List.nodup_append.mpr ⟨h3, nd, fun x hx y hy e => ?_⟩
    subst e
    have hn := hg x hy
    rcases List.mem_cons.mp hx with rfl | hx
    · exact gD hy
    · obtain ⟨xs, e⟩ := h2.at x hx
      rw [e] at hn
      cases hn
  · rw [← List.cons_append] at hl
    rcases List.mem_append.mp hl with hl | hl
    · exact h4 l hl
    · exact m.same.free (hg l hl)
theorem Made.new {H H' : Hp} {D : Addr} (s : Same H H') (hD : H D = none) (h : H' D = some (.lst [])) : Made H H' D [] := ⟨s, [], [], h, .nil, by simp, fun l hl => by rw [List.mem_singleton.mp hl]; exact hD⟩
theorem Made.done {H H' : Hp} {D : Addr} {rs : List Row} (m : Made H H' D rs) : ∃ fp, RowsIn H' D rs fp ∧ (∀ l ∈ fp, H l = none) ∧ fp.Nodup := by
  obtain ⟨vs, fp, h1, h2, h3, h4⟩ := m.ex
  exact ⟨D :: fp, .mk h1 h2, h4, h3⟩
end
/-! ### a dict whose keys are what counts -/
def putAll (kvs : List (Key × V)) (ks : List Key) : List (Key × V) := ks.foldl (fun a k => putK a k (.bl true)) kvs
theorem putAll_append (kvs : List (Key × V)) (ks ls : List Key) : putAll kvs (ks ++ ls) = putAll (putAll kvs ks) ls := List.foldl_append
theorem putAll_one (kvs : List (Key × V)) (k : Key) : putAll kvs [k] = putK kvs k (.bl true) := rfl
theorem putAll_len : ∀ (ks : List Key) (kvs : List (Key × V)), (putAll kvs ks).length ≤ kvs.length + ks.length
  | [], kvs => Nat.le_refl _
  | k :: ks, kvs => by
    have h1 := putAll_len ks (putK kvs k (.bl true))
    have h2 := length_putK kvs k (.bl true)
    show (putAll (putK kvs k (.bl true)) ks).length ≤ _
    rw [List.length_cons]
    omega
theorem valV_none_iff {kvs : List (Key × V)} {k : Key} : valV kvs k = none ↔ k ∉ kvs.map (·.1) := by
  have h := valV_any k kvs
  constructor
  · intro e hm
    rw [e] at h
    obtain ⟨kv, h1, h2⟩ := List.mem_map.mp hm
    have : (kvs.any fun kv => decide (kv.1 = k)) = true := List.any_eq_true.mpr ⟨kv, h1, by simp [h2]⟩
    rw [this] at h
    cases h
  · intro hm
    cases e : valV kvs k with
    | none => rfl
    | some v =>
      rw [e] at h
      obtain ⟨kv, h1, h2⟩ := List.any_eq_true.mp (show (kvs.any fun kv => decide (kv.1 = k)) = true from h)
      exact absurd (List.mem_map.mpr ⟨kv, h1, of_decide_eq_true h2⟩) hm
theorem keys_putK_in (kvs : List (Key × V)) (k : Key) (v : V) (h : k ∈ kvs.map (·.1)) : (putK kvs k v).map (·.1) = kvs.map (·.1) := by
  have a : (kvs.any fun kv => decide (kv.1 = k)) = true := by
    obtain ⟨kv, h1, h2⟩ := List.mem_map.mp h
    exact List.any_eq_true.mpr ⟨kv, h1, by simp [h2]⟩
  unfold putK
  rw [if_pos a, List.map_map]
  refine List.map_congr_left fun kv _ => ?_
  show (if kv.1 = k then (kv.1, v) else kv).1 = kv.1
  split <;> rfl
theorem keys_putK_new (kvs : List (Key × V)) (k : Key) (v : V) (h : k ∉ kvs.map (·.1)) : (putK kvs k v).map (·.1) = kvs.map (·.1) ++ [k] := by
  rw [putK_new v (valV_none_iff.mpr h), List.map_append]
  rfl
theorem putAll_nd : ∀ (ks : List Key) (kvs : List (Key × V)), (kvs.map (·.1)).Nodup → ((putAll kvs ks).map (·.1)).Nodup
  | [], _, h => h
  | k :: ks, kvs, h => by
    refine putAll_nd ks (putK kvs k (.bl true)) ?_
    by_cases hm : k ∈ kvs.map (·.1)
    · rw [keys_putK_in _ _ _ hm]
      exact h
    · rw [keys_putK_new _ _ _ hm]
      exact List.nodup_append.mpr ⟨h, by simp, fun a ha b hb e => hm (by rw [List.mem_singleton.mp hb] at e; exact e ▸ ha)⟩
theorem putAll_mem (x : Key) : ∀ (ks : List Key) (kvs : List (Key × V)), x ∈ (putAll kvs ks).map (·.1) ↔ x ∈ kvs.map (·.1) ∨ x ∈ ks
  | [], kvs => by simp [putAll]
  | k :: ks, kvs => by
    show x ∈ (putAll (putK kvs k (.bl true)) ks).map (·.1) ↔ _
    rw [putAll_mem x ks]
    by_cases hm : k ∈ kvs.map (·.1)
    · rw [keys_putK_in _ _ _ hm]
      constructor
      · rintro (h | h)
        · exact .inl h
        · exact .inr (List.mem_cons_of_mem _ h)
      · rintro (h | h)
        · exact .inl h
        · rcases List.mem_cons.mp h with rfl | h
          · exact .inl hm
          · exact .inr h
    · rw [keys_putK_new _ _ _ hm, List.mem_append, List.mem_singleton, List.mem_cons, or_assoc]
/-- texts in order, none twice, the same ones: the same list -/
theorem rising_ge : ∀ (l : List Str) (p : Str), risingS p l = true → (p :: l).Pairwise fun a b => ¬ b.cps.toList < a.cps.toList
  | [], p, _ => by simp
  | x :: r, p, h => by
    have h1 : (!Spec.ltCps x.cps.toList p.cps.toList && risingS x r) = true := h
    rw [Bool.and_eq_true, ltCps_eq, Bool.not_eq_true', decide_eq_false_iff_not] at h1
    have ih := rising_ge r x h1.2
    refine List.pairwise_cons.mpr ⟨fun y hy => ?_, ih⟩
    rcases List.mem_cons.mp hy with rfl | hy
    · exact h1.1
    · have h2 := (List.pairwise_cons.mp ih).1 y hy
      exact fun z => List.not_lt.mpr (List.le_trans (List.not_lt.mp h1.1) (List.not_lt.mp h2)) z
theorem sorted_ge {l : List Str} (h : sortedS l = true) : l.Pairwise fun a b => ¬ b.cps.toList < a.cps.toList := by
  cases l with
  | nil => exact .nil
  | cons p r => exact rising_ge r p h
theorem sorted_one {l m : List Str} (h1 : sortedS l = true) (h2 : sortedS m = true) (n1 : l.Nodup) (n2 : m.Nodup) (h : ∀ s, s ∈ l ↔ s ∈ m) : l = m := by
  refine List.Perm.eq_of_pairwise (fun a b _ _ p q => ?_) (sorted_ge h1) (sorted_ge h2) ((List.perm_ext_iff_of_nodup n1 n2).mpr h)
  have e : a.cps.toList = b.cps.toList := List.le_antisymm (List.not_lt.mp p) (List.not_lt.mp q)
  rw [tx_of a, tx_of b, e]
/-- from H to H' nothing changed but what stands at d -/
def But1 (d : Addr) (H H' : Hp) : Prop := ∀ l o, l ≠ d → H l = some o → H' l = some o
theorem But1.refl {d : Addr} {H : Hp} : But1 d H H := fun _ _ _ h => h
theorem But1.trans {d : Addr} {H H1 H2 : Hp} (a : But1 d H H1) (b : But1 d H1 H2) : But1 d H H2 := fun l o h q => b l o h (a l o h q)
theorem But1.same {d : Addr} {H H1 H2 : Hp} (a : But1 d H H1) (s : Same H1 H2) : But1 d H H2 := fun l o h q => s l o (a l o h q)
theorem But1.upd {d : Addr} {H H1 : Hp} {o : HO} (a : But1 d H H1) : But1 d H (upd H1 d o) := fun l u h q => by rw [upd_ne h]; exact a l u h q
theorem But1.kept {d : Addr} {H H' : Hp} {fp : List Addr} {kvs : List (Key × V)} (k : But1 d H H') (hd : H d = some (.dK kvs)) (h : ∀ l ∈ fp, ∃ xs, H l = some (.lst xs)) : Kept fp H H' :=
  ⟨fun t xs q => k t _ (ne_of q hd fun z => nomatch z) q, fun l hl => by obtain ⟨xs, q⟩ := h l hl; rw [q]; exact k l _ (ne_of q hd fun z => nomatch z) q⟩
/-- what was not there before may change -/
theorem But1.new {d : Addr} {H H1 H2 : Hp} (s : Same H H1) (hd : H d = none) (k : But1 d H1 H2) : Same H H2 := fun l o q => k l o (ne_of_none q hd) (s l o q)
/-! ### what rows read and set, whether they fail, whether they speak -/
mutual
def Row.rd : Row → List Key
  | .lt _ _ x y => [x, y]
  | .say x => [x]
  | .blk _ s rs => .inr s :: rds rs
def rds : List Row → List Key
  | [] => []
  | r :: rs => r.rd ++ rds rs
end
mutual
def Row.st : Row → List Key
  | .lt to _ _ _ => [.inr to]
  | .say _ => []
  | .blk _ _ rs => sts rs
def sts : List Row → List Key
  | [] => []
  | r :: rs => r.st ++ sts rs
end
def divs (sg : Sg) (y : Key) : Bool := decide (sg = .div) && (match y with | .inl i => decide (i = 0) | .inr _ => true)
mutual
def Row.mf : Row → Bool
  | .lt _ sg _ y => divs sg y
  | .say _ => false
  | .blk _ _ rs => mfs rs
def mfs : List Row → Bool
  | [] => false
  | r :: rs => r.mf || mfs rs
end
mutual
def Row.sp : Row → Bool
  | .lt _ _ _ _ => false
  | .say _ => true
  | .blk _ _ rs => sps rs
def sps : List Row → Bool
  | [] => false
  | r :: rs => r.sp || sps rs
end
theorem rds_append : ∀ rs ss : List Row, rds (rs ++ ss) = rds rs ++ rds ss
  | [], ss => rfl
  | r :: rs, ss => by rw [List.cons_append, rds, rds, rds_append rs ss, List.append_assoc]
theorem sts_append : ∀ rs ss : List Row, sts (rs ++ ss) = sts rs ++ sts ss
  | [], ss => rfl
  | r :: rs, ss => by rw [List.cons_append, sts, sts, sts_append rs ss, List.append_assoc]
theorem mfs_append : ∀ rs ss : List Row, mfs (rs ++ ss) = (mfs rs || mfs ss)
  | [], ss => rfl
  | r :: rs, ss => by rw [List.cons_append, mfs, mfs, mfs_append rs ss, Bool.or_assoc]
theorem sps_append : ∀ rs ss : List Row, sps (rs ++ ss) = (sps rs || sps ss)
  | [], ss => rfl
  | r :: rs, ss => by rw [List.cons_append, sps, sps, sps_append rs ss, Bool.or_assoc]
theorem rds_one (r : Row) : rds [r] = r.rd := by rw [rds, rds, List.append_nil]
theorem sts_one (r : Row) : sts [r] = r.st := by rw [sts, sts, List.append_nil]
theorem mfs_one (r : Row) : mfs [r] = r.mf := by rw [mfs, mfs, Bool.or_false]
theorem sps_one (r : Row) : sps [r] = r.sp := by rw [sps, sps, Bool.or_false]
mutual
theorem Row.rd_len : ∀ r : Row, r.rd.length ≤ 2 * r.cnt
  | .lt _ _ _ _ => by rw [Row.rd, Row.cnt]; exact Nat.le_refl _
  | .say _ => by rw [Row.rd, Row.cnt]; exact Nat.le_succ _
  | .blk _ _ rs => by rw [Row.rd, Row.cnt, List.length_cons]; have := rds_len rs; omega
theorem rds_len : ∀ rs : List Row, (rds rs).length ≤ 2 * cnts rs
  | [] => by rw [rds, cnts]; decide
  | r :: rs => by rw [rds, cnts, List.length_append]; have := Row.rd_len r; have := rds_len rs; omega
end
mutual
theorem Row.st_len : ∀ r : Row, r.st.length ≤ r.cnt
  | .lt _ _ _ _ => by rw [Row.st, Row.cnt]; exact Nat.le_refl _
  | .say _ => by rw [Row.st, Row.cnt]; decide
  | .blk _ _ rs => by rw [Row.st, Row.cnt]; have := sts_len rs; omega
theorem sts_len : ∀ rs : List Row, (sts rs).length ≤ cnts rs
  | [] => by rw [sts, cnts]; decide
  | r :: rs => by rw [sts, cnts, List.length_append]; have := Row.st_len r; have := sts_len rs; omega
end
/-- the names among keys -/
def isS : Key → Bool
  | .inl _ => false
  | .inr _ => true
def onlyS (ks : List Key) : List Key := ks.filter isS
theorem onlyS_append (ks ls : List Key) : onlyS (ks ++ ls) = onlyS ks ++ onlyS ls := List.filter_append _ _
theorem onlyS_len (ks : List Key) : (onlyS ks).length ≤ ks.length := List.length_filter_le _ _
section
variable {P : Program} {w : World} {K : PySem.W.Frag} {mg : Str → Option Value} {base : Heap}
/-- the names that gathered puts -/
def names (b : Bool) (rs : List Row) : List Key := if b = true then onlyS (rds rs) else sts rs
theorem names_append (b : Bool) (rs ss : List Row) : names b (rs ++ ss) = names b rs ++ names b ss := by
  unfold names
  split
  · rw [rds_append, onlyS_append]
  · rw [sts_append]
theorem names_len (b : Bool) (rs : List Row) : (names b rs).length ≤ 2 * cnts rs := by
  unfold names
  have h1 := rds_len rs
  have h2 := onlyS_len (rds rs)
  have h3 := sts_len rs
  split <;> omega
def spOperands : Sp := fun vs H Q _ => ∃ (t : Addr) (r : Row), vs = [.ref t] ∧ RowIn H (.ref t) r [] ∧ r.dep = 0 ∧ ∀ (p : Addr) (H' : Hp), Same H H' → H' p = some (.tup (r.rd.map kV)) → Q (.ref p) H'
/-- names are put into the dict at d -/
def spGathered (n : Nat) : Sp := fun vs H Q _ => ∃ (a d : Addr) (b : Bool) (rs : List Row) (fp : List Addr) (kvs : List (Key × V)), vs = [.ref a, .ref d, .bl b] ∧ RowsIn H a rs fp ∧ deps rs ≤ n ∧ H d = some (.dK kvs) ∧ kvs.length + 2 * cnts rs ≤ 200000 ∧
  ∀ H', But1 d H H' → H' d = some (.dK (putAll kvs (names b rs))) → Q .non H'
theorem RowIn.flat {H : Hp} {v : V} {r : Row} {f : List Addr} (h : RowIn H v r f) (hd : r.dep = 0) : f = [] := by
  cases h with
  | lt _ => rfl
  | say _ => rfl
  | blk _ _ => cases hd
end
theorem sg_div (sg : Sg) : sg.nm = ("/" : Str) ↔ sg = .div := by
  cases sg
  all_goals (constructor <;> intro h <;> first | rfl | exact absurd h (by decide +kernel) | cases h)
theorem take_ct {rs : List Row} {i : Nat} {r : Row} (h : rs[i]? = some r) : cnts (rs.take i) + r.cnt ≤ cnts rs := by
  have e := List.take_append_drop (i + 1) rs
  have := congrArg cnts e
  rw [cnts_append, take_succ h, cnts_append, cnts, cnts] at this
  omega
section
variable {P : Program} {w : World} {K : PySem.W.Frag} {mg : Str → Option Value} {base : Heap}
/-- a search down the rows: f of the rows, true where some row is so -/
def spFind (n : Nat) (f : List Row → Bool) : Sp := fun vs H Q _ => ∃ (a : Addr) (rs : List Row) (fp : List Addr), vs = [.ref a] ∧ RowsIn H a rs fp ∧ deps rs ≤ n ∧ ∀ H', Same H H' → Q (.bl (f rs)) H'
theorem mfs_at {rs : List Row} {i : Nat} {r : Row} (h : rs[i]? = some r) (hr : r.mf = true) : mfs rs = true := by
  have e := List.take_append_drop (i + 1) rs
  rw [← e, mfs_append, take_succ h, mfs_append, mfs_one, hr]
  simp
theorem sps_at {rs : List Row} {i : Nat} {r : Row} (h : rs[i]? = some r) (hr : r.sp = true) : sps rs = true := by
  have e := List.take_append_drop (i + 1) rs
  rw [← e, sps_append, take_succ h, sps_append, sps_one, hr]
  simp
theorem mfs_no {rs : List Row} {i : Nat} {r : Row} (h : rs[i]? = some r) (h0 : mfs (rs.take i) = false) (hr : r.mf = false) : mfs (rs.take (i + 1)) = false := by
  rw [take_succ h, mfs_append, mfs_one, h0, hr]
  rfl
theorem sps_no {rs : List Row} {i : Nat} {r : Row} (h : rs[i]? = some r) (h0 : sps (rs.take i) = false) (hr : r.sp = false) : sps (rs.take (i + 1)) = false := by
  rw [take_succ h, sps_append, sps_one, h0, hr]
  rfl
theorem divs_no {sg : Sg} {y : Key} (h : ¬ sg = .div) : divs sg y = false := by
  unfold divs
  rw [decide_eq_false h]
  rfl
end
theorem keyOk_all {ns : List Str} : True := trivial
mutual
theorem Row.rd_ok {ns : List Str} : ∀ {r : Row}, RowOk ns r → ∀ k ∈ r.rd, KeyOk ns k
  | .lt _ _ x y, h, k, hk => by
    rw [RowOk] at h
    rw [Row.rd] at hk
    rcases List.mem_cons.mp hk with rfl | hk
    · exact h.2.1
    · rw [List.mem_singleton] at hk
      exact hk ▸ h.2.2
  | .say x, h, k, hk => by
    rw [RowOk] at h
    rw [Row.rd, List.mem_singleton] at hk
    exact hk ▸ h
  | .blk _ s rs, h, k, hk => by
    rw [RowOk] at h
    rw [Row.rd] at hk
    rcases List.mem_cons.mp hk with rfl | hk
    · exact h.1
    · exact rds_ok h.2 k hk
theorem rds_ok {ns : List Str} : ∀ {rs : List Row}, RowsOk ns rs → ∀ k ∈ rds rs, KeyOk ns k
  | [], _, k, hk => by rw [rds] at hk; exact nomatch hk
  | r :: rs, h, k, hk => by
    rw [RowsOk] at h
    rw [rds] at hk
    rcases List.mem_append.mp hk with hk | hk
    · exact Row.rd_ok h.1 k hk
    · exact rds_ok h.2 k hk
end
mutual
theorem Row.st_ok {ns : List Str} : ∀ {r : Row}, RowOk ns r → ∀ k ∈ r.st, KeyOk ns k ∧ isS k = true
  | .lt to _ x y, h, k, hk => by
    rw [RowOk] at h
    rw [Row.st, List.mem_singleton] at hk
    subst hk
    exact ⟨h.1, rfl⟩
  | .say x, h, k, hk => by rw [Row.st] at hk; exact nomatch hk
  | .blk _ s rs, h, k, hk => by
    rw [RowOk] at h
    rw [Row.st] at hk
    exact sts_ok h.2 k hk
theorem sts_ok {ns : List Str} : ∀ {rs : List Row}, RowsOk ns rs → ∀ k ∈ sts rs, KeyOk ns k ∧ isS k = true
  | [], _, k, hk => by rw [sts] at hk; exact nomatch hk
  | r :: rs, h, k, hk => by
    rw [RowsOk] at h
    rw [sts] at hk
    rcases List.mem_append.mp hk with hk | hk
    · exact Row.st_ok h.1 k hk
    · exact sts_ok h.2 k hk
end
theorem names_ok {ns : List Str} {b : Bool} {rs : List Row} (h : RowsOk ns rs) : ∀ k ∈ names b rs, ∃ s ∈ ns, k = .inr s := by
  intro k hk
  have e : KeyOk ns k ∧ isS k = true := by
    unfold names at hk
    split at hk
    · obtain ⟨h1, h2⟩ := List.mem_filter.mp hk
      exact ⟨rds_ok h k h1, h2⟩
    · exact sts_ok h k hk
  cases k with
  | inl i => cases e.2
  | inr s => exact ⟨s, e.1, rfl⟩
theorem strs_of : ∀ {l : List Key}, (∀ k ∈ l, isS k = true) → ∃ ks : List Str, l = ks.map Sum.inr
  | [], _ => ⟨[], rfl⟩
  | .inl i :: r, h => by cases h (.inl i) List.mem_cons_self
  | .inr s :: r, h => by
    obtain ⟨ks, e⟩ := strs_of (l := r) fun k hk => h k (List.mem_cons_of_mem _ hk)
    exact ⟨s :: ks, by rw [e]; rfl⟩
theorem nodup_inr {ks : List Str} (h : (ks.map (Sum.inr : Str → Key)).Nodup) : ks.Nodup := by
  rw [List.Nodup, List.pairwise_map] at h
  exact h.imp fun n e => n (congrArg _ e)
/-- the sorted list of the names in a dict's keys -/
theorem sorted_names {ns : List Str} {ks : List Key} (h : ∀ k ∈ ks, ∃ s ∈ ns, k = .inr s) (hn : ns.length ≤ 60) : ∃ xs : List Str, (putAll [] ks).map (·.1) = xs.map Sum.inr ∧ xs.length < 64 ∧ xs.Nodup ∧ ∀ s, s ∈ xs ↔ .inr s ∈ ks := by
  have hm : ∀ k, k ∈ (putAll [] ks).map (·.1) ↔ k ∈ ks := fun k => by rw [putAll_mem]; simp
  obtain ⟨xs, e⟩ := strs_of (l := (putAll [] ks).map (·.1)) fun k hk => by
    obtain ⟨s, _, rfl⟩ := h k ((hm k).mp hk)
    rfl
  have nd : xs.Nodup := nodup_inr (e ▸ putAll_nd ks [] .nil)
  have ms : ∀ s, s ∈ xs ↔ .inr s ∈ ks := fun s => by
    rw [← hm, e]
    simp
  refine ⟨xs, e, ?_, nd, ms⟩
  have := List.Nodup.length_le_of_subset nd (l₂ := ns) fun s hs => by
    obtain ⟨s', h1, h2⟩ := h _ ((ms s).mp hs)
    exact (Sum.inr.inj h2) ▸ h1
  omega
section
variable {P : Program} {w : World} {K : PySem.W.Frag} {mg : Str → Option Value} {base : Heap}
/-- reads, sets: the sorted list of the names -/
def spNamesOf (n : Nat) (b : Bool) : Sp := fun vs H Q _ => ∃ (a : Addr) (ns : List Str) (rs : List Row) (fp : List Addr), vs = [.ref a] ∧ RowsIn H a rs fp ∧ deps rs ≤ n ∧ cnts rs ≤ 100000 ∧ RowsOk ns rs ∧ ns.length ≤ 60 ∧
  ∀ (p : Addr) (H' : Hp) (ys : List Str), Same H H' → H p = none → H' p = some (.lst (ys.map V.str)) → sortedS ys = true → ys.Nodup → (∀ s, s ∈ ys ↔ .inr s ∈ names b rs) → Q (.ref p) H'
/-- the law's own walks: keys are put into the dict at d, which is handed back -/
def spPuts (n : Nat) (f : List Row → List Key) : Sp := fun vs H Q _ => ∃ (a d : Addr) (rs : List Row) (fp : List Addr) (kvs : List (Key × V)), vs = [.ref a, .ref d] ∧ RowsIn H a rs fp ∧ deps rs ≤ n ∧ H d = some (.dK kvs) ∧ kvs.length + 2 * cnts rs ≤ 200000 ∧
  ∀ H', But1 d H H' → H' d = some (.dK (putAll kvs (f rs))) → Q (.ref d) H'
end
/-! ### the law itself -/
theorem cut_from (xs : List V) (k : Nat) : cutV xs (some (k : Int)) none = xs.drop k := by
  unfold cutV
  rw [HT.sIx_nat, HT.sIx_none]
  by_cases h : k ≤ xs.length
  · rw [Nat.min_eq_left h, List.take_of_length_le (by rw [List.length_drop]; omega)]
  · rw [Nat.min_eq_right (by omega), List.drop_of_length_le (Nat.le_refl _), List.drop_of_length_le (by omega), List.take_nil]
theorem drop_ints (ns : List Int) (k : Nat) : cutV (ns.map V.int) (some (k : Int)) none = (ns.drop k).map V.int := by rw [cut_from, List.map_drop]
theorem cut_to_n (xs : List V) (k : Nat) : cutV xs none (some (k : Int)) = xs.take k := by
  unfold cutV
  rw [HT.sIx_nat, HT.sIx_none, List.drop_zero, Nat.sub_zero]
  by_cases h : k ≤ xs.length
  · rw [Nat.min_eq_left h]
  · rw [Nat.min_eq_right (by omega), List.take_of_length_le (by omega), List.take_of_length_le (by omega)]
theorem cut_ints (ns : List Int) (lo hi : Option Int) : ∃ ms : List Int, cutV (ns.map V.int) lo hi = ms.map V.int ∧ ms.length ≤ ns.length := by
  unfold cutV
  refine ⟨_, by rw [← List.map_drop, ← List.map_take], ?_⟩
  rw [List.length_take, List.length_drop]
  omega
/-- rows as data -/
def kD : Key → PyData
  | .inl i => .int i
  | .inr s => .str s
mutual
def Row.d : Row → PyData
  | .lt to sg x y => .tuple [.str "let", .str to, .str sg.nm, kD x, kD y]
  | .say x => .tuple [.str "say", kD x]
  | .blk kd s rs => .tuple [.str kd.nm, .str s, .list (rowsD rs)]
def rowsD : List Row → List PyData
  | [] => []
  | r :: rs => r.d :: rowsD rs
end
theorem rowsD_len : ∀ rs : List Row, (rowsD rs).length = rs.length
  | [] => rfl
  | r :: rs => by rw [rowsD, List.length_cons, List.length_cons, rowsD_len rs]
theorem kD_dp {K : PySem.W.Frag} {H : Hp} (k : Key) : Dp K H (kV k) (kD k) := by
  cases k with
  | inl i => exact .int i
  | inr s => exact .str s
mutual
theorem RowIn.dp {K : PySem.W.Frag} {H : Hp} : ∀ {r : Row} {v : V} {f : List Addr}, RowIn H v r f → Dp K H v r.d
  | .lt _ _ x y, _, _, .lt h => by
    rw [Row.d]
    exact .tup (SqT.of h) (.cons (.str _) (.cons (.str _) (.cons (.str _) (.cons (kD_dp x) (.cons (kD_dp y) .nil)))))
  | .say x, _, _, .say h => by
    rw [Row.d]
    exact .tup (SqT.of h) (.cons (.str _) (.cons (kD_dp x) .nil))
  | .blk _ _ rs, _, _, .blk h hr => by
    rw [Row.d]
    exact .tup (SqT.of h) (.cons (.str _) (.cons (.str _) (.cons (RowsIn.dp (rs := rs) hr) .nil)))
theorem RowsIn.dp {K : PySem.W.Frag} {H : Hp} : ∀ {rs : List Row} {a : Addr} {f : List Addr}, RowsIn H a rs f → Dp K H (.ref a) (.list (rowsD rs))
  | rs, _, _, .mk h ha => .lst (SqL.of h) (AllIn.dp (rs := rs) ha)
theorem AllIn.dp {K : PySem.W.Frag} {H : Hp} : ∀ {rs : List Row} {vs : List V} {f : List Addr}, AllIn H vs rs f → DpAll K H vs (rowsD rs)
  | [], _, _, .nil => .nil
  | r :: rs, _, _, .cons h ha => by
    rw [rowsD]
    exact .cons (RowIn.dp (r := r) h) (AllIn.dp (rs := rs) ha)
end
theorem kD_plain (k : Key) (n : Nat) : PlainD n (kD k) := by
  cases k with
  | inl i => exact .int i
  | inr s => exact .str s
mutual
theorem Row.plain : ∀ {r : Row} {n : Nat}, r.dep ≤ n → r.cnt ≤ 100000 → PlainD (2 * n + 1) r.d
  | .lt _ _ x y, n, _, _ => by
    rw [Row.d]
    refine .tup (fun d hd => ?_) (by show 5 ≤ 100000; decide)
    simp only [List.mem_cons, List.not_mem_nil, or_false] at hd
    rcases hd with rfl | rfl | rfl | rfl | rfl
    · exact .str _
    · exact .str _
    · exact .str _
    · exact kD_plain x _
    · exact kD_plain y _
  | .say x, n, _, _ => by
    rw [Row.d]
    refine .tup (fun d hd => ?_) (by show 2 ≤ 100000; decide)
    simp only [List.mem_cons, List.not_mem_nil, or_false] at hd
    rcases hd with rfl | rfl
    · exact .str _
    · exact kD_plain x _
  | .blk _ _ rs, n, h, hc => by
    rw [Row.dep] at h
    rw [Row.cnt] at hc
    rw [Row.d]
    refine .tup (fun d hd => ?_) (by show 3 ≤ 100000; decide)
    simp only [List.mem_cons, List.not_mem_nil, or_false] at hd
    rcases hd with rfl | rfl | rfl
    · exact .str _
    · exact .str _
    · obtain ⟨m, rfl⟩ : ∃ m, n = m + 1 := ⟨n - 1, by omega⟩
      refine .lst (fun d hd => ?_) (by rw [rowsD_len]; have := len_cnts rs; omega)
      exact (rows_plain (rs := rs) (n := m) (by omega) (by omega) d hd).mono (Nat.le_refl _)
theorem rows_plain : ∀ {rs : List Row} {n : Nat}, deps rs ≤ n → cnts rs ≤ 100000 → ∀ d ∈ rowsD rs, PlainD (2 * n + 1) d
  | [], n, _, _, d, hd => by rw [rowsD] at hd; exact nomatch hd
  | r :: rs, n, h, hc, d, hd => by
    rw [deps] at h
    rw [cnts] at hc
    rw [rowsD] at hd
    rcases List.mem_cons.mp hd with rfl | hd
    · exact Row.plain (r := r) (by omega) (by omega)
    · exact rows_plain (rs := rs) (by omega) (by omega) d hd
end
theorem rowsD_plain {rs : List Row} {n : Nat} (h : deps rs ≤ n) (hc : cnts rs ≤ 100000) : PlainD (2 * n + 2) (.list (rowsD rs)) :=
  .lst (rows_plain h hc) (by rw [rowsD_len]; have := len_cnts rs; omega)
theorem strs_dp {K : PySem.W.Frag} {H : Hp} {a : Addr} {ys : List Str} (h : SqL K H a (ys.map V.str)) : Dp K H (.ref a) (.list (ys.map .str)) := by
  refine .lst h ?_
  clear h
  induction ys with
  | nil => exact .nil
  | cons y r ih => exact .cons (.str y) ih
theorem strs_plain {ys : List Str} (h : ys.length ≤ 100000) : PlainD 1 (.list (ys.map .str)) := .lst (fun d hd => by obtain ⟨y, _, rfl⟩ := List.mem_map.mp hd; exact .str y) (by rw [List.length_map]; exact h)
/-! ### is_name -/
theorem inV_lst (s : Str) : ∀ ys : List Str, inV (.str s) (ys.map V.str) = decide (s ∈ ys)
  | [] => rfl
  | y :: ys => by
    have ih := inV_lst s ys
    unfold inV at ih ⊢
    rw [List.map_cons, List.any_cons, ih]
    by_cases h : s = y
    · subst h
      simp [eqV]
    · simp [eqV, h, Ne.symm h]
section
variable {X : Cx} {a b c : Expr} {σ : L2.St} {H : Hp} {Q : VK} {QT : Bool → Hp → Prop} {pos : Pos}
theorem t_chain {op op' : CmpOp} (hm : lastMarks [op, op'] [b, c] = false) (h : WE X a σ H fun x H1 => WE X b σ H1 fun y H2 => WC X op x y H2 fun z H3 => ∃ k, z = .bl k ∧ if k = true then (WE X c σ H3 fun u H4 => WC X op' y u H4 fun z H5 => ∃ k, z = .bl k ∧ QT k H5) else ∃ j, V.bl false = .bl j ∧ QT j H3) : WT X (.Compare a [op, op'] [b, c] pos) σ H QT := fun pins s I => by
  have go : PT X (.Compare a [op, op'] [b, c] pos) (tTest (tChain (fun x y H Q => WC X op x y H Q) (fun x y H Q => WC X op' x y H Q) (WE X a) (WE X b) (WE X c))) :=
    pt_chain (fun pins s σ H x y v u Q I rx ry ⟨r, o, q⟩ => o pins s σ H x y v u Q I rx ry q) (fun pins s σ H x y v u Q I rx ry ⟨r, o, q⟩ => o pins s σ H x y v u Q I rx ry q) (pe X a) (pe X b) (pe X c) hm
  refine go.run pins s σ H QT I ?_
  refine WE.mono h fun x H1 h1 => WE.mono h1 fun y H2 ⟨r, o, q⟩ => ⟨r, o, ?_⟩
  exact q
theorem c_inSign {c : Nat} {z : Str} (q : Q (.bl (decide (c ∈ z.cps.toList))) H) : WC X .In (.str ⟨#[c]⟩) (.str z) H Q := ⟨_, op_in_sign, c, z, rfl, rfl, q⟩
end
def wordsR : List Str := ["say", "when", "loop", "again", "end"]
theorem reserved_iff (z : Str) : (reserved.any fun r => r == z.cps.toList) = decide (z ∈ wordsR) := by
  have key : ∀ (l : List Nat) (w : Str), w = tx l → (l == z.cps.toList) = decide (z = w) := fun l w e => by
    subst e
    by_cases h : z = tx l
    · rw [decide_eq_true h, h]
      exact beq_self_eq_true l
    · rw [decide_eq_false h]
      exact beq_eq_false_iff_ne.mpr fun e => h (by rw [e]; exact tx_of z)
  unfold reserved wordsR
  simp only [List.any_cons, List.any_nil, Bool.or_false]
  rw [key _ "say" (by decide +kernel), key _ "when" (by decide +kernel), key _ "loop" (by decide +kernel), key _ "again" (by decide +kernel), key _ "end" (by decide +kernel)]
  simp only [List.mem_cons, List.not_mem_nil, or_false, Bool.decide_or]
def abc : List Nat := ("abcdefghijklmnopqrstuvwxyz" : Str).cps.toList
theorem abc_eq : abc = (List.range 26).map (97 + ·) := by decide +kernel
theorem abc_iff (c : Nat) : (Nat.ble 97 c && Nat.ble c 122) = decide (c ∈ abc) := by
  rw [abc_eq]
  by_cases h : 97 ≤ c ∧ c ≤ 122
  · rw [Nat.ble_eq_true_of_le h.1, Nat.ble_eq_true_of_le h.2, decide_eq_true]
    · rfl
    · exact List.mem_map.mpr ⟨c - 97, List.mem_range.mpr (by omega), by omega⟩
  · rw [decide_eq_false]
    · rw [Bool.and_eq_false_iff]
      by_cases h1 : 97 ≤ c
      · right
        rw [Bool.eq_false_iff]
        exact fun e => h ⟨h1, Nat.le_of_ble_eq_true e⟩
      · left
        rw [Bool.eq_false_iff]
        exact fun e => h1 (Nat.le_of_ble_eq_true e)
    · intro hm
      obtain ⟨k, hk, e⟩ := List.mem_map.mp hm
      have := List.mem_range.mp hk
      replace e : 97 + k = c := e
      omega
def okLen (z : Str) : Bool := Nat.ble 1 z.length && Nat.ble z.length 6
theorem okLen_iff (z : Str) : okLen z = true ↔ 1 ≤ z.length ∧ z.length ≤ 6 := by
  unfold okLen
  rw [Bool.and_eq_true]
  exact ⟨fun h => ⟨Nat.le_of_ble_eq_true h.1, Nat.le_of_ble_eq_true h.2⟩, fun h => ⟨Nat.ble_eq_true_of_le h.1, Nat.ble_eq_true_of_le h.2⟩⟩
theorem isName_eq (z : Str) : isName z = (okLen z && !decide (z ∈ wordsR) && z.cps.toList.all fun c => decide (c ∈ abc)) := by
  have e : (z.cps.toList.all fun c => Nat.ble 97 c && Nat.ble c 122) = z.cps.toList.all fun c => decide (c ∈ abc) := by
    congr 1
    funext c
    exact abc_iff c
  have hl : z.cps.toList.length = z.length := Array.length_toList
  unfold isName nameL okLen
  rw [reserved_iff, e, hl]
  cases (Nat.ble 1 z.length && Nat.ble z.length 6) <;> cases decide (z ∈ wordsR) <;> cases (z.cps.toList.all fun c => decide (c ∈ abc)) <;> rfl
/-- all signs of a text, asked one by one -/
theorem all_signs (z : Str) (p : Nat → Bool) : ((List.range z.cps.size).map fun i => p (z.cps.toList.getD i 0)).all _root_.id = z.cps.toList.all p := by
  have hl : z.cps.toList.length = z.cps.size := Array.length_toList
  rw [← hl]
  generalize z.cps.toList = l
  rw [List.all_map]
  induction l with
  | nil => rfl
  | cons c r ih =>
    rw [List.length_cons, List.range_succ_eq_map, List.all_cons, List.all_map, List.all_cons]
    show (p c && (List.range r.length).all fun i => p (r.getD i 0)) = _
    rw [show ((List.range r.length).all fun i => p (r.getD i 0)) = r.all p from ih]
section
variable {P : Program} {w : World} {K : PySem.W.Frag} {mg : Str → Option Value} {base : Heap}
def spIsName : Sp := fun vs H Q _ => ∃ z : Str, vs = [.str z] ∧ z.length ≤ 100000 ∧ ∀ H', Same H H' → Q (.bl (isName z)) H'
theorem ok_is_name (T : Txt K mg) : CallOk P w K mg base 1 "is_name" ["thing"] spIsName := by
  refine go_p_is_name T.d_p_is_name (fun vs H Q E h => ?_) ?_
  · obtain ⟨z, rfl, _⟩ := h
    rfl
  intro X e1 e2 e3 e4 e5 C sc hr vs H Q E h
  subst e1 e2 e3 e4 e5
  obtain ⟨z, rfl, hz, q⟩ := h
  have b1 := T.b_isinstance
  have b2 := T.b_str
  have b3 := T.b_len
  have b4 := T.b_all
  obtain ⟨aw, mW, hW⟩ := T.c_WORDS
  obtain ⟨tL, mL⟩ := T.c_LETTERS
  show WSs X _ _ [some (.str z), none] H
  refine s_cons ?_
  refine s_if ?_
  refine WT.mono (Q := fun k H1 => H1 = H ∧ k = !(okLen z && !decide (z ∈ wordsR))) ?_ ?_
  · wtm_at "lm"
    refine t_chain (by with_unfolding_all rfl) ?_
    wtm_at "lm"
    refine k_lenS (sz (by omega)) ?_
    wtm_at "lm"
    refine ite_dec (fun c1 => ?_) (fun c1 => ?_)
    · wtm_at "lm"
      refine ite_ndec (fun c2 => ?_) (fun c2 => ?_)
      · have : okLen z = false := by rw [Bool.eq_false_iff]; exact fun e => by have := (okLen_iff z).mp e; omega
        exact ⟨rfl, by rw [this]; rfl⟩
      · have : okLen z = true := (okLen_iff z).mpr ⟨by omega, by omega⟩
        wtm_at "lm"
        refine ⟨rfl, ?_⟩
        rw [this, show ([V.str "say", V.str "when", V.str "loop", V.str "again", V.str "end"] : List V) = wordsR.map V.str from rfl, inV_lst]
        simp
    · have : okLen z = false := by rw [Bool.eq_false_iff]; exact fun e => by have := (okLen_iff z).mp e; omega
      wtm_at "lm"
      exact ⟨rfl, by rw [this]; rfl⟩
  · rintro k _ ⟨rfl, rfl⟩
    by_cases c : (okLen z && !decide (z ∈ wordsR)) = true
    · rw [c]
      wtm_at "lm"
      refine w_lc (i := 1) C (by decide +kernel) (by rw [sc]; exact blkOk_by (by decide +kernel)) rfl (by wtm_at "lm.wip") (wi_str ?_)
      wtm_at "lm"
      have zs : z.cps.size < 1000000 := by show z.length < _; omega
      refine lc_vals (walk_str (z := z)) (fun i => .bl (decide (z.cps.toList.getD i 0 ∈ abc))) zs (fun _ _ => trivial) (fun i y H2 hi hy s2 => ?_) fun l H2 hl s2 h2 => ?_
      · obtain ⟨c', hc', rfl⟩ := hy
        refine ⟨_, by wtm_at "lm.put", fun Y hY => ?_⟩
        have CY := hY.fr (L' := ["sign"]) (Vs' := ["sign"]) (G' := ["LETTERS"]) C (by decide +kernel)
        have mY : Y.mg "LETTERS" = some (.str "abcdefghijklmnopqrstuvwxyz" tL) := by rw [hY.eq.mg]; exact mL
        wtm_at "lm"
        refine c_inSign ⟨Same.refl _, ?_⟩
        have : z.cps.toList.getD i 0 = c' := by
          rw [List.getD_eq_getElem?_getD, Array.getElem?_toList, hc']
          rfl
        rw [this]
        rfl
      have h2' : H2 l = some (.lst (((List.range z.cps.size).map fun i => decide (z.cps.toList.getD i 0 ∈ abc)).map V.bl)) := by rw [h2, List.map_map]; rfl
      wtm_at "lm"
      refine k_all C (SqL.of h2') ?_
      rw [all_signs z fun c => decide (c ∈ abc)]
      have := q H2 s2
      rw [isName_eq, c, Bool.true_and] at this
      exact this
    · rw [Bool.eq_false_iff.mpr c]
      wtm_at "lm"
      have := q _ (Same.refl _)
      rw [isName_eq, Bool.eq_false_iff.mpr c] at this
      exact this
end
/-! ### value_of, row_of -/
def figs : List Nat := ("0123456789" : Str).cps.toList
theorem figs_eq : figs = (List.range 10).map (48 + ·) := by decide +kernel
theorem figs_iff (c : Nat) : c ∈ figs ↔ 48 ≤ c ∧ c ≤ 57 := by
  rw [figs_eq]
  constructor
  · intro hm
    obtain ⟨k, hk, e⟩ := List.mem_map.mp hm
    have := List.mem_range.mp hk
    replace e : 48 + k = c := e
    omega
  · intro h
    exact List.mem_map.mpr ⟨c - 48, List.mem_range.mpr (by omega), by omega⟩
def allFigs (z : Str) : Bool := z.cps.toList.all fun c => decide (c ∈ figs)
def noughtAhead (z : Str) : Bool := decide (z.cps.toList.head? = some 48) && decide (1 < z.length)
def valueOf (z : Str) : Option Key :=
  if isName z = true then some (.inr z)
  else if (okLen z && allFigs z) = true then if noughtAhead z = true then none else some (.inl (NumText.digitsVal z.cps.toList : Nat))
  else none
def oV : Option Key → V
  | none => .non
  | some k => kV k
theorem kV_ne (k : Key) : kV k ≠ .non := by cases k <;> exact fun e => nomatch e
theorem oV_non (o : Option Key) : decide (oV o = V.non) = o.isNone := by
  cases o with
  | none => exact decide_eq_true rfl
  | some k => exact decide_eq_false (kV_ne k)
theorem k_intS {X : Cx} {H : Hp} {Q : VK} {z : Str} {n : Int} (h : intText? z = some n) (hl : z.length ≤ 640) (q : Q (.int n) H) : WB1 X (.type "int") [.str z] H Q := ⟨_, call_int_str, z, n, rfl, h, hl, q⟩
theorem kd_dec (u : Str) : (∃ kd : Kd, u = kd.nm ∧ inV (.str u) [V.str "when", .str "loop", .str "again"] = true) ∨ (inV (.str u) [V.str "when", .str "loop", .str "again"] = false ∧ ∀ kd : Kd, u ≠ kd.nm) := by
  by_cases h1 : u = "when"
  · exact .inl ⟨.whn, h1, by rw [h1]; exact in_blocks .whn⟩
  by_cases h2 : u = "loop"
  · exact .inl ⟨.lop, h2, by rw [h2]; exact in_blocks .lop⟩
  by_cases h3 : u = "again"
  · exact .inl ⟨.agn, h3, by rw [h3]; exact in_blocks .agn⟩
  refine .inr ⟨?_, fun kd e => ?_⟩
  · rw [show ([V.str "when", V.str "loop", V.str "again"] : List V) = (["when", "loop", "again"] : List Str).map V.str from rfl, inV_lst]
    simp [h1, h2, h3]
  · cases kd
    · exact h1 e
    · exact h2 e
    · exact h3 e
def kdOf (u : Str) : Option Kd := if u = "when" then some .whn else if u = "loop" then some .lop else if u = "again" then some .agn else none
theorem kdOf_nm (kd : Kd) : kdOf kd.nm = some kd := by cases kd <;> decide +kernel
theorem kdOf_none {u : Str} (h : ∀ kd : Kd, u ≠ kd.nm) : kdOf u = none := by
  unfold kdOf
  rw [if_neg (show ¬ u = "when" from h .whn), if_neg (show ¬ u = "loop" from h .lop), if_neg (show ¬ u = "again" from h .agn)]
def sgOf (u : Str) : Option Sg := if u = "+" then some .add else if u = "-" then some .sub else if u = "*" then some .mul else if u = "<" then some .lss else if u = "/" then some .div else none
theorem sgOf_nm (sg : Sg) : sgOf sg.nm = some sg := by cases sg <;> decide +kernel
theorem sg_dec (u : Str) : (∃ sg : Sg, u = sg.nm ∧ inV (.str u) [V.str "+", .str "-", .str "*", .str "<", .str "/"] = true) ∨ (inV (.str u) [V.str "+", .str "-", .str "*", .str "<", .str "/"] = false ∧ sgOf u = none) := by
  by_cases h1 : u = "+"
  · exact .inl ⟨.add, h1, by rw [h1]; decide +kernel⟩
  by_cases h2 : u = "-"
  · exact .inl ⟨.sub, h2, by rw [h2]; decide +kernel⟩
  by_cases h3 : u = "*"
  · exact .inl ⟨.mul, h3, by rw [h3]; decide +kernel⟩
  by_cases h4 : u = "<"
  · exact .inl ⟨.lss, h4, by rw [h4]; decide +kernel⟩
  by_cases h5 : u = "/"
  · exact .inl ⟨.div, h5, by rw [h5]; decide +kernel⟩
  refine .inr ⟨?_, ?_⟩
  · rw [show ([V.str "+", V.str "-", V.str "*", V.str "<", V.str "/"] : List V) = (["+", "-", "*", "<", "/"] : List Str).map V.str from rfl, inV_lst]
    simp [h1, h2, h3, h4, h5]
  · unfold sgOf
    rw [if_neg h1, if_neg h2, if_neg h3, if_neg h4, if_neg h5]
def rowOf : List Str → Option Row
  | [u, v] => match kdOf u with
    | some kd => if isName v = true then some (.blk kd v []) else none
    | none => if u = "say" then (valueOf v).map .say else none
  | [to, e, x, g, y] => if isName to = true ∧ e = "=" then match sgOf g, valueOf x, valueOf y with
    | some sg, some a, some b => some (.lt to sg a b)
    | _, _, _ => none
    else none
  | _ => none
section
variable {P : Program} {w : World} {K : PySem.W.Frag} {mg : Str → Option Value} {base : Heap}
def spValueOf : Sp := fun vs H Q _ => ∃ z : Str, vs = [.str z] ∧ z.length ≤ 100000 ∧ ∀ H', Same H H' → Q (oV (valueOf z)) H'
theorem ok_value_of (T : Txt K mg) : CallOk P w K mg base 2 "value_of" ["word"] spValueOf := by
  have G1 : CallOk P w K mg base 1 "is_name" ["thing"] spIsName := ok_is_name T
  refine go_p_value_of T.d_p_value_of (fun vs H Q E h => ?_) ?_
  · obtain ⟨z, rfl, _⟩ := h
    rfl
  intro X e1 e2 e3 e4 e5 C sc hr vs H Q E h
  subst e1 e2 e3 e4 e5
  obtain ⟨z, rfl, hz, q⟩ := h
  have b3 := T.b_len
  have b4 := T.b_all
  have b5 := T.b_int
  obtain ⟨tF, mF⟩ := T.c_FIGURES
  have hl : z.cps.toList.length = z.length := Array.length_toList
  show WSs X _ _ [some (.str z), none] H
  refine s_cons ?_
  wtm_at "lm"
  refine ⟨z, rfl, hz, fun H1 s1 => ?_⟩
  wtm_at "lm"
  by_cases c0 : isName z = true
  · rw [c0]
    wtm_at "lm"
    have := q H1 s1
    unfold valueOf at this
    rw [if_pos c0] at this
    exact this
  rw [Bool.eq_false_iff.mpr c0]
  wtm_at "lms"
  refine s_cons ?_
  refine s_if ?_
  refine WT.mono (Q := fun k H2 => Same H H2 ∧ k = !(okLen z && allFigs z)) ?_ ?_
  · wtm_at "lm"
    refine t_chain (by with_unfolding_all rfl) ?_
    wtm_at "lm"
    refine k_lenS (sz (by omega)) ?_
    wtm_at "lm"
    refine ite_dec (fun c1 => ?_) (fun c1 => ?_)
    · wtm_at "lm"
      refine ite_ndec (fun c2 => ?_) (fun c2 => ?_)
      · have : okLen z = false := by rw [Bool.eq_false_iff]; exact fun e => by have := (okLen_iff z).mp e; omega
        exact ⟨s1, by rw [this]; rfl⟩
      · have ol : okLen z = true := (okLen_iff z).mpr ⟨by omega, by omega⟩
        wtm_at "lm"
        refine w_lc (i := 1) C (by decide +kernel) (by rw [sc]; exact blkOk_by (by decide +kernel)) rfl (by wtm_at "lm.wip") (wi_str ?_)
        wtm_at "lm"
        have zs : z.cps.size < 1000000 := by show z.length < _; omega
        refine lc_vals (walk_str (z := z)) (fun i => .bl (decide (z.cps.toList.getD i 0 ∈ figs))) zs (fun _ _ => trivial) (fun i y H2 hi hy s2 => ?_) fun l H2 hl2 s2 h2 => ?_
        · obtain ⟨c', hc', rfl⟩ := hy
          refine ⟨_, by wtm_at "lm.put", fun Y hY => ?_⟩
          have CY := hY.fr (L' := ["sign"]) (Vs' := ["sign"]) (G' := ["FIGURES"]) C (by decide +kernel)
          have mY : Y.mg "FIGURES" = some (.str "0123456789" tF) := by rw [hY.eq.mg]; exact mF
          wtm_at "lm"
          refine c_inSign ⟨Same.refl _, ?_⟩
          have : z.cps.toList.getD i 0 = c' := by
            rw [List.getD_eq_getElem?_getD, Array.getElem?_toList, hc']
            rfl
          rw [this]
          rfl
        have h2' : H2 l = some (.lst (((List.range z.cps.size).map fun i => decide (z.cps.toList.getD i 0 ∈ figs)).map V.bl)) := by rw [h2, List.map_map]; rfl
        wtm_at "lm"
        refine k_all C (SqL.of h2') ?_
        rw [all_signs z fun c => decide (c ∈ figs)]
        wtm_at "lm"
        exact ⟨s1.trans s2, by rw [ol]; rfl⟩
    · have : okLen z = false := by rw [Bool.eq_false_iff]; exact fun e => by have := (okLen_iff z).mp e; omega
      wtm_at "lm"
      exact ⟨s1, by rw [this]; rfl⟩
  · rintro k H2 ⟨s2, rfl⟩
    by_cases c1 : (okLen z && allFigs z) = true
    · rw [c1]
      have ol := (okLen_iff z).mp (Bool.and_eq_true_iff.mp c1).1
      have af := (Bool.and_eq_true_iff.mp c1).2
      obtain ⟨c, r, ec⟩ : ∃ c r, z.cps.toList = c :: r := by
        cases e : z.cps.toList with
        | nil => rw [e] at hl; replace hl : 0 = z.length := hl; omega
        | cons c r => exact ⟨c, r, rfl⟩
      have e0 : atI z.cps.toList 0 = some c := by rw [ec]; exact (atI_nat (by rfl) : atI (c :: r) ((0 : Nat) : Int) = some c)
      have eh : z.cps.toList.head? = some c := by rw [ec]; rfl
      wtm_at "lms"
      refine s_cons ?_
      refine s_if ?_
      refine WT.mono (Q := fun k H3 => H3 = H2 ∧ k = noughtAhead z) ?_ ?_
      · wtm_at "lm"
        refine i_str (sz (by omega)) e0 ?_
        wtm_at "lm"
        have e48 : ("0" : Str) = tx [48] := by decide +kernel
        refine ite_dec (fun c2 => ?_) (fun c2 => ?_)
        · rw [e48] at c2
          have c3 : c = 48 := by
            have := tx_inj (l := [c]) c2
            simpa using this
          wtm_at "lm"
          refine k_lenS (sz (by omega)) ?_
          wtm_at "lm"
          refine ⟨rfl, ?_⟩
          unfold noughtAhead
          rw [eh, c3, decide_eq_true rfl, Bool.true_and, decide_eq_decide]
          omega
        · refine ⟨rfl, ?_⟩
          unfold noughtAhead
          rw [eh, decide_eq_false fun e => c2 (by rw [Option.some.inj e]; exact e48.symm), Bool.false_and]
      · rintro k _ ⟨rfl, rfl⟩
        by_cases c2 : noughtAhead z = true
        · rw [c2]
          wtm_at "lm"
          have := q _ s2
          unfold valueOf at this
          rw [if_neg c0, if_pos c1, if_pos c2] at this
          exact this
        · rw [Bool.eq_false_iff.mpr c2]
          wtm_at "lm"
          have ad : NumText.AllDigits z.cps.toList := fun c hc => (figs_iff c).mp (of_decide_eq_true (List.all_eq_true.mp af c hc))
          refine k_intS (intText_digits ad (by rw [ec]; simp) (by omega)) (by omega) ?_
          have := q _ s2
          unfold valueOf at this
          rw [if_neg c0, if_pos c1, if_neg c2] at this
          exact this
    · rw [Bool.eq_false_iff.mpr c1]
      wtm_at "lm"
      have := q _ s2
      unfold valueOf at this
      rw [if_neg c0, if_neg c1] at this
      exact this
end
section
variable {P : Program} {w : World} {K : PySem.W.Frag} {mg : Str → Option Value} {base : Heap}
def spRowOf (K : PySem.W.Frag) : Sp := fun vs H Q _ => ∃ (a : Addr) (ws : List Str), vs = [.ref a] ∧ SqL K H a (ws.map V.str) ∧ ws.length ≤ 100000 ∧ (∀ z ∈ ws, z.length ≤ 100000) ∧
  (rowOf ws = none → ∀ H', Same H H' → Q .non H') ∧
  (∀ r, rowOf ws = some r → ∀ (t : Addr) (H' : Hp) (fp : List Addr), Same H H' → RowIn H' (.ref t) r fp → (∀ l ∈ fp, H l = none) → Q (.ref t) H')
theorem ok_row_of (T : Txt K mg) : CallOk P w K mg base 3 "row_of" ["words"] (spRowOf K) := by
  have G1 : CallOk P w K mg base 1 "is_name" ["thing"] spIsName := ok_is_name T
  have G2 : CallOk P w K mg base 2 "value_of" ["word"] spValueOf := ok_value_of T
  refine go_p_row_of T.d_p_row_of (fun vs H Q E h => ?_) ?_
  · obtain ⟨a, ws, rfl, _⟩ := h
    rfl
  intro X e1 e2 e3 e4 e5 C sc hr vs H Q E h
  subst e1 e2 e3 e4 e5
  obtain ⟨a, ws, rfl, hS, hw, hz, q0, q1⟩ := h
  have b3 := T.b_len
  obtain ⟨aB, mB, hB⟩ := T.c_BLOCKS
  obtain ⟨aS, mS, hSg⟩ := T.c_SIGNS
  show WSs X _ _ [some (.ref a)] H
  by_cases h2 : ws.length = 2
  · obtain ⟨u, v, rfl⟩ : ∃ u v, ws = [u, v] := by
      rcases ws with _ | ⟨u, _ | ⟨v, _ | ⟨x, ws⟩⟩⟩
      · cases h2
      · cases h2
      · exact ⟨u, v, rfl⟩
      · exact absurd h2 (by simp)
    have zv : v.length ≤ 100000 := hz v (by simp)
    replace hS : SqL X.K H a [.str u, .str v] := hS
    rcases kd_dec u with ⟨kd, rfl, hin⟩ | ⟨hout, hno⟩
    · have er : rowOf [kd.nm, v] = if isName v = true then some (.blk kd v []) else none := by
        show (match kdOf kd.nm with | some kd => _ | none => _) = _
        rw [kdOf_nm]
      refine s_cons ?_
      refine s_if ?_
      refine WT.mono (Q := fun k H1 => Same H H1 ∧ k = isName v) ?_ ?_
      · wtm_at "lm"
        refine ⟨v, rfl, zv, fun H1 s1 => ?_⟩
        wtm_at "lm"
        exact ⟨s1, rfl⟩
      · rintro k H1 ⟨s1, rfl⟩
        have hS1 := s1.seq hS
        by_cases c : isName v = true
        · rw [c]
          rw [if_pos c] at er
          wtm_at "lm"
          intro l H2 hl s2 h2'
          wtm_at "lm"
          intro t H3 ht s3 h3
          exact q1 _ er t H3 [l] ((s1.trans s2).trans s3) (.blk h3 (.mk (s3 _ _ h2') .nil)) fun l' hl' => by rw [List.mem_singleton.mp hl']; exact s1.free hl
        · rw [Bool.eq_false_iff.mpr c]
          rw [if_neg c] at er
          have nsay := kd_say kd
          wtm_at "lm"
          exact q0 er _ s1
    · have er : rowOf [u, v] = if u = "say" then (valueOf v).map .say else none := by
        show (match kdOf u with | some kd => _ | none => _) = _
        rw [kdOf_none hno]
      refine s_cons ?_
      wtm_at "lm"
      rw [hout]
      wtm_at "lms"
      refine s_cons ?_
      refine s_if ?_
      refine WT.mono (Q := fun k H1 => Same H H1 ∧ k = (decide (u = "say") && (valueOf v).isSome)) ?_ ?_
      · wtm_at "lm"
        refine ite_dec (fun c => ?_) (fun c => ?_)
        · wtm_at "lm"
          refine ⟨v, rfl, zv, fun H1 s1 => ?_⟩
          wtm_at "lm"
          refine c_notN ?_
          wtm_at "lm"
          refine ⟨s1, ?_⟩
          rw [oV_non, decide_eq_true c]
          cases valueOf v <;> rfl
        · exact ⟨Same.refl _, by rw [decide_eq_false c]; rfl⟩
      · rintro k H1 ⟨s1, rfl⟩
        have hS1 := s1.seq hS
        by_cases c : u = "say"
        · rw [if_pos c] at er
          cases ev : valueOf v with
          | some k =>
            rw [ev] at er
            refine ite_bT (by rw [decide_eq_true c]; rfl) ?_
            wtm_at "lm"
            refine ⟨v, rfl, zv, fun H2 s2 => ?_⟩
            rw [ev]
            wtm_at "lm"
            intro t H3 ht s3 h3
            exact q1 _ er t H3 [] ((s1.trans s2).trans s3) (.say h3) fun l hl => nomatch hl
          | none =>
            rw [ev] at er
            refine ite_bF (by rw [decide_eq_true c]; rfl) ?_
            wtm_at "lm"
            exact q0 er _ s1
        · rw [if_neg c] at er
          refine ite_bF (by rw [decide_eq_false c]; rfl) ?_
          wtm_at "lm"
          exact q0 er _ s1
  have n2 : ¬ ((ws.map V.str).length : Int) = 2 := by rw [List.length_map]; omega
  refine s_cons ?_
  wtm_at "lm"
  refine ite_dec (fun c => absurd c n2) (fun _ => ?_)
  wtm_at "lm"
  refine ite_dec (fun c => absurd c n2) (fun _ => ?_)
  by_cases h5 : ws.length = 5
  · obtain ⟨to, e, x, g, y, rfl⟩ : ∃ to e x g y, ws = [to, e, x, g, y] := by
      rcases ws with _ | ⟨to, _ | ⟨e, _ | ⟨x, _ | ⟨g, _ | ⟨y, _ | ⟨z, ws⟩⟩⟩⟩⟩⟩
      · cases h5
      · cases h5
      · cases h5
      · cases h5
      · cases h5
      · exact ⟨to, e, x, g, y, rfl⟩
      · exact absurd h5 (by simp)
    have zt : to.length ≤ 100000 := hz to (by simp)
    have zx : x.length ≤ 100000 := hz x (by simp)
    have zy : y.length ≤ 100000 := hz y (by simp)
    replace hS : SqL X.K H a [.str to, .str e, .str x, .str g, .str y] := hS
    have er : rowOf [to, e, x, g, y] = if isName to = true ∧ e = "=" then (match sgOf g, valueOf x, valueOf y with | some sg, some a, some b => some (.lt to sg a b) | _, _, _ => none) else none := rfl
    wtm_at "lms"
    refine s_cons ?_
    refine s_if ?_
    refine WT.mono (Q := fun k H1 => Same H H1 ∧ k = !(isName to && decide (e = "=") && (sgOf g).isSome)) ?_ ?_
    · wtm_at "lm"
      refine ⟨to, rfl, zt, fun H1 s1 => ?_⟩
      have hS1 := s1.seq hS
      wtm_at "lm"
      by_cases c : isName to = true
      · rw [c]
        wtm_at "lm"
        refine ite_ndec (fun c1 => ?_) (fun c1 => ?_)
        · exact ⟨s1, by rw [decide_eq_false c1]; rfl⟩
        · wtm_at "lm"
          refine c_notInT (hSg _) rfl rfl ?_
          wtm_at "lm"
          refine ⟨s1, ?_⟩
          rw [decide_eq_true c1]
          rcases sg_dec g with ⟨sg, rfl, hg⟩ | ⟨hg, hn⟩
          · rw [hg, sgOf_nm]
            rfl
          · rw [hg, hn]
            rfl
      · rw [Bool.eq_false_iff.mpr c]
        wtm_at "lm"
        exact ⟨s1, rfl⟩
    · rintro k H1 ⟨s1, rfl⟩
      have hS1 := s1.seq hS
      by_cases c : (isName to && decide (e = "=") && (sgOf g).isSome) = true
      · rw [c]
        rw [Bool.and_eq_true_iff, Bool.and_eq_true_iff] at c
        obtain ⟨⟨c1, c2⟩, c3⟩ := c
        rw [if_pos ⟨c1, of_decide_eq_true c2⟩] at er
        obtain ⟨sg, esg⟩ := Option.isSome_iff_exists.mp c3
        rw [esg] at er
        have eg : g = sg.nm := by
          rcases sg_dec g with ⟨sg', rfl, _⟩ | ⟨_, hn⟩
          · rw [sgOf_nm] at esg
            rw [Option.some.inj esg]
          · rw [hn] at esg
            cases esg
        wtm_at "lms"
        refine s_cons ?_
        refine s_if ?_
        refine WT.mono (Q := fun k H2 => Same H H2 ∧ k = !((valueOf x).isSome && (valueOf y).isSome)) ?_ ?_
        · wtm_at "lm"
          refine ⟨x, rfl, zx, fun H2 s2 => ?_⟩
          have hS2 := s2.seq hS1
          wtm_at "lm"
          refine c_isN ?_
          rw [oV_non]
          cases ex : valueOf x with
          | none =>
            wtm_at "lm"
            exact ⟨s1.trans s2, rfl⟩
          | some kx =>
            rw [Option.isNone_some]
            wtm_at "lm"
            refine ⟨y, rfl, zy, fun H3 s3 => ?_⟩
            wtm_at "lm"
            refine c_isN ?_
            rw [oV_non]
            wtm_at "lm"
            refine ⟨(s1.trans s2).trans s3, ?_⟩
            cases valueOf y <;> rfl
        · rintro k H2 ⟨s2, rfl⟩
          have hS2 := s2.seq hS
          cases ex : valueOf x with
          | none =>
            rw [ex] at er
            refine ite_bT (by rfl) ?_
            wtm_at "lm"
            exact q0 er _ s2
          | some kx =>
            cases ey : valueOf y with
            | none =>
              rw [ex, ey] at er
              refine ite_bT (by rfl) ?_
              wtm_at "lm"
              exact q0 er _ s2
            | some ky =>
              rw [ex, ey] at er
              refine ite_bF (by rfl) ?_
              wtm_at "lm"
              refine ⟨x, rfl, zx, fun H3 s3 => ?_⟩
              have hS3 := s3.seq hS2
              rw [ex]
              wtm_at "lm"
              refine ⟨y, rfl, zy, fun H4 s4 => ?_⟩
              rw [ey]
              wtm_at "lm"
              intro t H5 ht s5 h5'
              rw [eg] at h5'
              exact q1 _ er t H5 [] (((s2.trans s3).trans s4).trans s5) (.lt h5') fun l hl => nomatch hl
      · rw [Bool.eq_false_iff.mpr c]
        have er2 : rowOf [to, e, x, g, y] = none := by
          rw [er]
          split
          · rename_i c1
            rw [c1.1, decide_eq_true c1.2, Bool.true_and, Bool.true_and] at c
            cases es : sgOf g with
            | none => rfl
            | some sg => rw [es] at c; exact absurd rfl c
          · rfl
        wtm_at "lm"
        exact q0 er2 _ s1
  · have n5 : ¬ ((ws.map V.str).length : Int) = 5 := by rw [List.length_map]; omega
    have er : rowOf ws = none := by
      rcases ws with _ | ⟨to, _ | ⟨e, _ | ⟨x, _ | ⟨g, _ | ⟨y, _ | ⟨z, ws⟩⟩⟩⟩⟩⟩
      · rfl
      · rfl
      · exact absurd rfl h2
      · rfl
      · rfl
      · exact absurd rfl h5
      · rfl
    wtm_at "lm"
    refine ite_ndec (fun _ => ?_) (fun c => absurd c n5)
    wtm_at "lm"
    exact q0 er _ (Same.refl _)
end
/-! ### the lines of a program: told, _law_lines -/
open TL
def kS : Key → Str
  | .inl i => Str.ofString (toString i)
  | .inr s => s
def lineOf : Row → Str
  | .lt to sg x y => to ++ " = " ++ kS x ++ " " ++ sg.nm ++ " " ++ kS y
  | .say x => ("say" : Str) ++ " " ++ kS x
  | .blk kd t _ => kd.nm ++ " " ++ t
def wordsOf : Row → List Str
  | .lt to sg x y => [to, "=", kS x, sg.nm, kS y]
  | .say x => ["say", kS x]
  | .blk kd t _ => [kd.nm, t]
theorem tl_blank : tl (" " : Str) = [32] := by decide +kernel
theorem lineOf_join (r : Row) : Txt.join (" " : Str) (wordsOf r) = lineOf r := by
  have e3 : tl (" = " : Str) = [32, 61, 32] := by decide +kernel
  have e1 : tl ("=" : Str) = [61] := by decide +kernel
  refine ext_tl ?_
  rw [join_eq, tl_join, tl_blank]
  cases r with
  | lt to sg x y =>
    show joinL [32] [tl to, tl "=", tl (kS x), tl sg.nm, tl (kS y)] = tl (to ++ " = " ++ kS x ++ " " ++ sg.nm ++ " " ++ kS y)
    rw [tl_append, tl_append, tl_append, tl_append, tl_append, tl_append, e3, e1, tl_blank]
    simp [joinL]
  | say x =>
    show joinL [32] [tl "say", tl (kS x)] = tl (("say" : Str) ++ " " ++ kS x)
    rw [tl_append, tl_append, tl_blank]
    simp [joinL]
  | blk kd t rs =>
    show joinL [32] [tl kd.nm, tl t] = tl (kd.nm ++ " " ++ t)
    rw [tl_append, tl_append, tl_blank]
    simp [joinL]
mutual
def Row.ln : Row → List Str
  | .lt to sg x y => [lineOf (.lt to sg x y)]
  | .say x => [lineOf (.say x)]
  | .blk kd t rs => lineOf (.blk kd t []) :: (lns rs ++ (["end"] : List Str))
def lns : List Row → List Str
  | [] => []
  | r :: rs => r.ln ++ lns rs
end
theorem lns_app : ∀ rs ss : List Row, lns (rs ++ ss) = lns rs ++ lns ss
  | [], ss => by rw [lns]; rfl
  | r :: rs, ss => by rw [List.cons_append, lns, lns, lns_app rs ss, List.append_assoc]
theorem lns_one (r : Row) : lns [r] = r.ln := by rw [lns, lns, List.append_nil]
mutual
theorem Row.ln_len : ∀ r : Row, r.ln.length ≤ 2 * r.cnt
  | .lt _ _ _ _ => by rw [Row.ln, Row.cnt]; show 1 ≤ 2 * 1; decide
  | .say _ => by rw [Row.ln, Row.cnt]; show 1 ≤ 2 * 1; decide
  | .blk _ _ rs => by
    have := lns_len rs
    rw [Row.ln, Row.cnt, List.length_cons, List.length_append]
    show (lns rs).length + 1 + 1 ≤ _
    omega
theorem lns_len : ∀ rs : List Row, (lns rs).length ≤ 2 * cnts rs
  | [] => by rw [lns]; exact Nat.zero_le _
  | r :: rs => by
    have h1 := Row.ln_len r
    have h2 := lns_len rs
    rw [lns, cnts, List.length_append]
    omega
end
/-- names and numbers are short, and hold no blank -/
theorem name_facts {s : Str} (h : isName s = true) : 1 ≤ s.length ∧ s.length ≤ 6 ∧ 32 ∉ tl s ∧ s ∉ wordsR := by
  rw [isName_eq, Bool.and_eq_true_iff, Bool.and_eq_true_iff] at h
  have hl := (okLen_iff s).mp h.1.1
  refine ⟨hl.1, hl.2, fun hm => ?_, fun hm => ?_⟩
  · have := of_decide_eq_true (List.all_eq_true.mp h.2 32 hm)
    rw [abc_eq] at this
    obtain ⟨k, _, e⟩ := List.mem_map.mp this
    replace e : 97 + k = 32 := e
    omega
  · rw [decide_eq_true hm] at h
    exact absurd h.1.2 (by decide)
theorem kS_facts {ns : List Str} (hn : ∀ s ∈ ns, isName s = true) {k : Key} (ok : KeyOk ns k) : 1 ≤ (kS k).length ∧ (kS k).length ≤ 6 ∧ 32 ∉ tl (kS k) := by
  cases k with
  | inr s => exact ⟨(name_facts (hn s ok)).1, (name_facts (hn s ok)).2.1, (name_facts (hn s ok)).2.2.1⟩
  | inl i =>
    obtain ⟨n, rfl⟩ : ∃ n : Nat, i = n := ⟨i.toNat, by have := ok.1; omega⟩
    have h1 : (n : Int) ≤ 999999 := ok.2
    have e : tl (kS (.inl (n : Int))) = numL n := tl_num n
    have l : (kS (.inl (n : Int))).length = (numL n).length := by rw [len_tl, e]
    refine ⟨?_, ?_, ?_⟩
    · rw [l]
      exact List.length_pos_iff.mpr (numL_ne n)
    · rw [l]
      exact numL_len (by decide) (by omega)
    · rw [e]
      exact numL_free (.inl (by decide))
theorem log_small {i : Int} (h0 : 0 ≤ i) (h1 : i ≤ 999999) : i.natAbs.log2 < 1920 := by
  by_cases h : i.natAbs = 0
  · rw [h]
    decide
  · rw [Nat.log2_lt h]
    exact Nat.lt_of_lt_of_le (show i.natAbs < 2 ^ 20 by omega) (Nat.pow_le_pow_right (by decide) (by decide))
theorem k_strK {X : Cx} {H : Hp} {Q : VK} {ns : List Str} {k : Key} (ok : KeyOk ns k) (q : Q (.str (kS k)) H) : WB1 X (.type "str") [kV k] H Q := by
  cases k with
  | inl i => exact k_str (log_small ok.1 ok.2) q
  | inr s => exact ⟨_, SkE.call_str_str, s, rfl, q⟩
theorem k_strS {X : Cx} {H : Hp} {Q : VK} {s : Str} (q : Q (.str s) H) : WB1 X (.type "str") [.str s] H Q := ⟨_, SkE.call_str_str, s, rfl, q⟩
theorem len_app (x y : Str) : (x ++ y).length = x.length + y.length := by rw [len_tl, len_tl, len_tl, tl_append, List.length_append]
theorem len_blank : (" " : Str).length = 1 := by decide +kernel
theorem len_is : (" = " : Str).length = 3 := by decide +kernel
theorem len_sg (sg : Sg) : sg.nm.length = 1 := by cases sg <;> decide +kernel
theorem len_kd (kd : Kd) : kd.nm.length ≤ 5 := by cases kd <;> decide +kernel
theorem len_say : ("say" : Str).length = 3 := by decide +kernel
section
variable {P : Program} {w : World} {K : PySem.W.Frag} {mg : Str → Option Value} {base : Heap}
def spTold (n : Nat) : Sp := fun vs H Q _ => ∃ (a : Addr) (rs : List Row) (fp : List Addr) (ns : List Str), vs = [.ref a] ∧ RowsIn H a rs fp ∧ deps rs ≤ n ∧ cnts rs ≤ 10000 ∧ RowsOk ns rs ∧ (∀ s ∈ ns, isName s = true) ∧
  ∀ (p : Addr) (H' : Hp), Same H H' → H p = none → H' p = some (.lst ((lns rs).map V.str)) → Q (.ref p) H'
end
section
variable {P : Program} {w : World} {K : PySem.W.Frag} {mg : Str → Option Value} {base : Heap}
theorem ok_llines (T : Txt K mg) (n : Nat) : CallOk P w K mg base (n + 1) "_law_lines" ["_law_rows"] (spTold n) := by
  induction n using Nat.strongRecOn with
  | ind n ih =>
    refine go_l_lines T.d_l_lines (fun vs H Q E h => ?_) ?_
    · obtain ⟨a, rs, fp, ns, rfl, _⟩ := h
      rfl
    intro X e1 e2 e3 e4 e5 C sc hr vs H Q E h
    subst e1 e2 e3 e4 e5
    obtain ⟨a, rs, fp, ns, rfl, hR, hd, hc, ok, hn, q⟩ := h
    show WSs X _ _ [some (.ref a), none, none] H
    have b1 := T.b_len
    have b2 := T.b_str
    cases hR with
    | @mk _ vs _ fp h ha =>
    have vl := ha.len
    refine s_cons ?_
    wtm_at "lm"
    intro D H1 hD s1 h1
    wtm_at "lm"
    refine wi_list ?_
    wtm_at "lm"
    refine for_l (fun i σ' H' => i ≤ vs.length ∧ ∃ (D : Addr) (o : Option V), σ' = [some (.ref a), some (.ref D), o] ∧ H D = none ∧ Same H H' ∧ H' D = some (.lst ((lns (rs.take i)).map V.str))) ⟨Nat.zero_le _, D, none, rfl, hD, s1, by rw [List.take_zero, lns]; exact h1⟩ (fun i σ' H' _ ⟨_, D, o, _, _, m, _⟩ => SqL.of (m _ _ h)) ?_ ?_
    · clear hD h1 s1 D H1
      rintro i v σ' H' hi ⟨_, D, o, rfl, hD, m, hD'⟩
      refine ⟨_, by wtm_at "lm.put", ?_⟩
      obtain ⟨r, f, hr1, hr2, hf⟩ := ha.get hi
      have hil : i < vs.length := (List.getElem?_eq_some_iff.mp hi).1
      have hr3 := hr2.mono m
      have mem := List.mem_of_getElem? hr1
      have okr := RowsOk_mem ok mem
      have tk := take_succ hr1
      have ek : lns (rs.take (i + 1)) = lns (rs.take i) ++ r.ln := by rw [tk, lns_app, lns_one]
      have cs : cnts (rs.take i) + r.cnt ≤ cnts rs := by
        have e := congrArg cnts (List.take_append_drop (i + 1) rs)
        rw [cnts_append, tk, cnts_append, cnts, cnts] at e
        omega
      have ll := lns_len (rs.take i)
      have rp := cnt_pos r
      rw [ek]
      generalize lns (rs.take i) = L at hD' ll ⊢
      have l1 : ("=" : Str).length = 1 := by decide +kernel
      cases hr3 with
      | @lt t to sg x y ht =>
        rw [RowOk] at okr
        have f1 := name_facts (hn _ okr.1)
        have fx := kS_facts hn okr.2.1
        have fy := kS_facts hn okr.2.2
        have lsg := len_sg sg
        wtm_at "lm"
        refine k_strK okr.2.1 ?_
        wtm_at "lm"
        refine k_strK okr.2.2 ?_
        wtm_at "lm"
        intro u H2 hu s2 h2
        have hD2 := s2 _ _ hD'
        refine ⟨u, wordsOf (.lt to sg x y), rfl, SqL.of h2, (by show to.length + (("=" : Str).length + ((kS x).length + (sg.nm.length + ((kS y).length + 0)))) + 5 * (" " : Str).length ≤ _; rw [l1, len_blank]; omega), ?_⟩
        rw [lineOf_join]
        refine x_app hD2 (by rw [List.length_map]; omega) ?_
        have ht2 : upd H2 D (.lst (L.map V.str ++ [.str (lineOf (.lt to sg x y))])) t = _ := (upd_ne (ne_of ht hD' fun z => nomatch z)).trans (s2 _ _ ht)
        wtm_at "lm"
        refine ⟨hil, _, _, rfl, hD, Same.mut (m.trans s2) hD, ?_⟩
        rw [upd_same, List.map_append, Row.ln]
        rfl
      | @say t x ht =>
        rw [RowOk] at okr
        have fx := kS_facts hn okr
        wtm_at "lm"
        refine k_strK okr ?_
        wtm_at "lm"
        intro u H2 hu s2 h2
        have hD2 := s2 _ _ hD'
        refine ⟨u, wordsOf (.say x), rfl, SqL.of h2, (by show ("say" : Str).length + ((kS x).length + 0) + 2 * (" " : Str).length ≤ _; rw [len_say, len_blank]; omega), ?_⟩
        rw [lineOf_join]
        refine x_app hD2 (by rw [List.length_map]; omega) ?_
        have ht2 : upd H2 D (.lst (L.map V.str ++ [.str (lineOf (.say x))])) t = _ := (upd_ne (ne_of ht hD' fun z => nomatch z)).trans (s2 _ _ ht)
        wtm_at "lm"
        refine ⟨hil, _, _, rfl, hD, Same.mut (m.trans s2) hD, ?_⟩
        rw [upd_same, List.map_append, Row.ln]
        rfl
      | @blk t b kd s rs' g ht hb =>
        have d1 := deps_mem mem
        have c1 := cnts_mem mem
        rw [Row.dep] at d1
        rw [Row.cnt] at c1 cs
        rw [RowOk] at okr
        have f1 := name_facts (hn _ okr.1)
        have lk := len_kd kd
        have ll' := lns_len rs'
        obtain ⟨k, rfl⟩ : ∃ k, n = k + 1 := ⟨n - 1, by omega⟩
        have G := ih k (Nat.lt_succ_self k)
        wtm_at "lm"
        refine k_strS ?_
        wtm_at "lm"
        intro u H2 hu s2 h2
        have hD2 := s2 _ _ hD'
        refine ⟨u, wordsOf (.blk kd s []), rfl, SqL.of h2, (by show kd.nm.length + (s.length + 0) + 2 * (" " : Str).length ≤ _; rw [len_blank]; omega), ?_⟩
        rw [lineOf_join]
        refine x_app hD2 (by rw [List.length_map]; omega) ?_
        have ht2 : upd H2 D (.lst (L.map V.str ++ [.str (lineOf (.blk kd s []))])) t = _ := (upd_ne (ne_of ht hD' fun z => nomatch z)).trans (s2 _ _ ht)
        have hbn : D ∉ f := fun z => by
          obtain ⟨xs, e⟩ := (show ∃ xs, H D = some (.lst xs) by
            cases hr2 with
            | blk _ hb0 => exact hb0.at D z)
          rw [hD] at e
          cases e
        have hb2 := (hb.mono s2).keep (Kept.upd (o := .lst (L.map V.str ++ [.str (lineOf (.blk kd s []))])) hD2 hbn)
        have hD3 : upd H2 D (.lst (L.map V.str ++ [.str (lineOf (.blk kd s []))])) D = _ := upd_same
        have sm : Same H (upd H2 D (.lst (L.map V.str ++ [.str (lineOf (.blk kd s []))]))) := Same.mut (m.trans s2) hD
        generalize upd H2 D (.lst (L.map V.str ++ [.str (lineOf (.blk kd s []))])) = H3 at ht2 hb2 hD3 sm ⊢
        wtm_at "lm"
        refine ⟨b, rs', _, ns, rfl, hb2, by omega, by omega, okr.2, hn, fun p H4 s4 hp h4 => ?_⟩
        refine b_cat (s4 _ _ hD3) h4 (sz (by rw [List.length_append, List.length_map, List.length_map]; show L.length + 1 + _ ≤ _; omega)) fun p2 H5 hp2 s5 h5 => ?_
        wtm_at "lm"
        intro p3 H6 hp3 s6 h6
        refine b_cat (s6 _ _ h5) h6 (sz (by rw [List.length_append, List.length_append, List.length_map, List.length_map]; show L.length + 1 + _ + 1 ≤ _; omega)) fun p4 H7 hp4 s7 h7 => ?_
        wtm_at "lm"
        have sx := ((sm.trans s4).trans s5).trans s6
        refine ⟨hil, p4, _, rfl, sx.free hp4, sx.trans s7, ?_⟩
        rw [h7, Row.ln, List.map_append, List.map_cons, List.map_append]
        simp only [List.append_assoc, List.cons_append, List.nil_append]
        rfl
    · rintro σ' H' ⟨_, D, o, rfl, hD, m, hD'⟩
      rw [take_all (by omega)] at hD'
      wtm_at "lm"
      exact q D H' m hD hD'
end
/-! ### read: lines to rows -/
open TL
/-- a block that lies open: its word, its test, the rows ahead of it, the rows to come behind it -/
structure Lv where
  kd : Kd
  t : Str
  d : List Row
  r : List Row
def plug (X : List Row) : List Lv → List Row
  | [] => X
  | l :: ps => plug (l.d ++ (.blk l.kd l.t X :: l.r)) ps
def tailR : List Lv → List Str
  | [] => []
  | l :: ps => "end" :: (lns l.r ++ tailR ps)
theorem plug_deps : ∀ (ps : List Lv) (X : List Row), deps X + ps.length ≤ deps (plug X ps)
  | [], X => Nat.le_refl _
  | l :: ps, X => by
    have h := plug_deps ps (l.d ++ (.blk l.kd l.t X :: l.r))
    rw [deps_append, deps, Row.dep] at h
    show deps X + (ps.length + 1) ≤ deps (plug (l.d ++ (.blk l.kd l.t X :: l.r)) ps)
    omega
theorem plug_cnts : ∀ (ps : List Lv) (X : List Row), cnts X ≤ cnts (plug X ps)
  | [], X => Nat.le_refl _
  | l :: ps, X => by
    have h := plug_cnts ps (l.d ++ (.blk l.kd l.t X :: l.r))
    rw [cnts_append, cnts, Row.cnt] at h
    show cnts X ≤ cnts (plug (l.d ++ (.blk l.kd l.t X :: l.r)) ps)
    omega
theorem plug_ok {ns : List Str} : ∀ (ps : List Lv) (X : List Row), RowsOk ns (plug X ps) → RowsOk ns X
  | [], X, h => h
  | l :: ps, X, h => by
    have h := plug_ok ps _ h
    have := RowsOk_mem h (r := .blk l.kd l.t X) (by simp)
    rw [RowOk] at this
    exact this.2
theorem lns_nil {rs : List Row} (h : lns rs = []) : rs = [] := by
  cases rs with
  | nil => rfl
  | cons r rs =>
    rw [lns] at h
    have := (List.append_eq_nil_iff.mp h).1
    cases r <;> (rw [Row.ln] at this; cases this)
inductive Low (H : Hp) : Addr → List Addr → List Lv → List Addr → Prop where
  | nil {a : Addr} : Low H a [] [] []
  | cons {a b t : Addr} {bs : List Addr} {us : List V} {l : Lv} {ps : List Lv} {g g' : List Addr} (h : H b = some (.lst (us ++ [.ref t]))) (ht : H t = some (.tup [.str l.kd.nm, .str l.t, .ref a])) (ha : AllIn H us l.d g) (hl : Low H b bs ps g') : Low H a (b :: bs) (l :: ps) (b :: (g ++ g'))
theorem Low.keep {H H' : Hp} {a : Addr} {bs : List Addr} {ps : List Lv} {g : List Addr} (h : Low H a bs ps g) : Kept g H H' → Low H' a bs ps g := by
  induction h with
  | nil => intro _; exact .nil
  | cons h ht ha hl ih =>
    intro k
    exact .cons (by rw [k.2 _ List.mem_cons_self]; exact h) (k.1 _ _ ht) (ha.keep k.tail.left) (ih k.tail.right)
theorem Low.at {H : Hp} {a : Addr} {bs : List Addr} {ps : List Lv} {g : List Addr} (h : Low H a bs ps g) : ∀ l ∈ g, ∃ xs, H l = some (.lst xs) := by
  induction h with
  | nil => intro l hl; exact nomatch hl
  | cons h ht ha hl ih =>
    intro l hm
    rcases List.mem_cons.mp hm with e | hm
    · exact ⟨_, e ▸ h⟩
    · rcases List.mem_append.mp hm with hm | hm
      · exact ha.at l hm
      · exact ih l hm
theorem Low.len {H : Hp} {a : Addr} {bs : List Addr} {ps : List Lv} {g : List Addr} (h : Low H a bs ps g) : ps.length = bs.length := by
  induction h with
  | nil => rfl
  | cons _ _ _ _ ih => rw [List.length_cons, List.length_cons, ih]
/-- the stack at S; a: the top's list, which holds the rows d; r: those to come -/
structure Rdn (F H : Hp) (S a : Addr) (bs : List Addr) (vs : List V) (d r : List Row) (ps : List Lv) (rs : List Row) : Prop where
  ex : ∃ (f g : List Addr), AllIn H vs d f ∧ Low H a bs ps g ∧ (S :: a :: (f ++ g)).Nodup ∧ ∀ l ∈ S :: a :: (f ++ g), F l = none
  hS : H S = some (.lst ((a :: bs).reverse.map V.ref))
  ha : H a = some (.lst vs)
  fh : Same F H
  eq : plug (d ++ r) ps = rs
section
variable {F H : Hp} {S a : Addr} {bs : List Addr} {vs : List V} {d r : List Row} {ps : List Lv} {rs : List Row}
theorem Rdn.mono {H' : Hp} (z : Rdn F H S a bs vs d r ps rs) (e : Same H H') : Rdn F H' S a bs vs d r ps rs := by
  obtain ⟨f, g, h1, h2, h3, h4⟩ := z.ex
  exact ⟨⟨f, g, h1.mono e, h2.keep (.same e h2.at), h3, h4⟩, e _ _ z.hS, e _ _ z.ha, fun b o q => e b o (z.fh b o q), z.eq⟩
theorem Rdn.ne (z : Rdn F H S a bs vs d r ps rs) : S ≠ a := by
  obtain ⟨f, g, _, _, h3, _⟩ := z.ex
  exact fun e => (List.nodup_cons.mp h3).1 (e ▸ List.mem_cons_self)
theorem Rdn.len (z : Rdn F H S a bs vs d r ps rs) : ps.length = bs.length := by
  obtain ⟨f, g, _, h2, _⟩ := z.ex
  exact h2.len
theorem Rdn.add {q : Row} (z : Rdn F H S a bs vs d (q :: r) ps rs) {v : V} (h : RowIn H v q []) : Rdn F (upd H a (.lst (vs ++ [v]))) S a bs (vs ++ [v]) (d ++ [q]) r ps rs := by
  obtain ⟨f, g, h1, h2, h3, h4⟩ := z.ex
  have nd := h3
  rw [List.nodup_cons, List.nodup_cons] at nd
  obtain ⟨n1, n3, n4⟩ := nd
  have af : a ∉ f := fun q => n3 (List.mem_append_left _ q)
  have ag : a ∉ g := fun q => n3 (List.mem_append_right _ q)
  have e1 : AllIn H (vs ++ [v]) (d ++ [q]) f := by
    have := h1.snoc h
    rw [List.append_nil] at this
    exact this
  refine ⟨⟨f, g, e1.keep (Kept.upd z.ha af), h2.keep (Kept.upd z.ha ag), h3, h4⟩, by rw [upd_ne z.ne]; exact z.hS, upd_same, Same.mut z.fh (h4 a (by simp)), ?_⟩
  rw [List.append_assoc]
  exact z.eq
theorem Rdn.open {kd : Kd} {x : Str} {B : List Row} {t c : Addr} (z : Rdn F H S a bs vs d (.blk kd x B :: r) ps rs) {H2 : Hp} (s : Same H H2) (hc : H c = none) (hc2 : H2 c = some (.lst [])) (ht : H2 t = some (.tup [.str kd.nm, .str x, .ref c])) :
    Rdn F (upd (upd H2 a (.lst (vs ++ [.ref t]))) S (.lst ((c :: a :: bs).reverse.map V.ref))) S c (a :: bs) [] [] B (⟨kd, x, d, r⟩ :: ps) rs := by
  obtain ⟨f, g, h1, h2, h3, h4⟩ := z.ex
  have nd := h3
  rw [List.nodup_cons, List.nodup_cons] at nd
  obtain ⟨n1, n3, n4⟩ := nd
  have at1 : ∀ l ∈ f ++ g, ∃ xs, H l = some (.lst xs) := fun l hl => (List.mem_append.mp hl).elim (h1.at l) (h2.at l)
  have ha2 := s _ _ z.ha
  have hS2 := s _ _ z.hS
  have cS : c ≠ S := fun e => by rw [e, z.hS] at hc; cases hc
  have ca : c ≠ a := fun e => by rw [e, z.ha] at hc; cases hc
  have tS : t ≠ S := ne_of ht hS2 fun z => nomatch z
  have ta : t ≠ a := ne_of ht ha2 fun z => nomatch z
  have K : Kept (f ++ g) H2 (upd (upd H2 a (.lst (vs ++ [.ref t]))) S (.lst ((c :: a :: bs).reverse.map V.ref))) := ⟨fun u xs q => by
    rw [upd_ne (ne_of q hS2 fun z => nomatch z), upd_ne (ne_of q ha2 fun z => nomatch z)]
    exact q, fun l hl => by rw [upd_ne (show l ≠ S from fun e => n1 (by rw [← e]; exact List.mem_cons_of_mem _ hl)), upd_ne (show l ≠ a from fun e => n3 (by rw [← e]; exact hl))]⟩
  have Fc : F c = none := z.fh.free hc
  refine ⟨⟨[], a :: (f ++ g), .nil, .cons (us := vs) (t := t) ?_ ?_ ((h1.mono s).keep K.left) ((h2.keep (.same s h2.at)).keep K.right), ?_, ?_⟩, upd_same, ?_, ?_, z.eq⟩
  · rw [upd_ne z.ne.symm, upd_same]
  · rw [upd_ne tS, upd_ne ta]
    exact ht
  · rw [List.nil_append, List.nodup_cons, List.nodup_cons]
    refine ⟨fun q => ?_, fun q => ?_, List.nodup_cons.mpr ⟨n3, n4⟩⟩
    · rcases List.mem_cons.mp q with q | q
      · exact cS q.symm
      · exact n1 q
    · rcases List.mem_cons.mp q with q | q
      · exact ca q
      · obtain ⟨xs, e⟩ := at1 c q
        rw [hc] at e
        cases e
  · intro l hl
    rcases List.mem_cons.mp hl with rfl | hl
    · exact h4 _ (by simp)
    rcases List.mem_cons.mp hl with rfl | hl
    · exact Fc
    · exact h4 l (List.mem_cons_of_mem _ hl)
  · rw [upd_ne cS, upd_ne ca]
    exact hc2
  · exact Same.mut (Same.mut (fun b o q => s b o (z.fh b o q)) (h4 a (by simp))) (h4 S (by simp))
theorem Rdn.close {l : Lv} {b : Addr} (z : Rdn F H S a (b :: bs) vs d [] (l :: ps) rs) : ∃ us, Rdn F (upd H S (.lst ((b :: bs).reverse.map V.ref))) S b bs us (l.d ++ [.blk l.kd l.t d]) l.r ps rs := by
  obtain ⟨f, g, h1, h2, h3, h4⟩ := z.ex
  have nd := h3
  rw [List.nodup_cons, List.nodup_cons] at nd
  obtain ⟨n1, n3, n4⟩ := nd
  have K : Kept (f ++ g) H (upd H S (.lst ((b :: bs).reverse.map V.ref))) := Kept.upd z.hS fun q => n1 (List.mem_cons_of_mem _ q)
  have hA : upd H S (.lst ((b :: bs).reverse.map V.ref)) a = some (.lst vs) := by rw [upd_ne z.ne.symm]; exact z.ha
  have h1' := h1.keep K.left
  have h2' := h2.keep K.right
  have eq := z.eq
  have fh := z.fh
  have hSn := h4 S (by simp)
  cases h2' with
  | @cons _ _ t _ us _ _ g1 g' hb ht ha hl =>
    have hrow : RowIn (upd H S (.lst ((b :: bs).reverse.map V.ref))) (.ref t) (.blk l.kd l.t d) (a :: f) := .blk ht (.mk hA h1')
    refine ⟨us ++ [.ref t], ⟨g1 ++ (a :: f), g', ha.snoc hrow, hl, ?_, ?_⟩, upd_same, hb, Same.mut fh hSn, ?_⟩
    · refine (List.Perm.nodup_iff ?_).mp h3
      refine List.Perm.cons _ ?_
      have p1 : (a :: (f ++ b :: (g1 ++ g'))).Perm (b :: ((a :: f) ++ (g1 ++ g'))) := by
        rw [← List.cons_append]
        exact List.perm_middle
      refine p1.trans (List.Perm.cons _ ?_)
      rw [← List.append_assoc]
      exact List.Perm.append_right _ List.perm_append_comm
    · intro q hq
      refine h4 q ?_
      simp only [List.mem_cons, List.mem_append] at hq ⊢
      rcases hq with h | h | (h | h | h) | h <;> simp [h]
    · rw [List.append_nil] at eq
      rw [List.append_assoc]
      exact eq
end
/-! ### what a line's words come to -/
theorem valueOf_key {ns : List Str} (hn : ∀ s ∈ ns, isName s = true) {k : Key} (ok : KeyOk ns k) : valueOf (kS k) = some k := by
  cases k with
  | inr s =>
    show valueOf s = _
    unfold valueOf
    rw [if_pos (hn s ok)]
  | inl i =>
    have f := kS_facts hn ok
    obtain ⟨n, rfl⟩ : ∃ n : Nat, i = n := ⟨i.toNat, by have := ok.1; omega⟩
    have e : tl (kS (.inl (n : Int))) = numL n := tl_num n
    have ad := numL_digits n
    have nn : isName (kS (.inl (n : Int))) ≠ true := fun h => by
      rw [isName_eq, Bool.and_eq_true_iff] at h
      have h2 := h.2
      rw [show (kS (.inl (n : Int))).cps.toList = numL n from e] at h2
      cases el : numL n with
      | nil => exact numL_ne n el
      | cons c l =>
        rw [el] at h2 ad
        have := of_decide_eq_true (List.all_eq_true.mp h2 c List.mem_cons_self)
        rw [abc_eq] at this
        obtain ⟨j, _, ej⟩ := List.mem_map.mp this
        have := ad c List.mem_cons_self
        replace ej : 97 + j = c := ej
        omega
    have ol : okLen (kS (.inl (n : Int))) = true := (okLen_iff _).mpr ⟨f.1, f.2.1⟩
    have af : allFigs (kS (.inl (n : Int))) = true := by
      unfold allFigs
      rw [show (kS (.inl (n : Int))).cps.toList = numL n from e]
      exact List.all_eq_true.mpr fun c hc => decide_eq_true ((figs_iff c).mpr (ad c hc))
    have na : noughtAhead (kS (.inl (n : Int))) = false := by
      unfold noughtAhead
      rw [show (kS (.inl (n : Int))).cps.toList = numL n from e, len_tl, e, Bool.and_eq_false_iff]
      by_cases h10 : n < 10
      · right
        rw [numL_lt h10]
        rfl
      · left
        refine decide_eq_false fun h => ?_
        have key : ∀ m, 0 < m → (numL m).head? ≠ some 48 := fun m => by
          induction m using Nat.strongRecOn with
          | ind m ih =>
            intro hm
            by_cases hh : m < 10
            · rw [numL_lt hh]
              intro e2
              have := Option.some.inj e2
              omega
            · rw [numL_step (by omega)]
              have i1 := ih (m / 10) (by omega) (by omega)
              cases el : numL (m / 10) with
              | nil => exact absurd el (numL_ne _)
              | cons c l =>
                rw [el] at i1
                exact i1
        exact key n (by omega) h
    unfold valueOf
    rw [if_neg nn, if_pos (by rw [ol, af]; rfl), if_neg (by rw [na]; exact Bool.false_ne_true), show (kS (.inl (n : Int))).cps.toList = numL n from e, numL_val]
/-- a row without what stands in it -/
def Row.bare : Row → Row
  | .lt to sg x y => .lt to sg x y
  | .say x => .say x
  | .blk kd t _ => .blk kd t []
theorem rowOf_words {ns : List Str} (hn : ∀ s ∈ ns, isName s = true) {r : Row} (ok : RowOk ns r) : rowOf (wordsOf r) = some r.bare := by
  cases r with
  | lt to sg x y =>
    rw [RowOk] at ok
    show (if isName to = true ∧ ("=" : Str) = "=" then (match sgOf sg.nm, valueOf (kS x), valueOf (kS y) with | some sg, some a, some b => some (Row.lt to sg a b) | _, _, _ => none) else none) = _
    rw [if_pos ⟨hn _ ok.1, rfl⟩, sgOf_nm, valueOf_key hn ok.2.1, valueOf_key hn ok.2.2]
    rfl
  | say x =>
    rw [RowOk] at ok
    have e : rowOf [("say" : Str), kS x] = (match kdOf "say" with | some kd => if isName (kS x) = true then some (Row.blk kd (kS x) []) else none | none => if ("say" : Str) = "say" then (valueOf (kS x)).map Row.say else none) := rfl
    show rowOf [("say" : Str), kS x] = _
    rw [e, show kdOf "say" = none by decide +kernel]
    show (if ("say" : Str) = "say" then (valueOf (kS x)).map Row.say else none) = _
    rw [if_pos rfl, valueOf_key hn ok]
    rfl
  | blk kd t rs =>
    rw [RowOk] at ok
    show (match kdOf kd.nm with | some kd => if isName t = true then some (Row.blk kd t []) else none | none => _) = _
    rw [kdOf_nm]
    show (if isName t = true then some (Row.blk kd t []) else none) = _
    rw [if_pos (hn _ ok.1)]
    rfl
theorem words_free {ns : List Str} (hn : ∀ s ∈ ns, isName s = true) {r : Row} (ok : RowOk ns r) : ∀ p ∈ wordsOf r, 32 ∉ tl p ∧ p.length ≤ 6 := by
  have e1 : 32 ∉ tl ("=" : Str) ∧ ("=" : Str).length ≤ 6 := by decide +kernel
  have e2 : 32 ∉ tl ("say" : Str) ∧ ("say" : Str).length ≤ 6 := by decide +kernel
  have e3 : ∀ sg : Sg, 32 ∉ tl sg.nm ∧ sg.nm.length ≤ 6 := fun sg => by cases sg <;> decide +kernel
  have e4 : ∀ kd : Kd, 32 ∉ tl kd.nm ∧ kd.nm.length ≤ 6 := fun kd => by cases kd <;> decide +kernel
  intro p hp
  cases r with
  | lt to sg x y =>
    rw [RowOk] at ok
    have h1 := name_facts (hn _ ok.1)
    have h2 := kS_facts hn ok.2.1
    have h3 := kS_facts hn ok.2.2
    replace hp : p ∈ [to, "=", kS x, sg.nm, kS y] := hp
    simp only [List.mem_cons, List.not_mem_nil, or_false] at hp
    rcases hp with rfl | rfl | rfl | rfl | rfl
    · exact ⟨h1.2.2.1, h1.2.1⟩
    · exact e1
    · exact ⟨h2.2.2, h2.2.1⟩
    · exact e3 sg
    · exact ⟨h3.2.2, h3.2.1⟩
  | say x =>
    rw [RowOk] at ok
    have h2 := kS_facts hn ok
    replace hp : p ∈ ([("say" : Str), kS x] : List Str) := hp
    simp only [List.mem_cons, List.not_mem_nil, or_false] at hp
    rcases hp with rfl | rfl
    · exact e2
    · exact ⟨h2.2.2, h2.2.1⟩
  | blk kd t rs =>
    rw [RowOk] at ok
    have h1 := name_facts (hn _ ok.1)
    replace hp : p ∈ [kd.nm, t] := hp
    simp only [List.mem_cons, List.not_mem_nil, or_false] at hp
    rcases hp with rfl | rfl
    · exact e4 kd
    · exact ⟨h1.2.2.1, h1.2.1⟩
theorem split_line {ns : List Str} (hn : ∀ s ∈ ns, isName s = true) {r : Row} (ok : RowOk ns r) : Txt.split (lineOf r) " " = wordsOf r := by
  rw [← lineOf_join]
  exact split_join tl_blank (by decide +kernel) (by cases r <;> exact fun e => nomatch e) fun p hp => (words_free hn ok p hp).1
theorem line_len {ns : List Str} (hn : ∀ s ∈ ns, isName s = true) {r : Row} (ok : RowOk ns r) : (lineOf r).length ≤ 100 := by
  cases r with
  | lt to sg x y =>
    rw [RowOk] at ok
    have h1 := name_facts (hn _ ok.1)
    have h2 := kS_facts hn ok.2.1
    have h3 := kS_facts hn ok.2.2
    show (to ++ " = " ++ kS x ++ " " ++ sg.nm ++ " " ++ kS y).length ≤ 100
    rw [len_app, len_app, len_app, len_app, len_app, len_app, len_is, len_blank, len_sg]
    omega
  | say x =>
    rw [RowOk] at ok
    have h2 := kS_facts hn ok
    show (("say" : Str) ++ " " ++ kS x).length ≤ 100
    rw [len_app, len_app, len_blank, len_say]
    omega
  | blk kd t rs =>
    rw [RowOk] at ok
    have h1 := name_facts (hn _ ok.1)
    have h2 := len_kd kd
    show (kd.nm ++ " " ++ t).length ≤ 100
    rw [len_app, len_app, len_blank]
    omega
theorem line_end (r : Row) : lineOf r ≠ "end" := fun e => by
  have h : 32 ∈ tl (lineOf r) := by
    cases r with
    | lt to sg x y =>
      show 32 ∈ tl (to ++ " = " ++ kS x ++ " " ++ sg.nm ++ " " ++ kS y)
      rw [tl_append, tl_append, tl_blank]
      simp
    | say x =>
      show 32 ∈ tl (("say" : Str) ++ " " ++ kS x)
      rw [tl_append, tl_append, tl_blank]
      simp
    | blk kd t rs =>
      show 32 ∈ tl (kd.nm ++ " " ++ t)
      rw [tl_append, tl_append, tl_blank]
      simp
  rw [e] at h
  exact absurd h (by decide +kernel)
theorem w_split {X : Cx} {a e : Expr} {σ : L2.St} {H : Hp} {Q : VK} {apos cpos : Pos} (h : WE X a σ H fun x H1 => ∃ z, x = .str z ∧ WE X e σ H1 fun y H2 => ∃ b, y = .str b ∧ (b.length == 0) = false ∧ z.length + 2 ≤ sizeLine ∧ ∀ p H3, H2 p = none → Same H2 H3 → H3 p = some (.lst ((Txt.split z b).map V.str)) → Q (.ref p) H3)
    (hs : starEach [e] X.env = [(false, eval e X.env)]) (hbase : attributeBase a "split" X.env (eval a X.env) = eval a X.env) (hline : (apos.endLine == cpos.line) = true) : WE X (.Call (.Attribute a "split" apos) [e] [] cpos) σ H Q := by
  refine .of (pe_split (pe X a) (pe X e) hs hbase hline) ?_
  refine h.mono ?_
  rintro x H1 ⟨z, rfl, q⟩
  refine ⟨⟨z, rfl⟩, q.mono ?_⟩
  rintro y H2 ⟨b, rfl, h1, h2, q⟩
  exact ⟨z, b, rfl, rfl, h1, h2, fun p hp => q p _ hp (same_new hp) upd_same⟩
section
variable {P : Program} {w : World} {K : PySem.W.Frag} {mg : Str → Option Value} {base : Heap}
def spRead (K : PySem.W.Frag) : Sp := fun vs H Q _ => ∃ (A : Addr) (rs : List Row) (ns : List Str), vs = [.ref A] ∧ H A = some (.lst ((lns rs).map V.str)) ∧ deps rs ≤ 20 ∧ cnts rs ≤ 10000 ∧ RowsOk ns rs ∧ (∀ s ∈ ns, isName s = true) ∧
  ∀ (p : Addr) (H' : Hp) (fp : List Addr), Same H H' → RowsIn H' p rs fp → Q (.ref p) H'
end
/-! ### the errors' own __init__ -/
section
variable {P : Program} {w : World} {K : PySem.W.Frag} {mg : Str → Option Value} {base : Heap} {cL cR cN cM cB cT : Addr}
theorem ok_init_TooDeep (E : Exs K mg cL cR cN cM cB cT) : MOk P w K mg base 1 cT "__init__" ["self", "place"] (spInit cT) := by
  refine go_TooDeep___init__ E.x_TooDeep.init (fun vs H Q _ h => ?_) ?_
  · obtain ⟨a, n, rfl, _⟩ := h
    rfl
  intro X e1 e2 e3 e4 e5 C sc hr vs H Q E' h
  subst e1 e2 e3 e4 e5
  obtain ⟨a, n, rfl, ha, q⟩ := h
  show WSs X _ _ [some (.ref a), some (.int n)] H
  refine s_cons ?_
  refine s_expr ?_ (by with_unfolding_all rfl)
  refine w_leinit C E.x_LoopError (by wtm_at "lm.mem") ?_ (by with_unfolding_all rfl) (by with_unfolding_all rfl) (by with_unfolding_all rfl)
  wtm_at "lm"
  refine ⟨a, _, _, rfl, by decide, E.x_TooDeep.oex, ha, ?_⟩
  refine s_one ?_
  refine s_ost ?_ (by with_unfolding_all rfl)
  wtm_at "lm"
  exact ⟨a, _, rfl, E.x_TooDeep.oex, E.x_TooDeep.np, ha, q⟩
theorem ok_init_BadLine (E : Exs K mg cL cR cN cM cB cT) : MOk P w K mg base 1 cB "__init__" ["self", "place"] (spInit cB) := by
  refine go_BadLine___init__ E.x_BadLine.init (fun vs H Q _ h => ?_) ?_
  · obtain ⟨a, n, rfl, _⟩ := h
    rfl
  intro X e1 e2 e3 e4 e5 C sc hr vs H Q E' h
  subst e1 e2 e3 e4 e5
  obtain ⟨a, n, rfl, ha, q⟩ := h
  show WSs X _ _ [some (.ref a), some (.int n)] H
  refine s_cons ?_
  refine s_expr ?_ (by with_unfolding_all rfl)
  refine w_leinit C E.x_LoopError (by wtm_at "lm.mem") ?_ (by with_unfolding_all rfl) (by with_unfolding_all rfl) (by with_unfolding_all rfl)
  wtm_at "lm"
  refine ⟨a, _, _, rfl, by decide, E.x_BadLine.oex, ha, ?_⟩
  refine s_one ?_
  refine s_ost ?_ (by with_unfolding_all rfl)
  wtm_at "lm"
  exact ⟨a, _, rfl, E.x_BadLine.oex, E.x_BadLine.np, ha, q⟩
end
/-! ### read: any lines -/
open TL
/-- the first line that is wrong: (whether it lies too deep, its number); d: the blocks that lie open -/
def rdo : List Str → Nat → Nat → Option (Bool × Nat)
  | [], _, 0 => none
  | [], p, _ + 1 => some (false, p)
  | x :: xs, p, d => if x = "end" then (match d with | 0 => some (false, p) | d + 1 => rdo xs (p + 1) d)
    else match rowOf (Txt.split x " ") with
      | none => some (false, p)
      | some (.blk _ _ _) => if d = 20 then some (true, p) else rdo xs (p + 1) (d + 1)
      | some _ => rdo xs (p + 1) d
theorem rdo_cons (x : Str) (xs : List Str) (p d : Nat) : rdo (x :: xs) p d = if x = "end" then (match d with | 0 => some (false, p) | d + 1 => rdo xs (p + 1) d)
    else match rowOf (Txt.split x " ") with
      | none => some (false, p)
      | some (.blk _ _ _) => if d = 20 then some (true, p) else rdo xs (p + 1) (d + 1)
      | some _ => rdo xs (p + 1) d := by
  rw [rdo.eq_def]
/-- the rows that lie open -/
structure Opn (F H : Hp) (S : Addr) (as : List Addr) (n : Nat) : Prop where
  hS : H S = some (.lst (as.reverse.map V.ref))
  fS : F S = none
  al : ∀ a ∈ as, a ≠ S ∧ F a = none ∧ ∃ xs, H a = some (.lst xs) ∧ xs.length ≤ n
  fh : Same F H
section
variable {F H H' : Hp} {S a c : Addr} {as : List Addr} {n : Nat} {v : V} {xs : List V}
theorem Opn.mono (z : Opn F H S as n) (e : Same H H') : Opn F H' S as n := ⟨e _ _ z.hS, z.fS, fun a h => by
  obtain ⟨h1, h2, xs, h3, h4⟩ := z.al a h
  exact ⟨h1, h2, xs, e _ _ h3, h4⟩, z.fh.trans e⟩
theorem Opn.le (z : Opn F H S as n) : Opn F H S as (n + 1) := ⟨z.hS, z.fS, fun a h => by
  obtain ⟨h1, h2, xs, h3, h4⟩ := z.al a h
  exact ⟨h1, h2, xs, h3, by omega⟩, z.fh⟩
theorem Opn.put (z : Opn F H S as n) (ha : a ∈ as) (h : H a = some (.lst xs)) : Opn F (upd H a (.lst (xs ++ [v]))) S as (n + 1) := by
  obtain ⟨n1, n2, ys, h3, h4⟩ := z.al a ha
  rw [h] at h3
  cases h3
  refine ⟨by rw [upd_ne (Ne.symm n1)]; exact z.hS, z.fS, fun b hb => ?_, Same.mut z.fh n2⟩
  obtain ⟨m1, m2, zs, h5, h6⟩ := z.al b hb
  refine ⟨m1, m2, ?_⟩
  by_cases e : b = a
  · subst e
    exact ⟨_, upd_same, by rw [List.length_append]; show xs.length + 1 ≤ n + 1; omega⟩
  · exact ⟨zs, by rw [upd_ne e]; exact h5, by omega⟩
theorem Opn.push (z : Opn F H S as n) (hc : H c = some (.lst [])) (fc : F c = none) (nc : c ≠ S) : Opn F (upd H S (.lst ((c :: as).reverse.map V.ref))) S (c :: as) n := by
  refine ⟨upd_same, z.fS, fun b hb => ?_, Same.mut z.fh z.fS⟩
  rcases List.mem_cons.mp hb with rfl | hb
  · exact ⟨nc, fc, [], by rw [upd_ne nc]; exact hc, Nat.zero_le _⟩
  · obtain ⟨m1, m2, zs, h5, h6⟩ := z.al b hb
    exact ⟨m1, m2, zs, by rw [upd_ne m1]; exact h5, h6⟩
theorem Opn.pop (z : Opn F H S (a :: as) n) : Opn F (upd H S (.lst (as.reverse.map V.ref))) S as n := by
  refine ⟨upd_same, z.fS, fun b hb => ?_, Same.mut z.fh z.fS⟩
  obtain ⟨m1, m2, zs, h5, h6⟩ := z.al b (List.mem_cons_of_mem _ hb)
  exact ⟨m1, m2, zs, by rw [upd_ne m1]; exact h5, h6⟩
end
theorem joinL_ge : ∀ ps : List (List Nat), ps.length ≤ (joinL [32] ps).length + 1 ∧ ∀ p ∈ ps, p.length ≤ (joinL [32] ps).length
  | [] => ⟨Nat.zero_le _, fun p hp => nomatch hp⟩
  | [q] => ⟨by show 1 ≤ _; omega, fun p hp => by rw [List.mem_singleton.mp hp]; exact Nat.le_refl _⟩
  | q :: r :: ps => by
    have h := joinL_ge (r :: ps)
    have e : joinL [32] (q :: r :: ps) = q ++ ([32] ++ joinL [32] (r :: ps)) := rfl
    rw [e, List.length_append, List.length_append, List.length_cons]
    have e1 : ([32] : List Nat).length = 1 := rfl
    rw [e1]
    refine ⟨by have := h.1; omega, fun p hp => ?_⟩
    rcases List.mem_cons.mp hp with rfl | hp
    · omega
    · have := h.2 p hp
      omega
theorem split_tl (z : Str) : joinL [32] ((Txt.split z " ").map tl) = tl z := by
  have h := StrLaws.join_split z " "
  rw [← h]
  conv => rhs; rw [tl_join, tl_blank]
  rw [h]
theorem split_len (z : Str) : ∀ w ∈ Txt.split z " ", w.length ≤ z.length := fun w hw => by
  have h := (joinL_ge ((Txt.split z " ").map tl)).2 (tl w) (List.mem_map_of_mem hw)
  rw [split_tl] at h
  rw [len_tl, len_tl]
  exact h
theorem split_num (z : Str) : (Txt.split z " ").length ≤ z.length + 1 := by
  have h := (joinL_ge ((Txt.split z " ").map tl)).1
  rw [split_tl, List.length_map] at h
  rw [len_tl z]
  exact h
theorem rowOf_bare {ws : List Str} {kd : Kd} {t : Str} {B : List Row} (h : rowOf ws = some (.blk kd t B)) : B = [] := by
  unfold rowOf at h
  split at h
  · split at h
    · split at h
      · cases h
        rfl
      · cases h
    · split at h
      · rename_i v _ _ _
        cases hv : valueOf v with
        | none => rw [hv] at h; cases h
        | some k => rw [hv] at h; cases h
      · cases h
  · split at h
    · split at h <;> cases h
    · cases h
  · cases h
section
variable {P : Program} {w : World} {K : PySem.W.Frag} {mg : Str → Option Value} {base : Heap} {cL cR cN cM cB cT : Addr}
def spReadX (K : PySem.W.Frag) (cB cT : Addr) : Sp := fun vs H Q E => ∃ (A : Addr) (ls : List Str), vs = [.ref A] ∧ SqL K H A (ls.map V.str) ∧ ls.length ≤ 10000 ∧ (∀ z ∈ ls, z.length ≤ 1000) ∧
  (rdo ls 0 0 = none → ∀ (p : Addr) (H' : Hp), Same H H' → Q (.ref p) H') ∧
  (∀ b n, rdo ls 0 0 = some (b, n) → ∀ (d : Addr) (H' : Hp), Same H H' → H d = none → H' d = some (.xd [("place", .int n)]) → E (.ref (if b then cT else cB)) (some d) H')
theorem ok_readX (T : Txt K mg) (E0 : Exs K mg cL cR cN cM cB cT) : CallX P w K mg base 4 "read" ["lines"] (spReadX K cB cT) := by
  have G1 : CallOk P w K mg base 3 "row_of" ["words"] (spRowOf K) := ok_row_of T
  have I1 : MOk P w K mg base 1 cB "__init__" ["self", "place"] (spInit cB) := ok_init_BadLine E0
  have I2 : MOk P w K mg base 1 cT "__init__" ["self", "place"] (spInit cT) := ok_init_TooDeep E0
  refine gox_p_read T.d_p_read (fun vs H Q E h => ?_) ?_
  · obtain ⟨A, ls, rfl, _⟩ := h
    rfl
  intro X e1 e2 e3 e4 e5 C tr sc hr vs H Q E tk h
  subst e1 e2 e3 e4 e5
  obtain ⟨A, ls, rfl, hA, hl, hz, q, qe⟩ := h
  have b1 := T.b_len
  have b2 := T.b_range
  obtain ⟨tM, mM⟩ := T.c_MOST_DEEP
  show WSs X _ _ [some (.ref A), none, none, none] H
  refine s_cons ?_
  wtm_at "lm"
  intro a0 H1 ha0 s1 h1
  wtm_at "lm"
  intro S H2 hS s2 h2
  have sa : a0 ≠ S := fun e => by rw [← e, h1] at hS; cases hS
  have z0 : Opn H H2 S [a0] 0 := ⟨h2, s1.free hS, fun a ha => by rw [List.mem_singleton.mp ha]; exact ⟨sa, ha0, [], s2 _ _ h1, Nat.le_refl _⟩, s1.trans s2⟩
  have hA2 := s2.seq (s1.seq hA)
  wtm_at "lm"
  refine ⟨by rw [List.length_map]; omega, by rw [List.length_map]; omega, ?_⟩
  rw [List.length_map, Int.toNat_natCast]
  refine for_r (n := ls.length) (fun i σ' H' => ∃ (o2 o3 : Option V) (as : List Addr) (a : Addr), σ' = [some (.ref A), some (.ref S), o2, o3] ∧ Opn H H' S (a :: as) i ∧ as.length ≤ 20 ∧ rdo ls 0 0 = rdo (ls.drop i) i as.length) ⟨none, none, [], a0, rfl, z0, by decide, rfl⟩ ?_ ?_
  · rintro i σ' H' hi ⟨o2, o3, as, a, rfl, z, l20, er⟩
    refine ⟨_, by wtm_at "lm.put", ?_⟩
    have hA' := z.fh.seq hA
    obtain ⟨x, ex⟩ : ∃ x, ls[i]? = some x := ⟨ls[i], List.getElem?_eq_getElem hi⟩
    have edx : ls.drop i = x :: ls.drop (i + 1) := by
      obtain ⟨hi', e⟩ := List.getElem?_eq_some_iff.mp ex
      rw [List.drop_eq_getElem_cons hi', e]
    have lx := hz x (List.mem_of_getElem? ex)
    have ax : atI (ls.map V.str) (i : Int) = some (.str x) := atI_nat (by rw [List.getElem?_map, ex]; rfl)
    rw [edx] at er
    refine s_one ?_
    refine s_if ?_
    refine WT.mono (Q := fun k H1 => H1 = H' ∧ k = decide (x = "end")) ?_ ?_
    · wtm_at "lm"
      refine i_lst hA' ax ?_
      wtm_at "lm"
      exact ⟨rfl, rfl⟩
    rintro k H1' ⟨e, rfl⟩
    replace e := e.symm
    subst e
    by_cases c0 : x = "end"
    · rw [decide_eq_true c0]
      rw [rdo_cons, if_pos c0] at er
      have hSS := z.hS
      refine s_cons ?_
      wtm_at "lm"
      cases as with
      | nil =>
        refine ite_dec (fun c => ?_) (fun c => absurd rfl c)
        refine s_one ?_
        refine s_raiseI C tk E0.x_BadLine I1 hr (by decide) (by wtm_at "lm.mem") ?_ (by with_unfolding_all rfl) (by with_unfolding_all rfl)
        wtm_at "lm"
        intro d hd
        exact qe false i er d _ (Same.trans z.fh (same_new hd)) (z.fh.free hd) upd_same
      | cons b bs =>
        refine ite_dec (fun c => ?_) (fun c => ?_)
        · rw [List.length_map, List.length_reverse, List.length_cons, List.length_cons] at c
          omega
        · wtm_at "lm"
          refine ⟨S, _, .ref a, rfl, hSS, last_top a (b :: bs), ?_⟩
          rw [drop_top]
          wtm_at "lm"
          exact ⟨_, _, bs, b, rfl, z.pop.le, Nat.le_of_succ_le l20, er⟩
    · rw [decide_eq_false c0]
      rw [rdo_cons, if_neg c0] at er
      have n1 := split_num x
      have n2 := split_len x
      have hSS := z.hS
      refine s_cons ?_
      wtm_at "lm"
      refine w_split ?_ (by with_unfolding_all rfl) (by with_unfolding_all rfl) (by with_unfolding_all rfl)
      wtm_at "lm"
      refine i_lst hA' ax ?_
      refine ⟨_, rfl, ?_⟩
      wtm_at "lm"
      refine ⟨by decide +kernel, sz (by omega), fun p H3 hp s3 h3 => ?_⟩
      wtm_at "lm"
      cases ero : rowOf (Txt.split x " ") with
      | none =>
        rw [ero] at er
        refine ⟨p, _, rfl, SqL.of h3, by omega, fun z hz => by have := n2 z hz; omega, fun _ H4 s4 => ?_, fun r e => (by rw [ero] at e; cases e)⟩
        have z4 := z.mono (s3.trans s4)
        wtm_at "lm"
        refine c_isN ?_
        wtm_at "lm"
        refine s_raiseI C tk E0.x_BadLine I1 hr (by decide) (by wtm_at "lm.mem") ?_ (by with_unfolding_all rfl) (by with_unfolding_all rfl)
        wtm_at "lm"
        intro d hd
        exact qe false i er d _ (Same.trans z4.fh (same_new hd)) (z4.fh.free hd) upd_same
      | some row =>
        rw [ero] at er
        refine ⟨p, _, rfl, SqL.of h3, by omega, fun z hz => by have := n2 z hz; omega, fun e => (by rw [ero] at e; cases e), fun r' er' t H4 fpt s4 hrow hfp => ?_⟩
        rw [ero] at er'
        cases er'
        have z4 := z.mono (s3.trans s4)
        obtain ⟨na, fa, us, ha4, lu⟩ := z4.al a List.mem_cons_self
        wtm_at "lm"
        refine c_isN ?_
        wtm_at "lm"
        refine ite_dec (fun c => by cases c) (fun _ => ?_)
        wtm_at "lm"
        refine i_lst (SqL.of z4.hS) (atI_top a as) ?_
        refine ⟨a, us, rfl, SqL.of ha4, ?_⟩
        wtm_at "lm"
        refine x_app ha4 (by omega) ?_
        have z5 := z4.put (v := .ref t) List.mem_cons_self ha4
        cases hrow with
        | lt ht =>
          have ht2 : upd H4 a (.lst (us ++ [.ref t])) t = _ := (upd_ne (ne_of ht ha4 fun z => nomatch z)).trans ht
          wtm_at "lm"
          exact ⟨_, _, as, a, rfl, z5, l20, er⟩
        | say ht =>
          have ht2 : upd H4 a (.lst (us ++ [.ref t])) t = _ := (upd_ne (ne_of ht ha4 fun z => nomatch z)).trans ht
          wtm_at "lm"
          exact ⟨_, _, as, a, rfl, z5, l20, er⟩
        | @blk _ c_ kd w B fpc ht hb =>
          have eB : B = [] := rowOf_bare ero
          subst eB
          cases hb with
          | @mk _ vc _ fp0 hc hall =>
          cases hall
          have hc' : H' c_ = none := s3.free (hfp c_ List.mem_cons_self)
          have ht2 : upd H4 a (.lst (us ++ [.ref t])) t = _ := (upd_ne (ne_of ht ha4 fun z => nomatch z)).trans ht
          have ca : c_ ≠ a := fun e => by
            obtain ⟨_, _, xs, h, _⟩ := z.al a List.mem_cons_self
            rw [← e, hc'] at h
            cases h
          have cS : c_ ≠ S := fun e => by rw [e, hSS] at hc'; cases hc'
          have hc5 : upd H4 a (.lst (us ++ [.ref t])) c_ = some (.lst []) := by rw [upd_ne ca]; exact hc
          have hS5 := z5.hS
          wtm_at "lm"
          refine ite_dec (fun c => ?_) (fun c => ?_)
          · rw [List.length_map, List.length_reverse, List.length_cons] at c
            have el : as.length = 20 := by omega
            rw [if_pos el] at er
            refine s_one ?_
            refine s_raiseI C tk E0.x_TooDeep I2 hr (by decide) (by wtm_at "lm.mem") ?_ (by with_unfolding_all rfl) (by with_unfolding_all rfl)
            wtm_at "lm"
            intro d hd
            exact qe true i er d _ (Same.trans z5.fh (same_new hd)) (z5.fh.free hd) upd_same
          · rw [List.length_map, List.length_reverse, List.length_cons] at c
            rw [if_neg (fun e => c (by omega))] at er
            wtm_at "lm"
            refine x_app hS5 (by rw [List.length_map, List.length_reverse, List.length_cons]; omega) ?_
            have z6 := z5.push hc5 (z.fh.free hc') cS
            wtm_at "lm"
            exact ⟨_, _, a :: as, c_, rfl, by simpa only [List.reverse_cons, List.map_append, List.map_cons, List.map_nil] using z6, by rw [List.length_cons]; omega, er⟩
  · rintro σ' H3 ⟨o2, o3, as, a, rfl, z, l20, er⟩
    rw [List.drop_length] at er
    have hSS := z.hS
    refine s_cons ?_
    wtm_at "lm"
    refine ite_dec (fun c => ?_) (fun c => ?_)
    · rw [List.length_map, List.length_reverse, List.length_cons] at c
      obtain ⟨m, em⟩ : ∃ m, as.length = m + 1 := ⟨as.length - 1, by omega⟩
      rw [em] at er
      refine s_one ?_
      refine s_raiseI C tk E0.x_BadLine I1 hr (by decide) (by wtm_at "lm.mem") ?_ (by with_unfolding_all rfl) (by with_unfolding_all rfl)
      have hA' := z.fh.seq hA
      wtm_at "lm"
      intro d hd
      rw [List.length_map]
      exact qe false _ er d _ (Same.trans z.fh (same_new hd)) (z.fh.free hd) upd_same
    · rw [List.length_map, List.length_reverse, List.length_cons] at c
      have e0 : as = [] := List.eq_nil_of_length_eq_zero (by omega)
      subst e0
      wtm_at "lm"
      exact q er a _ z.fh
end
/-! ### _law_due, _law_found, _law_refused_by_any -/
open TL
theorem split_ne (z : Str) : Txt.split z " " ≠ [] := fun e => by
  have h := StrLaws.join_split z " "
  rw [e] at h
  have h2 : z = "" := h.symm
  subst h2
  exact absurd e (by decide +kernel)
def fstW (z : Str) : Str := (Txt.split z " ").headD ""
theorem fst_at (z : Str) : atI ((Txt.split z " ").map V.str) 0 = some (.str (fstW z)) := by
  unfold fstW
  cases e : Txt.split z " " with
  | nil => exact absurd e (split_ne z)
  | cons w ws => exact (atI_nat (by rfl) : atI ((w :: ws).map V.str) ((0 : Nat) : Int) = some (.str w))
/-- what the law says is due -/
def dueo : List Str → Nat → Nat → Option (Bool × Nat)
  | [], _, 0 => none
  | [], p, _ + 1 => some (false, p)
  | x :: xs, p, d => if x = "end" then (match d with | 0 => some (false, p) | d + 1 => dueo xs (p + 1) d)
    else if (kdOf (fstW x)).isSome = true then (if d = 20 then some (true, p) else dueo xs (p + 1) (d + 1)) else dueo xs (p + 1) d
theorem dueo_cons (x : Str) (xs : List Str) (p d : Nat) : dueo (x :: xs) p d = if x = "end" then (match d with | 0 => some (false, p) | d + 1 => dueo xs (p + 1) d)
    else if (kdOf (fstW x)).isSome = true then (if d = 20 then some (true, p) else dueo xs (p + 1) (d + 1)) else dueo xs (p + 1) d := by
  rw [dueo.eq_def]
def oW : Option (Bool × Nat) → Str
  | none => "good"
  | some (false, _) => "line"
  | some (true, _) => "deep"
def oN : Option (Bool × Nat) → Int
  | none => 0
  | some (_, n) => (n : Int)
section
variable {P : Program} {w : World} {K : PySem.W.Frag} {mg : Str → Option Value} {base : Heap} {cL cR cN cM cB cT : Addr}
def spDue (K : PySem.W.Frag) : Sp := fun vs H Q _ => ∃ (A : Addr) (ls : List Str), vs = [.ref A] ∧ SqL K H A (ls.map V.str) ∧ ls.length ≤ 10000 ∧ (∀ z ∈ ls, z.length ≤ 1000) ∧
  ∀ (p : Addr) (H' : Hp), Same H H' → H' p = some (.lst [.str (oW (dueo ls 0 0)), .int (oN (dueo ls 0 0))]) → Q (.ref p) H'
theorem ok_due (T : Txt K mg) : CallOk P w K mg base 1 "_law_due" ["_law_lines_here"] (spDue K) := by
  refine go_l_due T.d_l_due (fun vs H Q E h => ?_) ?_
  · obtain ⟨A, ls, rfl, _⟩ := h
    rfl
  intro X e1 e2 e3 e4 e5 C sc hr vs H Q E h
  subst e1 e2 e3 e4 e5
  obtain ⟨A, ls, rfl, hA, hl, hz, q⟩ := h
  have b1 := T.b_len
  have b2 := T.b_range
  show WSs X _ _ [some (.ref A), none, none, none] H
  refine s_cons ?_
  wtm_at "lm"
  refine ⟨by rw [List.length_map]; omega, by rw [List.length_map]; omega, ?_⟩
  rw [List.length_map, Int.toNat_natCast]
  refine for_r (n := ls.length) (fun i σ' H' => ∃ (o2 o3 : Option V) (d : Nat), σ' = [some (.ref A), some (.int d), o2, o3] ∧ Same H H' ∧ d ≤ 20 ∧ dueo ls 0 0 = dueo (ls.drop i) i d) ⟨none, none, 0, rfl, Same.refl _, by decide, rfl⟩ ?_ ?_
  · rintro i σ' H' hi ⟨o2, o3, d, rfl, s, l20, er⟩
    refine ⟨_, by wtm_at "lm.put", ?_⟩
    have hA' := s.seq hA
    obtain ⟨x, ex⟩ : ∃ x, ls[i]? = some x := ⟨ls[i], List.getElem?_eq_getElem hi⟩
    have edx : ls.drop i = x :: ls.drop (i + 1) := by
      obtain ⟨hi', e⟩ := List.getElem?_eq_some_iff.mp ex
      rw [List.drop_eq_getElem_cons hi', e]
    have lx := hz x (List.mem_of_getElem? ex)
    have ax : atI (ls.map V.str) (i : Int) = some (.str x) := atI_nat (by rw [List.getElem?_map, ex]; rfl)
    rw [edx, dueo_cons] at er
    refine s_cons ?_
    wtm_at "lm"
    refine w_split ?_ (by with_unfolding_all rfl) (by with_unfolding_all rfl) (by with_unfolding_all rfl)
    wtm_at "lm"
    refine i_lst hA' ax ?_
    refine ⟨_, rfl, ?_⟩
    wtm_at "lm"
    refine ⟨by decide +kernel, sz (by omega), fun p H3 hp s3 h3 => ?_⟩
    wtm_at "lm"
    refine i_lst (SqL.of h3) (fst_at x) ?_
    have hA3 := s3.seq hA'
    have s4 := s.trans s3
    wtm_at "lm"
    refine i_lst hA3 ax ?_
    wtm_at "lm"
    refine ite_dec (fun c0 => ?_) (fun c0 => ?_)
    · rw [if_pos c0] at er
      wtm_at "lm"
      cases d with
      | zero =>
        refine ite_dec (fun c => ?_) (fun c => absurd (by decide) c)
        wtm_at "lm"
        intro l H5 hl5 s5 h5
        refine q l H5 (s4.trans s5) ?_
        rw [h5, er]
        rfl
      | succ d =>
        have e1 : ((d + 1 : Nat) : Int) - 1 = (d : Int) := by omega
        rw [e1]
        refine ite_dec (fun c => by omega) (fun c => ?_)
        wtm_at "lm"
        refine ite_dec (fun c => by omega) (fun c => ?_)
        wtm_at "lm"
        exact ⟨_, _, d, rfl, s4, by omega, er⟩
    · rw [if_neg c0] at er
      wtm_at "lm"
      intro t H5 ht s5 h5
      wtm_at "lm"
      rcases kd_dec (fstW x) with ⟨kd, ek, hin⟩ | ⟨hout, hno⟩
      · rw [hin]
        rw [ek, kdOf_nm, if_pos (show (some kd).isSome = true from rfl)] at er
        wtm_at "lm"
        refine ite_dec (fun c => by omega) (fun c => ?_)
        wtm_at "lm"
        refine ite_dec (fun c => ?_) (fun c => ?_)
        · rw [if_pos (by omega)] at er
          wtm_at "lm"
          intro l H6 hl6 s6 h6
          refine q l H6 ((s4.trans s5).trans s6) ?_
          rw [h6, er]
          rfl
        · rw [if_neg (by omega)] at er
          wtm_at "lm"
          exact ⟨_, _, d + 1, rfl, s4.trans s5, by omega, er⟩
      · rw [hout]
        rw [kdOf_none hno, if_neg (show ¬ (none : Option Kd).isSome = true by decide)] at er
        wtm_at "lm"
        refine ite_dec (fun c => by omega) (fun c => ?_)
        wtm_at "lm"
        refine ite_dec (fun c => by omega) (fun c => ?_)
        wtm_at "lm"
        exact ⟨_, _, d, rfl, s4.trans s5, l20, er⟩
  · rintro σ' H3 ⟨o2, o3, d, rfl, s, l20, er⟩
    have hA' := s.seq hA
    rw [List.drop_length] at er
    refine s_cons ?_
    wtm_at "lm"
    cases d with
    | zero =>
      refine ite_dec (fun c => absurd c (by decide)) (fun c => ?_)
      wtm_at "lm"
      intro l H5 hl5 s5 h5
      refine q l H5 (s.trans s5) ?_
      rw [h5, er]
      rfl
    | succ d =>
      refine ite_dec (fun c => ?_) (fun c => absurd (by omega) c)
      wtm_at "lm"
      intro l H5 hl5 s5 h5
      refine q l H5 (s.trans s5) ?_
      rw [h5, er, List.length_map]
      rfl
end
/-! ### the law's own try: _law_found, _law_refused_by_any -/
section
variable {P : Program} {w : World} {K : PySem.W.Frag} {mg : Str → Option Value} {base : Heap} {cL cR cN cM cB cT : Addr}
theorem Exs.up (E : Exs K mg cL cR cN cM cB cT) (b : Bool) : PySem.W.subIn K (.ref (if b = true then cT else cB)) (.ref cL) = some true := by
  cases b
  · exact E.s_BadLine_LoopError
  · exact E.s_TooDeep_LoopError
def spFound (K : PySem.W.Frag) : Sp := fun vs H Q _ => ∃ (A : Addr) (ls : List Str), vs = [.ref A] ∧ SqL K H A (ls.map V.str) ∧ ls.length ≤ 10000 ∧ (∀ z ∈ ls, z.length ≤ 1000) ∧
  ∀ (p : Addr) (H' : Hp), Same H H' → H' p = some (.lst [.str (oW (rdo ls 0 0)), .int (oN (rdo ls 0 0))]) → Q (.ref p) H'
theorem ok_found (T : Txt K mg) (E0 : Exs K mg cL cR cN cM cB cT) : CallOk P w K mg base 5 "_law_found" ["_law_lines_here"] (spFound K) := by
  have G1 : CallX P w K mg base 4 "read" ["lines"] (spReadX K cB cT) := ok_readX T E0
  refine got_l_found T.d_l_found (fun vs H Q E h => ?_) ?_
  · obtain ⟨A, ls, rfl, _⟩ := h
    rfl
  intro X e1 e2 e3 e4 e5 C tr sc hr vs H Q E h
  subst e1 e2 e3 e4 e5
  obtain ⟨A, ls, rfl, hA, hl, hz, q⟩ := h
  show WSs X _ _ [some (.ref A), none] H
  refine s_cons ?_
  refine s_try_two (n := "e") (i := 1) C tr (by rfl) (by unfold PySem.Env.kindOf; rw [sc]; decide +kernel) (E0.x_BadLine.names C (by wtm_at "lm.mem")) (E0.x_TooDeep.names C (by wtm_at "lm.mem")) takes0 ?_
  intro pn xe tk o
  have C1 := C.tr (pn := pn) o
  have G1' : CallX (X.tr pn xe).prog (X.tr pn xe).w (X.tr pn xe).K (X.tr pn xe).mg (X.tr pn xe).base 4 "read" ["lines"] (spReadX X.K cB cT) := G1
  have hr' : Room 4 (X.tr pn xe).A := hr
  refine s_one ?_
  refine s_expr ?_ (by with_unfolding_all rfl)
  refine w_callX C1 tk G1' hr' (by decide) (by wtm_at "lm.mem") ?_ (by with_unfolding_all rfl) (by with_unfolding_all rfl)
  wtm_at "lm"
  refine ⟨A, ls, rfl, hA, hl, hz, fun e p H' s => ?_, fun b n e d H' s hd hd' => ?_⟩
  · wtm_at "lm"
    intro l H5 hl5 s5 h5
    refine q l H5 (s.trans s5) ?_
    rw [h5, e]
    rfl
  · cases b with
    | false =>
      refine ⟨true, E0.x_BadLine.exm E0.x_BadLine.ss, fun _ a na => ?_, fun e => nomatch e⟩
      intro oe pn2 hz2 hf2
      have CS : FrS (X.suite a ((a, oe) :: pn2)) _ _ _ _ := C.suite
      show WSs (X.suite a ((a, oe) :: pn2)) _ _ [some (.ref A), some (.ref a)] H'
      refine s_one ?_
      refine s_ret ?_
      wtm_at "lm"
      refine w_place E0.x_BadLine.toEK E0.x_BadLine.np hz2 hf2 ?_ (by with_unfolding_all rfl)
      wtm_at "lm"
      refine ⟨rfl, d, _, .int n, rfl, hd', by rfl, ?_⟩
      wtm_at "lm"
      intro l H5 hl5 s5 h5
      refine q l H5 (s.trans s5) ?_
      rw [h5, e]
      rfl
    | true =>
      refine ⟨false, E0.x_BadLine.exm E0.s_TooDeep_BadLine, (fun e => nomatch e), fun _ => ?_⟩
      refine ⟨true, E0.x_TooDeep.exm E0.x_TooDeep.ss, fun _ a na => ?_, fun e => nomatch e⟩
      intro oe pn2 hz2 hf2
      have CS : FrS (X.suite a ((a, oe) :: pn2)) _ _ _ _ := C.suite
      show WSs (X.suite a ((a, oe) :: pn2)) _ _ [some (.ref A), some (.ref a)] H'
      refine s_one ?_
      refine s_ret ?_
      wtm_at "lm"
      refine w_place E0.x_TooDeep.toEK E0.x_TooDeep.np hz2 hf2 ?_ (by with_unfolding_all rfl)
      wtm_at "lm"
      refine ⟨rfl, d, _, .int n, rfl, hd', by rfl, ?_⟩
      wtm_at "lm"
      intro l H5 hl5 s5 h5
      refine q l H5 (s.trans s5) ?_
      rw [h5, e]
      rfl
def spRefused (K : PySem.W.Frag) : Sp := fun vs H Q _ => ∃ (A : Addr) (ls : List Str), vs = [.ref A] ∧ SqL K H A (ls.map V.str) ∧ ls.length ≤ 10000 ∧ (∀ z ∈ ls, z.length ≤ 1000) ∧ rdo ls 0 0 ≠ none ∧ ∀ H', Q (.bl true) H'
theorem ok_refused (T : Txt K mg) (E0 : Exs K mg cL cR cN cM cB cT) : CallOk P w K mg base 5 "_law_refused_by_any" ["_law_lines_here"] (spRefused K) := by
  have G1 : CallX P w K mg base 4 "read" ["lines"] (spReadX K cB cT) := ok_readX T E0
  refine got_l_refused_by_any T.d_l_refused_by_any (fun vs H Q E h => ?_) ?_
  · obtain ⟨A, ls, rfl, _⟩ := h
    rfl
  intro X e1 e2 e3 e4 e5 C tr sc hr vs H Q E h
  subst e1 e2 e3 e4 e5
  obtain ⟨A, ls, rfl, hA, hl, hz, ne, q⟩ := h
  have b1 := T.b_isinstance
  have b2 := T.b_ValueError
  have m1 := E0.x_BadRow.at_
  have m2 := E0.x_BadName.at_
  have m3 := E0.x_BadNumber.at_
  have m4 := E0.x_BadLine.at_
  have m5 := E0.x_TooDeep.at_
  show WSs X _ _ [some (.ref A), none, none, none] H
  refine s_cons ?_
  refine s_try_as (n := "e") (i := 1) C tr (by rfl) (by unfold PySem.Env.kindOf; rw [sc]; decide +kernel) (E0.x_LoopError.names C (by wtm_at "lm.mem")) takes0 ?_
  intro pn xe tk o
  have C1 := C.tr (pn := pn) o
  have G1' : CallX (X.tr pn xe).prog (X.tr pn xe).w (X.tr pn xe).K (X.tr pn xe).mg (X.tr pn xe).base 4 "read" ["lines"] (spReadX X.K cB cT) := G1
  have hr' : Room 4 (X.tr pn xe).A := hr
  refine s_one ?_
  refine s_expr ?_ (by with_unfolding_all rfl)
  refine w_callX C1 tk G1' hr' (by decide) (by wtm_at "lm.mem") ?_ (by with_unfolding_all rfl) (by with_unfolding_all rfl)
  wtm_at "lm"
  refine ⟨A, ls, rfl, hA, hl, hz, fun e => absurd e ne, fun b n e d H' s hd hd' => ?_⟩
  refine ⟨true, E0.x_LoopError.exm (E0.up b), fun _ a na => ?_, fun e => nomatch e⟩
  intro oe pn2 hz2 hf2
  have CS : FrS (X.suite a ((a, oe) :: pn2)) _ _ _ _ := C.suite
  have xd : ExD H' (some d) := .inr ⟨d, _, rfl, hd'⟩
  show WSs (X.suite a ((a, oe) :: pn2)) _ _ [some (.ref A), some (.ref a), none, none] H'
  cases b with
  | false =>
    have K1 : EK X.K X.mg "BadLine" cB := E0.x_BadLine.toEK
    refine s_cons ?_
    wtm_at "lm"
    refine k_isE K1 E0.ob hz2 hf2 xd (fun u h => h) (E0.x_BadRow.kit K1 E0.s_BadLine_BadRow) ?_
    wtm_at "lm"
    refine k_isE K1 E0.ob hz2 hf2 xd (fun u h => h) (E0.x_BadName.kit K1 E0.s_BadLine_BadName) ?_
    wtm_at "lm"
    refine k_isE K1 E0.ob hz2 hf2 xd (fun u h => h) (E0.x_BadNumber.kit K1 E0.s_BadLine_BadNumber) ?_
    wtm_at "lm"
    refine k_isE K1 E0.ob hz2 hf2 xd (fun u h => h) (E0.x_BadLine.kit K1 E0.x_BadLine.ss) ?_
    wtm_at "lm"
    refine k_isE K1 E0.ob hz2 hf2 xd (fun u h => h) (E0.x_TooDeep.kit K1 E0.s_BadLine_TooDeep) ?_
    wtm_at "lm"
    refine k_isE K1 E0.ob hz2 hf2 xd (fun u h => h) K1.kitV ?_
    wtm_at "lm"
    exact q _
  | true =>
    have K1 : EK X.K X.mg "TooDeep" cT := E0.x_TooDeep.toEK
    refine s_cons ?_
    wtm_at "lm"
    refine k_isE K1 E0.ob hz2 hf2 xd (fun u h => h) (E0.x_BadRow.kit K1 E0.s_TooDeep_BadRow) ?_
    wtm_at "lm"
    refine k_isE K1 E0.ob hz2 hf2 xd (fun u h => h) (E0.x_BadName.kit K1 E0.s_TooDeep_BadName) ?_
    wtm_at "lm"
    refine k_isE K1 E0.ob hz2 hf2 xd (fun u h => h) (E0.x_BadNumber.kit K1 E0.s_TooDeep_BadNumber) ?_
    wtm_at "lm"
    refine k_isE K1 E0.ob hz2 hf2 xd (fun u h => h) (E0.x_BadLine.kit K1 E0.s_TooDeep_BadLine) ?_
    wtm_at "lm"
    refine k_isE K1 E0.ob hz2 hf2 xd (fun u h => h) K1.kitV ?_
    wtm_at "lm"
    exact q _
end
/-! ### _law_odd_line -/
def odd0 : List Str := ("" : Str) :: (" " : Str) :: ("x" : Str) :: ("say" : Str) :: ("say " : Str) :: (" say x" : Str) :: ("say x " : Str) :: ("say  x" : Str) :: ("say x y" : Str) :: ("say 01" : Str) :: ("say -1" : Str) :: []
def odd1 : List Str := ("say 1000000" : Str) :: []
def odd2 : List Str := ("say End" : Str) :: ("say end" : Str) :: ("x = 1" : Str) :: ("x = 1 +" : Str) :: ("x = 1 + 2 " : Str) :: (" x = 1 + 2" : Str) :: ("x = 1 + 2 3" : Str) :: ("x == 1 + 2" : Str) :: []
def odd3 : List Str := ("1 = 1 + 2" : Str) :: ("x = y" : Str) :: ("say = 1 + 2" : Str) :: ("x = 1 & 2" : Str) :: ("x = 1 +2" : Str) :: ("x=1+2" : Str) :: ("when" : Str) :: ("when 1" : Str) :: ("loop x y" : Str) :: []
def odd4 : List Str := ("Loop x" : Str) :: ("again abcdefg" : Str) :: ("while x" : Str) :: ("END" : Str) :: ("end " : Str) :: (" end" : Str) :: ("end x" : Str) :: ("x = 00 + 1" : Str) :: []
def odd5 : List Str := ("x = 1 + 0000001" : Str) :: ("x = a1 + 2" : Str) :: ("loop" : Str) :: ("say +1" : Str) :: ("say 1_0" : Str) :: ("x = 1 + +2" : Str) :: ("x = 1_0 + 2" : Str) :: []
def odd6 : List Str := ("say 1\t" : Str) :: ("say\t1" : Str) :: ("x\t= 1 + 2" : Str) :: ("say 1.0" : Str) :: ("say 0x1" : Str) :: ("x = 1 - -2" : Str) :: ("loop\tx" : Str) :: ("say 1\n" : Str) :: []
def oddL : List Str := ((((((odd0 ++ odd1) ++ odd2) ++ odd3) ++ odd4) ++ odd5) ++ odd6)
/-- a line that is none -/
def badL (z : Str) : Bool := !decide (z = "end") && (rowOf (Txt.split z " ")).isNone && decide (z.length ≤ 100)
theorem odd_bad : oddL.all badL = true := by decide +kernel
theorem odd_at (n : Int) : ∃ z, atI (oddL.map V.str) (n % 52) = some (.str z) ∧ badL z = true := by
  obtain ⟨k, ek, hk⟩ : ∃ k : Nat, n % 52 = (k : Int) ∧ k < 52 := ⟨(n % 52).toNat, by omega, by omega⟩
  have hl : k < oddL.length := by rw [show oddL.length = 52 by decide +kernel]; exact hk
  refine ⟨oddL[k], ?_, List.all_eq_true.mp odd_bad _ (List.getElem_mem hl)⟩
  rw [ek]
  exact atI_nat (by rw [List.getElem?_map, List.getElem?_eq_getElem hl]; rfl)
section
variable {P : Program} {w : World} {K : PySem.W.Frag} {mg : Str → Option Value} {base : Heap}
def spOdd : Sp := fun vs H Q _ => ∃ n : Int, vs = [.int n] ∧ ∀ (z : Str) (H' : Hp), Same H H' → badL z = true → Q (.str z) H'
theorem ok_odd (T : Txt K mg) : CallOk P w K mg base 1 "_law_odd_line" ["_law_number"] spOdd := by
  refine go_l_odd_line T.d_l_odd_line (fun vs H Q E h => ?_) ?_
  · obtain ⟨n, rfl, _⟩ := h
    rfl
  intro X e1 e2 e3 e4 e5 C sc hr vs H Q E h
  subst e1 e2 e3 e4 e5
  obtain ⟨n, rfl, q⟩ := h
  show WSs X _ _ [some (.int n), none] H
  refine s_cons ?_
  wtm_at "lm"
  intro l0 H0 hl0 s0 h0
  replace h0 : H0 l0 = some (.lst (odd0.map V.str)) := h0
  wtm_at "lm"
  intro l1 H1 hl1 s1 h1
  refine b_cat (s1 _ _ h0) h1 (sz (by with_unfolding_all decide)) fun k1 I1 hk1 t1 g1 => ?_
  replace g1 : I1 k1 = some (.lst ((odd0 ++ odd1).map V.str)) := by rw [g1]; rfl
  wtm_at "lm"
  intro l2 H2 hl2 s2 h2
  refine b_cat (s2 _ _ g1) h2 (sz (by with_unfolding_all decide)) fun k2 I2 hk2 t2 g2 => ?_
  replace g2 : I2 k2 = some (.lst (((odd0 ++ odd1) ++ odd2).map V.str)) := by rw [g2]; rfl
  wtm_at "lm"
  intro l3 H3 hl3 s3 h3
  refine b_cat (s3 _ _ g2) h3 (sz (by with_unfolding_all decide)) fun k3 I3 hk3 t3 g3 => ?_
  replace g3 : I3 k3 = some (.lst ((((odd0 ++ odd1) ++ odd2) ++ odd3).map V.str)) := by rw [g3]; rfl
  wtm_at "lm"
  intro l4 H4 hl4 s4 h4
  refine b_cat (s4 _ _ g3) h4 (sz (by with_unfolding_all decide)) fun k4 I4 hk4 t4 g4 => ?_
  replace g4 : I4 k4 = some (.lst (((((odd0 ++ odd1) ++ odd2) ++ odd3) ++ odd4).map V.str)) := by rw [g4]; rfl
  wtm_at "lm"
  intro l5 H5 hl5 s5 h5
  refine b_cat (s5 _ _ g4) h5 (sz (by with_unfolding_all decide)) fun k5 I5 hk5 t5 g5 => ?_
  replace g5 : I5 k5 = some (.lst ((((((odd0 ++ odd1) ++ odd2) ++ odd3) ++ odd4) ++ odd5).map V.str)) := by rw [g5]; rfl
  wtm_at "lm"
  intro l6 H6 hl6 s6 h6
  refine b_cat (s6 _ _ g5) h6 (sz (by with_unfolding_all decide)) fun k6 I6 hk6 t6 g6 => ?_
  replace g6 : I6 k6 = some (.lst (((((((odd0 ++ odd1) ++ odd2) ++ odd3) ++ odd4) ++ odd5) ++ odd6).map V.str)) := by rw [g6]; rfl
  wtm_at "lm"
  obtain ⟨z, ez, bz⟩ := odd_at n
  refine i_lst (SqL.of g6) ez ?_
  refine q z _ ?_ bz
  exact (((((((((((s0.trans s1).trans t1).trans s2).trans t2).trans s3).trans t3).trans s4).trans t4).trans s5).trans t5).trans s6).trans t6
end
/-! ### what read does, and what is due -/
open TL
theorem kd_word {u : Str} {kd : Kd} (h : kdOf u = some kd) : u ∈ wordsR := by
  rcases kd_dec u with ⟨k2, rfl, _⟩ | ⟨_, hno⟩
  · cases k2 <;> decide +kernel
  · rw [kdOf_none hno] at h
    cases h
def Row.isBlk : Row → Bool
  | .blk _ _ _ => true
  | _ => false
theorem rowOf_head {ws : List Str} {r : Row} (h : rowOf ws = some r) : (kdOf (ws.headD "")).isSome = r.isBlk := by
  unfold rowOf at h
  split at h
  · rename_i u v
    show (kdOf u).isSome = _
    split at h
    · rename_i kd ek
      split at h
      · cases h
        rw [ek]
        rfl
      · cases h
    · rename_i ek
      rw [ek]
      split at h
      · cases hv : valueOf v with
        | none => rw [hv] at h; cases h
        | some k => rw [hv] at h; cases h; rfl
      · cases h
  · rename_i to e x g y
    show (kdOf to).isSome = _
    split at h
    · rename_i c
      have nk : kdOf to = none := by
        cases hk : kdOf to with
        | none => rfl
        | some kd => exact absurd (kd_word hk) (name_facts c.1).2.2.2
      rw [nk]
      split at h
      · cases h
        rfl
      · cases h
    · cases h
  · cases h
def Rt (x : Str) : Prop := x = "end" ∨ ∃ r, rowOf (Txt.split x " ") = some r
theorem rdo_due : ∀ (ls : List Str) (p d : Nat), (∀ x ∈ ls, Rt x) → rdo ls p d = dueo ls p d
  | [], p, 0, _ => rfl
  | [], p, d + 1, _ => rfl
  | x :: xs, p, d, h => by
    have ih := fun p d => rdo_due xs p d fun y hy => h y (List.mem_cons_of_mem _ hy)
    rw [rdo_cons, dueo_cons]
    by_cases c : x = "end"
    · rw [if_pos c, if_pos c]
      cases d with
      | zero => rfl
      | succ d => exact ih _ _
    · rw [if_neg c, if_neg c]
      rcases h x List.mem_cons_self with e | ⟨r, e⟩
      · exact absurd e c
      · have hh := rowOf_head e
        unfold fstW
        rw [e, hh]
        cases r with
        | blk kd t B =>
          show (if d = 20 then some (true, p) else rdo xs (p + 1) (d + 1)) = (if d = 20 then some (true, p) else dueo xs (p + 1) (d + 1))
          rw [ih]
        | lt to sg x y =>
          exact ih _ _
        | say x =>
          exact ih _ _
theorem rt_line {ns : List Str} (hn : ∀ s ∈ ns, isName s = true) {r : Row} (ok : RowOk ns r) : Rt (lineOf r) := .inr ⟨_, by rw [split_line hn ok]; exact rowOf_words hn ok⟩
/-- no more than 100 signs -/
def Sh (x : Str) : Prop := x.length ≤ 1000
mutual
theorem Row.ln_rt {ns : List Str} (hn : ∀ s ∈ ns, isName s = true) : ∀ {r : Row}, RowOk ns r → ∀ x ∈ r.ln, Rt x ∧ x.length ≤ 100
  | .lt _ _ _ _, ok, x, hx => by
    rw [Row.ln] at hx
    rw [List.mem_singleton.mp hx]
    exact ⟨rt_line hn ok, line_len hn ok⟩
  | .say _, ok, x, hx => by
    rw [Row.ln] at hx
    rw [List.mem_singleton.mp hx]
    exact ⟨rt_line hn ok, line_len hn ok⟩
  | .blk kd t rs, ok, x, hx => by
    rw [Row.ln] at hx
    rw [RowOk] at ok
    rcases List.mem_cons.mp hx with rfl | hx
    · have okb : RowOk ns (.blk kd t []) := by rw [RowOk, RowsOk]; exact ⟨ok.1, trivial⟩
      exact ⟨rt_line hn okb, line_len hn okb⟩
    · rcases List.mem_append.mp hx with hx | hx
      · exact lns_rt hn ok.2 x hx
      · rw [List.mem_singleton.mp hx]
        exact ⟨.inl rfl, by decide +kernel⟩
theorem lns_rt {ns : List Str} (hn : ∀ s ∈ ns, isName s = true) : ∀ {rs : List Row}, RowsOk ns rs → ∀ x ∈ lns rs, Rt x ∧ x.length ≤ 100
  | [], _, x, hx => by rw [lns] at hx; exact nomatch hx
  | r :: rs, ok, x, hx => by
    rw [lns] at hx
    rw [RowsOk] at ok
    rcases List.mem_append.mp hx with hx | hx
    · exact Row.ln_rt hn ok.1 x hx
    · exact lns_rt hn ok.2 x hx
end
theorem rdo_row {x : Str} {r : Row} {xs : List Str} {p d : Nat} (h : rowOf (Txt.split x " ") = some r) (ne : x ≠ "end") : rdo (x :: xs) p d = (if r.isBlk = true then (if d = 20 then some (true, p) else rdo xs (p + 1) (d + 1)) else rdo xs (p + 1) d) := by
  rw [rdo_cons, if_neg ne, h]
  cases r <;> rfl
mutual
theorem Row.rdo_ln {ns : List Str} (hn : ∀ s ∈ ns, isName s = true) : ∀ (r : Row) (t : List Str) (p d : Nat), RowOk ns r → d + r.dep ≤ 20 → rdo (r.ln ++ t) p d = rdo t (p + r.ln.length) d
  | .lt to sg x y, t, p, d, ok, _ => by
    rw [Row.ln]
    show rdo (lineOf (.lt to sg x y) :: t) p d = _
    rw [rdo_row (r := .lt to sg x y) (by rw [split_line hn ok]; exact rowOf_words hn ok) (line_end _)]
    rfl
  | .say x, t, p, d, ok, _ => by
    rw [Row.ln]
    show rdo (lineOf (.say x) :: t) p d = _
    rw [rdo_row (r := .say x) (by rw [split_line hn ok]; exact rowOf_words hn ok) (line_end _)]
    rfl
  | .blk kd x rs, t, p, d, ok, hd => by
    rw [RowOk] at ok
    rw [Row.dep] at hd
    have okb : RowOk ns (.blk kd x []) := by rw [RowOk, RowsOk]; exact ⟨ok.1, trivial⟩
    rw [Row.ln, List.cons_append, rdo_row (r := .blk kd x []) (by rw [split_line hn okb]; exact rowOf_words hn okb) (line_end _)]
    show (if d = 20 then some (true, p) else rdo ((lns rs ++ (["end"] : List Str)) ++ t) (p + 1) (d + 1)) = _
    rw [if_neg (by omega), List.append_assoc, rdo_lns hn rs _ _ _ ok.2 (by omega)]
    show rdo (("end" : Str) :: t) _ (d + 1) = _
    rw [rdo_cons, if_pos rfl]
    show rdo t (p + 1 + (lns rs).length + 1) d = _
    congr 1
    rw [List.length_cons, List.length_append]
    show _ = p + ((lns rs).length + 1 + 1)
    omega
theorem rdo_lns {ns : List Str} (hn : ∀ s ∈ ns, isName s = true) : ∀ (rs : List Row) (t : List Str) (p d : Nat), RowsOk ns rs → d + deps rs ≤ 20 → rdo (lns rs ++ t) p d = rdo t (p + (lns rs).length) d
  | [], t, p, d, _, _ => by rw [lns]; rfl
  | r :: rs, t, p, d, ok, hd => by
    rw [RowsOk] at ok
    rw [deps] at hd
    rw [lns, List.append_assoc, Row.rdo_ln hn r _ _ _ ok.1 (by omega), rdo_lns hn rs _ _ _ ok.2 (by omega), List.length_append]
    congr 1
    omega
end
theorem rdo_pre : ∀ (l1 l3 : List Str) (p d : Nat), rdo (l1 ++ l3) p d = none → ∃ d', ∀ l2, rdo (l1 ++ l2) p d = rdo l2 (p + l1.length) d'
  | [], l3, p, d, _ => ⟨d, fun l2 => rfl⟩
  | x :: l1, l3, p, d, h => by
    have fin : ∀ d2, rdo (l1 ++ l3) (p + 1) d2 = none → (∀ l2, rdo (x :: (l1 ++ l2)) p d = rdo (l1 ++ l2) (p + 1) d2) → ∃ d', ∀ l2, rdo (x :: l1 ++ l2) p d = rdo l2 (p + (x :: l1).length) d' := fun d2 h2 e => by
      obtain ⟨d', hd⟩ := rdo_pre l1 l3 (p + 1) d2 h2
      refine ⟨d', fun l2 => (e l2).trans ((hd l2).trans ?_)⟩
      congr 1
      rw [List.length_cons]
      omega
    rw [List.cons_append, rdo_cons] at h
    by_cases c : x = "end"
    · rw [if_pos c] at h
      cases d with
      | zero => cases h
      | succ d => exact fin d h fun l2 => by rw [rdo_cons, if_pos c]
    · rw [if_neg c] at h
      cases e : rowOf (Txt.split x " ") with
      | none => rw [e] at h; cases h
      | some r =>
        rw [e] at h
        cases r with
        | lt to sg a b => exact fin d h fun l2 => by rw [rdo_cons, if_neg c, e]
        | say a => exact fin d h fun l2 => by rw [rdo_cons, if_neg c, e]
        | blk kd t B =>
          by_cases c2 : d = 20
          · replace h : (if d = 20 then some (true, p) else rdo (l1 ++ l3) (p + 1) (d + 1)) = none := h
            rw [if_pos c2] at h
            cases h
          · replace h : (if d = 20 then some (true, p) else rdo (l1 ++ l3) (p + 1) (d + 1)) = none := h
            rw [if_neg c2] at h
            exact fin (d + 1) h fun l2 => by
              rw [rdo_cons, if_neg c, e]
              show (if d = 20 then _ else _) = _
              rw [if_neg c2]
theorem rdo_bad {z : Str} (h : badL z = true) (l : List Str) (p d : Nat) : rdo (z :: l) p d = some (false, p) := by
  unfold badL at h
  rw [Bool.and_eq_true_iff, Bool.and_eq_true_iff] at h
  have ne : z ≠ "end" := fun e => by rw [decide_eq_true e] at h; exact absurd h.1.1 (by decide)
  have hr := Option.isNone_iff_eq_none.mp h.1.2
  rw [rdo_cons, if_neg ne, hr]
/-- a wrong line within the lines of a program -/
theorem rdo_odd {ns : List Str} (hn : ∀ s ∈ ns, isName s = true) {rs : List Row} (ok : RowsOk ns rs) (hd : deps rs ≤ 20) {z : Str} (h : badL z = true) (k : Nat) (hk : k ≤ (lns rs).length) :
    rdo ((lns rs).take k ++ (z :: (lns rs).drop k)) 0 0 = some (false, k) := by
  have h0 : rdo (lns rs ++ []) 0 0 = none := by rw [rdo_lns hn rs [] 0 0 ok (by omega)]; rfl
  rw [List.append_nil, ← List.take_append_drop k (lns rs)] at h0
  obtain ⟨d', e⟩ := rdo_pre _ _ _ _ h0
  rw [e, rdo_bad h, List.length_take, Nat.min_eq_left hk, Nat.zero_add]
/-- twenty blocks ahead -/
theorem rdo_heads {ns : List Str} (hn : ∀ s ∈ ns, isName s = true) : ∀ (ks : List (Kd × Str)) (t : List Str) (p d : Nat), (∀ k ∈ ks, k.2 ∈ ns) → d + ks.length ≤ 20 → rdo (ks.map (fun k => lineOf (.blk k.1 k.2 [])) ++ t) p d = rdo t (p + ks.length) (d + ks.length)
  | [], t, p, d, _, _ => rfl
  | k :: ks, t, p, d, h, hd => by
    rw [List.length_cons] at hd
    have okb : RowOk ns (.blk k.1 k.2 []) := by rw [RowOk, RowsOk]; exact ⟨h k List.mem_cons_self, trivial⟩
    rw [List.map_cons, List.cons_append, rdo_row (r := .blk k.1 k.2 []) (by rw [split_line hn okb]; exact rowOf_words hn okb) (line_end _)]
    show (if d = 20 then some (true, p) else rdo (ks.map (fun k => lineOf (.blk k.1 k.2 [])) ++ t) (p + 1) (d + 1)) = _
    rw [if_neg (by omega), rdo_heads hn ks t _ _ (fun k' hk' => h k' (List.mem_cons_of_mem _ hk')) (by omega), List.length_cons]
    congr 1 <;> omega
/-! ### the law: lines that are none -/
open TL
def kd3 (n : Int) : Kd := if n % 3 = 0 then .whn else if n % 3 = 1 then .lop else .agn
theorem kd3_at (n : Int) : atI ([.str "when ", .str "loop ", .str "again "] : List V) (n % 3) = some (.str ((kd3 n).nm ++ " ")) := by
  have : n % 3 = 0 ∨ n % 3 = 1 ∨ n % 3 = 2 := by omega
  unfold kd3
  rcases this with h | h | h <;> rw [h]
  · exact congrArg (fun z => some (V.str z)) (by decide +kernel : ("when " : Str) = Kd.whn.nm ++ " ")
  · exact congrArg (fun z => some (V.str z)) (by decide +kernel : ("loop " : Str) = Kd.lop.nm ++ " ")
  · exact congrArg (fun z => some (V.str z)) (by decide +kernel : ("again " : Str) = Kd.agn.nm ++ " ")
theorem ns_at {ns : List Str} (hl : ns.length = 16) (k : Int) : atI (ns.map V.str) (k % 8) = some (.str (ns.getD (k % 8).toNat "")) := by
  obtain ⟨j, ej, hj⟩ : ∃ j : Nat, k % 8 = (j : Int) ∧ j < 8 := ⟨(k % 8).toNat, by omega, by omega⟩
  rw [ej, Int.toNat_natCast]
  exact atI_nat (by rw [List.getElem?_map, List.getElem?_eq_getElem (by omega), List.getD_eq_getElem?_getD, List.getElem?_eq_getElem (by omega)]; rfl)
theorem ns_mem {ns : List Str} (hl : ns.length = 16) (k : Int) : ns.getD (k % 8).toNat "" ∈ ns := by
  have : (k % 8).toNat < ns.length := by omega
  rw [List.getD_eq_getElem?_getD, List.getElem?_eq_getElem this]
  exact List.getElem_mem this
/-- the k-th block ahead -/
def hd1 (ns : List Str) (m : Int) (k : Nat) : Kd × Str := (kd3 (k + m), ns.getD ((k : Int) % 8).toNat "")
def hdL (q : Kd × Str) : Str := lineOf (.blk q.1 q.2 [])
def hds (ns : List Str) (m : Int) (n : Nat) : List Str := (List.range n).map fun k => hdL (hd1 ns m k)
theorem hds_succ (ns : List Str) (m : Int) (n : Nat) : hds ns m (n + 1) = hds ns m n ++ [hdL (hd1 ns m n)] := by
  unfold hds
  rw [List.range_succ, List.map_append]
  rfl
theorem hds_len (ns : List Str) (m : Int) (n : Nat) : (hds ns m n).length = n := by unfold hds; rw [List.length_map, List.length_range]
def GoodL (ls : List Str) : Prop := ∀ x ∈ ls, Rt x ∧ x.length ≤ 100
theorem GoodL.app {ls ms : List Str} (a : GoodL ls) (b : GoodL ms) : GoodL (ls ++ ms) := fun x hx => (List.mem_append.mp hx).elim (a x) (b x)
theorem good_end (n : Nat) : GoodL (List.replicate n ("end" : Str)) := fun x hx => by
  rw [List.eq_of_mem_replicate hx]
  exact ⟨.inl rfl, by decide +kernel⟩
theorem hdL_good {ns : List Str} (hn : ∀ s ∈ ns, isName s = true) {q : Kd × Str} (h : q.2 ∈ ns) : Rt (hdL q) ∧ (hdL q).length ≤ 100 := by
  have okb : RowOk ns (.blk q.1 q.2 []) := by rw [RowOk, RowsOk]; exact ⟨h, trivial⟩
  exact ⟨rt_line hn okb, line_len hn okb⟩
theorem hds_good {ns : List Str} (hn : ∀ s ∈ ns, isName s = true) (hl : ns.length = 16) (m : Int) (n : Nat) : GoodL (hds ns m n) := fun x hx => by
  obtain ⟨k, _, rfl⟩ := List.mem_map.mp hx
  exact hdL_good hn (ns_mem hl k)
theorem rep_flat (v : V) : ∀ n : Nat, (List.replicate n [v]).flatten = List.replicate n v
  | 0 => rfl
  | n + 1 => by rw [List.replicate_succ, List.flatten_cons, rep_flat v n]; rfl
theorem b_rep {X : Cx} {H : Hp} {Q : VK} {l : Addr} {v : V} {k : Nat} (h : H l = some (.lst [v])) (hk : k ≤ 100000) (q : ∀ p H2, H p = none → Same H H2 → H2 p = some (.lst (List.replicate k v)) → Q (.ref p) H2) : WB X .Mult (.ref l) (.int (k : Int)) H Q :=
  ⟨_, op_rep, l, k, [v], rfl, rfl, h, by omega, by omega, by rw [Int.toNat_natCast]; show 1 * k ≤ sizeLine; rw [sizeLine_eq]; omega, fun p hp => q p _ hp (same_new hp) (by rw [Int.toNat_natCast, rep_flat]; exact upd_same)⟩
theorem oddB (n : Int) : ∃ z, atI ([.str "when 1", .str "loop", .str "again end", .str "say"] : List V) (n % 4) = some (.str z) ∧ badL z = true := by
  have : n % 4 = 0 ∨ n % 4 = 1 ∨ n % 4 = 2 ∨ n % 4 = 3 := by omega
  rcases this with h | h | h | h <;> rw [h]
  · exact ⟨"when 1", rfl, by decide +kernel⟩
  · exact ⟨"loop", rfl, by decide +kernel⟩
  · exact ⟨"again end", rfl, by decide +kernel⟩
  · exact ⟨"say", rfl, by decide +kernel⟩
theorem lay_w {s : Str} (h : PyData.strOk s = true) (i : Int) : (PyData.list [.str s, .int i]).canLay0 = true := by
  simp [PyData.canLay0, PyData.canLayAll0, h]
theorem sh_w {s : Str} (h : PyData.strOk s = true) (i : Int) : SeqAt.shaped (.list [.str s, .int i]) = true := by
  unfold SeqAt.shaped
  rw [lay_w h, Bool.true_and]
  rfl
section
variable {P : Program} {w : World} {K : PySem.W.Frag} {mg : Str → Option Value} {base : Heap}
def spWhole12 : Sp := fun vs H Q _ => ∃ i : Int, vs = [.int i] ∧ Q (.bl true) H
theorem ok_whole12 (T : Txt K mg) : CallOk P w K mg base 1 "_law_whole" ["_law_found_here"] spWhole12 := by
  refine go_l_whole T.d_l_whole (fun vs H Q E h => ?_) ?_
  · obtain ⟨i, rfl, _⟩ := h
    rfl
  intro X e1 e2 e3 e4 e5 C sc hr vs H Q E h
  subst e1 e2 e3 e4 e5
  obtain ⟨i, rfl, q⟩ := h
  show WSs X _ _ [some (.int i)] H
  have b1 := T.b_isinstance
  have b2 := T.b_int
  have b3 := T.b_bool
  refine s_one ?_
  wtm_at "lm"
  exact q
def spLaw (K : PySem.W.Frag) : Sp := fun vs H Q _ => ∃ (a : Addr) (ns : List Int), vs = [.ref a] ∧ SqL K H a (ns.map V.int) ∧ ns.length ≤ 63 ∧ ∀ H', Q (.bl true) H'
theorem ok_law {f : Addr} {fd : FuncData} (F : Fun K "law" "law" s_law f fd) (T : Txt K mg) : FnOk P w K mg base CX0 150 f fd ["_law_script"] (spLaw K) := by
  obtain ⟨cL, cR, cN, cM, cB, cT, E0⟩ := T.xs
  have G1 : CallOk P w K mg base 1 "_law_cell_at" ["_law_script", "_law_k"] (spCellAt K) := ok_cell_at T
  have G3 : CallOk P w K mg base 1 "_law_names" ["_law_cell"] spNames := ok_names T
  have G6 : CallOk P w K mg base 3 "_law_program" ["_law_cells", "_law_names_here"] (spProgram K) := ok_program T
  have G7 : CallOk P w K mg base (40 + 1) "_law_lines" ["_law_rows"] (spTold 40) := ok_llines T 40
  have G8 : CallOk P w K mg base 1 "_law_due" ["_law_lines_here"] (spDue K) := ok_due T
  have G9 : CallOk P w K mg base 1 "_law_odd_line" ["_law_number"] spOdd := ok_odd T
  have G10 : CallOk P w K mg base 5 "_law_found" ["_law_lines_here"] (spFound K) := ok_found T E0
  have G11 : CallOk P w K mg base 1 "_law_whole" ["_law_found_here"] spWhole12 := ok_whole12 T
  have G12 : CallOk P w K mg base 5 "_law_refused_by_any" ["_law_lines_here"] (spRefused K) := ok_refused T E0
  refine go_law F (fun vs H Q E h => ?_) ?_
  · obtain ⟨a, ns, rfl, _⟩ := h
    rfl
  intro X e1 e2 e3 e4 e5 C sc hr vs H Q E h
  subst e1 e2 e3 e4 e5
  obtain ⟨a, ns, rfl, hS, hl, q⟩ := h
  have b1 := T.b_range
  have b2 := T.b_list
  have b3 := T.b_len
  show WSs X _ _ [some (.ref a), none, none, none, none, none, none, none, none, none, none, none, none] H
  refine s_cons ?_
  wtm_at "lm"
  refine ⟨a, ns, 0, rfl, hS, ?_⟩
  wtm_at "lm"
  refine ⟨_, rfl, fun A H1 nm s1 hA1 h1 nl nok => ?_⟩
  have hS1 := s1.seq hS
  wtm_at "lm"
  refine l_lst hS1 fun s H2 hs2 s2 h2 => ?_
  rw [show cutV (ns.map V.int) (some 3) none = (ns.drop 3).map V.int from drop_ints ns 3] at h2
  have h12 := s2 _ _ h1
  wtm_at "lm"
  refine ⟨ns.drop 3, nm, s, A, rfl, SqL.of h2, by rw [List.length_drop]; omega, SqL.of h12, nl, fun r H3 rs fp s3 p1 ok p3 p4 p5 p6 => ?_⟩
  rw [List.length_drop] at p4
  have h13 := s3 _ _ h12
  wtm_at "lm"
  refine ⟨r, rs, fp, nm, rfl, p1, by omega, by omega, ok, nok, fun L0 H4 s4 hL0 h4 => ?_⟩
  have h14 := s4 _ _ h13
  have hS4 := s4.seq (s3.seq (s2.seq hS1))
  have ll := lns_len rs
  have gl : GoodL (lns rs) := lns_rt nok ok
  wtm_at "lm"
  refine ⟨a, ns, 1, rfl, hS4, ?_⟩
  generalize ns.getD 1 0 = cell1
  wtm_at "lm"
  refine b_mod (by rw [List.length_map]; omega) ?_
  obtain ⟨at_, ea, hat⟩ : ∃ k : Nat, cell1 % (((lns rs).map V.str).length + 1 : Int) = (k : Int) ∧ k ≤ (lns rs).length := by
    rw [List.length_map]
    have h1 := Int.emod_nonneg cell1 (b := ((lns rs).length + 1 : Int)) (by omega)
    have h2 := Int.emod_lt_of_pos cell1 (b := ((lns rs).length + 1 : Int)) (by omega)
    exact ⟨(cell1 % ((lns rs).length + 1 : Int)).toNat, by omega, by omega⟩
  rw [ea]
  wtm_at "lm"
  refine ⟨a, ns, 2, rfl, hS4, ?_⟩
  generalize ns.getD 2 0 = more
  wtm_at "lms"
  refine s_cons ?_
  wtm_at "lms"
  -- blocks ahead
  refine s_cut (fun σ' H' => ∃ (L : Addr) (ls : List Str) (o6 o7 o8 o9 : Option V), σ' = [some (.ref a), some (.ref A), some (.ref L), some (.int at_), some (.int more), some (.int (more % 6)), o6, o7, o8, o9, none, none, none] ∧ Same H4 H' ∧ H' L = some (.lst (ls.map V.str)) ∧ GoodL ls ∧ ls.length ≤ (lns rs).length + 50 ∧ (more % 6 ≠ 0 → ls = lns rs)) ?_ ?_
  · wtm_at "lm"
    refine ite_dec (fun c => ?_) (fun c => ?_)
    · obtain ⟨cnt, ec, hcnt⟩ : ∃ cnt : Nat, 19 + more / 6 % 5 = (cnt : Int) ∧ cnt ≤ 23 := ⟨(19 + more / 6 % 5).toNat, by omega, by omega⟩
      wtm_at "lm"
      rw [ec]
      wtm_at "lm"
      intro B H5 hB s5 h5
      wtm_at "lm"
      refine ⟨by omega, by omega, ?_⟩
      rw [Int.toNat_natCast]
      refine for_r (n := cnt) (fun i σ' H' => ∃ (o8 o9 : Option V), σ' = [some (.ref a), some (.ref A), some (.ref L0), some (.int at_), some (.int more), some (.int (more % 6)), some (.int cnt), some (.ref B), o8, o9, none, none, none] ∧ Same H4 H' ∧ H' B = some (.lst ((hds nm more i).map V.str))) ⟨none, none, rfl, s5, h5⟩ ?_ ?_
      · rintro i σ' H' hi ⟨o8, o9, rfl, s, hBi⟩
        refine ⟨_, by wtm_at "lm.put", ?_⟩
        have hA' := s _ _ h14
        wtm_at "lm"
        intro p H6 hp s6 h6
        wtm_at "lm"
        refine i_lst (SqL.of h6) (kd3_at _) ?_
        have hA6 := s6 _ _ hA'
        have hB6 := s6 _ _ hBi
        wtm_at "lm"
        refine i_lst (SqL.of hA6) (ns_at nl _) ?_
        have gg := hdL_good nok (q := hd1 nm more i) (ns_mem nl i)
        wtm_at "lm"
        refine b_adds (sz (by
          have := gg.2
          unfold hdL lineOf at this
          rw [len_app] at this
          exact Nat.le_trans this (by decide))) ?_
        wtm_at "lm"
        refine x_app hB6 (by rw [List.length_map, hds_len]; omega) ?_
        wtm_at "lm"
        refine ⟨_, _, rfl, Same.mut (s.trans s6) hB, ?_⟩
        rw [upd_same, hds_succ, List.map_append]
        rfl
      · rintro σ' H6 ⟨o8, o9, rfl, s6, hB6⟩
        have h46 := s6 _ _ h4
        wtm_at "lm"
        refine b_cat hB6 h46 (sz (by rw [List.length_map, List.length_map, hds_len]; omega)) fun M H7 hM s7 h7 => ?_
        wtm_at "lm"
        intro e H8 he s8 h8
        wtm_at "lm"
        refine b_rep h8 (by omega) fun R H9 hR s9 h9 => ?_
        refine b_cat (s9 _ _ (s8 _ _ h7)) h9 (sz (by rw [List.length_append, List.length_map, List.length_map, hds_len, List.length_replicate]; omega)) fun M2 H10 hM2 s10 h10 => ?_
        wtm_at "lm"
        refine ⟨M2, hds nm more cnt ++ lns rs ++ List.replicate cnt ("end" : Str), _, _, _, _, rfl, ((s6.trans (s7.trans s8)).trans s9).trans s10, ?_, ((hds_good nok nl more cnt).app gl).app (good_end cnt), by rw [List.length_append, List.length_append, hds_len, List.length_replicate]; omega, fun n => absurd c n⟩
        rw [h10, List.map_append, List.map_append, List.map_replicate]
    · wtm_at "lm"
      exact ⟨L0, lns rs, _, _, _, _, rfl, Same.refl _, h4, gl, by omega, fun _ => rfl⟩
  rintro σ' H5 ⟨L1, ls1, o6, o7, o8, o9, rfl, s45, h5, g1, n1, c1⟩
  have h15 := s45 _ _ h14
  -- an end more
  refine s_cut (fun σ' H' => ∃ (L : Addr) (ls : List Str), σ' = [some (.ref a), some (.ref A), some (.ref L), some (.int at_), some (.int more), some (.int (more % 6)), o6, o7, o8, o9, none, none, none] ∧ Same H5 H' ∧ H' L = some (.lst (ls.map V.str)) ∧ GoodL ls ∧ ls.length ≤ (lns rs).length + 51 ∧ (more % 6 ≠ 0 → more % 6 ≠ 1 → ls = lns rs)) ?_ ?_
  · wtm_at "lm"
    refine ite_dec (fun c => ?_) (fun c => ?_)
    · have e1 : ls1 = lns rs := c1 (by omega)
      subst e1
      wtm_at "lm"
      refine l_lst (SqL.of h5) fun x1 H6 hx1 s6 h6 => ?_
      wtm_at "lm"
      intro x2 H7 hx2 s7 h7
      refine b_cat (s7 _ _ h6) h7 (sz (by rw [show cutV ((lns rs).map V.str) none (some (at_ : Int)) = ((lns rs).map V.str).take at_ from cut_to_n _ _, List.length_take, List.length_map]; show _ + 1 ≤ _; omega)) fun x3 H8 hx3 s8 h8 => ?_
      have h58 := s8 _ _ (s7 _ _ (s6 _ _ h5))
      wtm_at "lm"
      refine l_lst (SqL.of h58) fun x4 H9 hx4 s9 h9 => ?_
      refine b_cat (s9 _ _ h8) h9 (sz ?_) fun x5 H10 hx5 s10 h10 => ?_
      · rw [show cutV ((lns rs).map V.str) none (some (at_ : Int)) = ((lns rs).map V.str).take at_ from cut_to_n _ _, show cutV ((lns rs).map V.str) (some (at_ : Int)) none = ((lns rs).map V.str).drop at_ from cut_from _ _, List.length_append, List.length_take, List.length_drop, List.length_map]
        show _ + 1 + _ ≤ _
        omega
      wtm_at "lm"
      refine ⟨x5, (lns rs).take at_ ++ (["end"] : List Str) ++ (lns rs).drop at_, rfl, ((s6.trans s7).trans (s8.trans s9)).trans s10, ?_, ?_, ?_, fun _ n => absurd c n⟩
      · rw [h10, show cutV ((lns rs).map V.str) none (some (at_ : Int)) = ((lns rs).map V.str).take at_ from cut_to_n _ _, show cutV ((lns rs).map V.str) (some (at_ : Int)) none = ((lns rs).map V.str).drop at_ from cut_from _ _, List.map_append, List.map_append, List.map_take, List.map_drop]
        rfl
      · exact (GoodL.app (fun x hx => gl x (List.mem_of_mem_take hx)) (good_end 1)).app fun x hx => gl x (List.mem_of_mem_drop hx)
      · rw [List.length_append, List.length_append, List.length_take, List.length_drop]
        show _ + 1 + _ ≤ _
        omega
    · wtm_at "lm"
      exact ⟨L1, ls1, rfl, Same.refl _, h5, g1, by omega, fun n _ => c1 n⟩
  rintro σ' H6 ⟨L2_, ls2, rfl, s56, h6, g2, n2, c2⟩
  have h16 := s56 _ _ h15
  -- a block more
  refine s_cut (fun σ' H' => ∃ (L : Addr) (ls : List Str) (o10 : Option V), σ' = [some (.ref a), some (.ref A), some (.ref L), some (.int at_), some (.int more), some (.int (more % 6)), o6, o7, o8, o9, o10, none, none] ∧ Same H6 H' ∧ H' L = some (.lst (ls.map V.str)) ∧ GoodL ls ∧ ls.length ≤ (lns rs).length + 52 ∧ (more % 6 ≠ 0 → more % 6 ≠ 1 → more % 6 ≠ 2 → ls = lns rs)) ?_ ?_
  · wtm_at "lm"
    refine ite_dec (fun c => ?_) (fun c => ?_)
    · have e1 : ls2 = lns rs := c2 (by omega) (by omega)
      subst e1
      have gg := hdL_good nok (q := (Kd.lop, nm.getD (more / 6 % 8).toNat "")) (ns_mem nl _)
      wtm_at "lm"
      refine i_lst (SqL.of h16) (ns_at nl _) ?_
      refine b_adds (sz (by
        have := gg.2
        unfold hdL lineOf at this
        rw [len_app] at this
        exact Nat.le_trans this (by decide))) ?_
      rw [show ("loop " : Str) = Kd.lop.nm ++ " " by decide +kernel]
      wtm_at "lm"
      refine l_lst (SqL.of h6) fun x1 H7 hx1 s7 h7 => ?_
      wtm_at "lm"
      intro x2 H8 hx2 s8 h8
      refine b_cat (s8 _ _ h7) h8 (sz (by rw [show cutV ((lns rs).map V.str) none (some (at_ : Int)) = ((lns rs).map V.str).take at_ from cut_to_n _ _, List.length_take, List.length_map]; show _ + 1 ≤ _; omega)) fun x3 H9 hx3 s9 h9 => ?_
      have h69 := s9 _ _ (s8 _ _ (s7 _ _ h6))
      wtm_at "lm"
      refine l_lst (SqL.of h69) fun x4 H10 hx4 s10 h10 => ?_
      refine b_cat (s10 _ _ h9) h10 (sz ?_) fun x5 H11 hx5 s11 h11 => ?_
      · rw [show cutV ((lns rs).map V.str) none (some (at_ : Int)) = ((lns rs).map V.str).take at_ from cut_to_n _ _, show cutV ((lns rs).map V.str) (some (at_ : Int)) none = ((lns rs).map V.str).drop at_ from cut_from _ _, List.length_append, List.length_take, List.length_drop, List.length_map]
        show _ + 1 + _ ≤ _
        omega
      wtm_at "lm"
      refine ⟨x5, (lns rs).take at_ ++ [hdL (Kd.lop, nm.getD (more / 6 % 8).toNat "")] ++ (lns rs).drop at_, _, rfl, ((s7.trans s8).trans (s9.trans s10)).trans s11, ?_, ?_, ?_, fun _ _ n => absurd c n⟩
      · rw [h11, show cutV ((lns rs).map V.str) none (some (at_ : Int)) = ((lns rs).map V.str).take at_ from cut_to_n _ _, show cutV ((lns rs).map V.str) (some (at_ : Int)) none = ((lns rs).map V.str).drop at_ from cut_from _ _, List.map_append, List.map_append, List.map_take, List.map_drop]
        rfl
      · exact (GoodL.app (fun x hx => gl x (List.mem_of_mem_take hx)) (fun x hx => by rw [List.mem_singleton.mp hx]; exact gg)).app fun x hx => gl x (List.mem_of_mem_drop hx)
      · rw [List.length_append, List.length_append, List.length_take, List.length_drop]
        show _ + 1 + _ ≤ _
        omega
    · wtm_at "lm"
      exact ⟨L2_, ls2, _, rfl, Same.refl _, h6, g2, by omega, fun n m _ => c2 n m⟩
  rintro σ' H7 ⟨L3, ls3, o10, rfl, s67, h7, g3, n3, c3⟩
  have h17 := s67 _ _ h16
  refine s_cons ?_
  wtm_at "lm"
  refine ⟨L3, ls3, rfl, SqL.of h7, by omega, fun z hz => Nat.le_trans (g3 z hz).2 (by decide), fun D H8 s8 h8 => ?_⟩
  have rd : rdo ls3 0 0 = dueo ls3 0 0 := rdo_due ls3 0 0 fun x hx => (g3 x hx).1
  rw [← rd] at h8
  have h78 := s8 _ _ h7
  have h18 := s8 _ _ h17
  wtm_at "lms"
  -- a wrong line within twenty blocks
  refine s_cut (fun σ' H' => ∃ (L D : Addr) (ls : List Str) (o7 o8 : Option V), σ' = [some (.ref a), some (.ref A), some (.ref L), some (.int at_), some (.int more), some (.int (more % 6)), o6, o7, o8, o9, o10, some (.ref D), none] ∧ Same H8 H' ∧ H' L = some (.lst (ls.map V.str)) ∧ H' D = some (.lst [.str (oW (rdo ls 0 0)), .int (oN (rdo ls 0 0))]) ∧ (∀ x ∈ ls, x.length ≤ 100) ∧ ls.length ≤ (lns rs).length + 100 ∧ (more % 6 = 3 ∨ more % 6 = 4 → ls = lns rs)) ?_ ?_
  · wtm_at "lm"
    refine ite_dec (fun c => ?_) (fun c => ?_)
    · wtm_at "lm"
      refine ite_dec (fun c' => ?_) (fun c' => ?_)
      · have e1 : ls3 = lns rs := c3 (by omega) (by omega) (by omega)
        subst e1
        wtm_at "lm"
        refine s_setLc (i := 8) C (by wtm_at "lm.mem") (by rw [sc]; decide +kernel) (by rw [sc]; decide +kernel) (by decide +kernel) (by rw [sc]; exact blkOk_by (by decide +kernel)) rfl (by wtm_at "lm.wip") (by decide +kernel) (by decide +kernel) (by wtm_at "lm.mem") (wi_range C (by wtm_at "lm.mem") b1 ?_)
        wtm_at "lm"
        refine ⟨by omega, by omega, ?_⟩
        refine lc_vals (f := fun i v => v = .int (0 + i)) (walk_range (lo := 0) (n := 20)) (fun i => .str (hdL (hd1 nm more i))) (by decide) (fun _ _ => trivial) (fun i y H9 hi hy s9 => ?_) fun B H9 hB s9 h9 => ?_
        · subst hy
          rw [Int.zero_add]
          refine ⟨_, by wtm_at "lm.put", fun Y hY => ?_⟩
          have CY := hY.fr (L' := ["_law_k"]) (Vs' := ["_law_k", "_law_more", "_law_names_here"]) (G' := []) C (by decide +kernel)
          have h19 := s9 _ _ h18
          wtm_at "lm"
          intro p H10 hp s10 h10
          wtm_at "lm"
          refine i_lst (SqL.of h10) (kd3_at _) ?_
          have h110 := s10 _ _ h19
          wtm_at "lm"
          refine i_lst (SqL.of h110) (ns_at nl _) ?_
          have gg := hdL_good nok (q := hd1 nm more i) (ns_mem nl i)
          wtm_at "lm"
          refine b_adds (sz (by
            have := gg.2
            unfold hdL lineOf at this
            rw [len_app] at this
            exact Nat.le_trans this (by decide))) ?_
          exact ⟨s10, rfl⟩
        have h9' : H9 B = some (.lst ((hds nm more 20).map V.str)) := by rw [h9]; unfold hds; rw [List.map_map]; rfl
        wtm_at "lm"
        intro p1 H10 hp1 s10 h10
        wtm_at "lm"
        obtain ⟨z, ez, bz⟩ := oddB (more / 18)
        refine i_lst (SqL.of h10) ez ?_
        wtm_at "lm"
        intro p2 H11 hp2 s11 h11
        refine b_cat (s11 _ _ (s10 _ _ h9')) h11 (sz (by rw [List.length_map, hds_len]; show _ + 1 ≤ _; omega)) fun M1 H12 hM1 s12 h12' => ?_
        have h712 := s12 _ _ (s11 _ _ (s10 _ _ (s9 _ _ h78)))
        wtm_at "lm"
        refine b_cat h12' h712 (sz (by rw [List.length_append, List.length_map, List.length_map, hds_len]; show _ + 1 + _ ≤ _; omega)) fun M2 H13 hM2 s13 h13' => ?_
        wtm_at "lm"
        intro e H14 he s14 h14'
        wtm_at "lm"
        refine b_rep (k := 20) h14' (by omega) fun R H15 hR s15 h15' => ?_
        refine b_cat (s15 _ _ (s14 _ _ h13')) h15' (sz (by rw [List.length_append, List.length_append, List.length_map, List.length_map, hds_len, List.length_replicate]; show _ + 1 + _ + _ ≤ _; omega)) fun M3 H16 hM3 s16 h16' => ?_
        wtm_at "lm"
        intro D2 H17 hD2 s17 h17'
        have bz' := bz
        unfold badL at bz'
        rw [Bool.and_eq_true_iff] at bz'
        have er : rdo (hds nm more 20 ++ (z :: (lns rs ++ List.replicate 20 ("end" : Str)))) 0 0 = some (false, 20) := by
          have := rdo_heads nok ((List.range 20).map (hd1 nm more)) (z :: (lns rs ++ List.replicate 20 ("end" : Str))) 0 0 (fun k hk => by
            obtain ⟨j, _, rfl⟩ := List.mem_map.mp hk
            exact ns_mem nl j) (by rw [List.length_map, List.length_range]; omega)
          rw [List.map_map, rdo_bad bz, List.length_map, List.length_range] at this
          exact this
        wtm_at "lm"
        refine ⟨M3, D2, hds nm more 20 ++ (z :: (lns rs ++ List.replicate 20 ("end" : Str))), _, _, rfl, ((s9.trans s10).trans (s11.trans s12)).trans ((s13.trans s14).trans ((s15.trans s16).trans s17)), ?_, ?_, ?_, ?_, fun n => by omega⟩
        · rw [s17 _ _ h16']
          simp [List.map_append, List.map_replicate]
        · rw [h17', er]
          rfl
        · intro x hx
          rcases List.mem_append.mp hx with hx | hx
          · exact (hds_good nok nl more 20 x hx).2
          rcases List.mem_cons.mp hx with rfl | hx
          · exact of_decide_eq_true bz'.2
          rcases List.mem_append.mp hx with hx | hx
          · exact (gl x hx).2
          · exact (good_end 20 x hx).2
        · rw [List.length_append, List.length_cons, List.length_append, hds_len, List.length_replicate]
          omega
      · wtm_at "lm"
        exact ⟨L3, D, ls3, _, _, rfl, Same.refl _, h78, h8, fun x hx => (g3 x hx).2, by omega, fun n => c3 (by omega) (by omega) (by omega)⟩
    · wtm_at "lm"
      exact ⟨L3, D, ls3, _, _, rfl, Same.refl _, h78, h8, fun x hx => (g3 x hx).2, by omega, fun n => c3 (by omega) (by omega) (by omega)⟩
  rintro σ' H9 ⟨L4, D4, ls4, o7', o8', rfl, s89, h9, hD9, g4, n4, c4⟩
  have h19 := s89 _ _ h18
  -- a wrong line
  refine s_cut (fun σ' H' => ∃ (L D : Addr) (ls : List Str), σ' = [some (.ref a), some (.ref A), some (.ref L), some (.int at_), some (.int more), some (.int (more % 6)), o6, o7', o8', o9, o10, some (.ref D), none] ∧ Same H9 H' ∧ H' L = some (.lst (ls.map V.str)) ∧ H' D = some (.lst [.str (oW (rdo ls 0 0)), .int (oN (rdo ls 0 0))]) ∧ (∀ x ∈ ls, x.length ≤ 100) ∧ ls.length ≤ (lns rs).length + 101) ?_ ?_
  · refine s_if ?_
    refine WT.mono (Q := fun k H1 => H1 = H9 ∧ k = decide (more % 6 = 3 ∨ more % 6 = 4)) ?_ ?_
    · wtm_at "lm"
      refine ite_dec (fun c => ?_) (fun c => ?_)
      · exact ⟨rfl, (decide_eq_true (.inl c)).symm⟩
      · wtm_at "lm"
        exact ⟨rfl, by rw [decide_eq_decide]; omega⟩
    rintro k H9' ⟨e, rfl⟩
    replace e := e.symm
    subst e
    refine ite_dec (fun c => ?_) (fun c => ?_)
    · have e1 : ls4 = lns rs := c4 c
      subst e1
      wtm_at "lm"
      refine l_lst (SqL.of h9) fun x1 Ha hx1 sa ha => ?_
      wtm_at "lm"
      refine ⟨_, rfl, fun z Hz sz' bz => ?_⟩
      wtm_at "lm"
      intro x2 Hb hx2 sb hb
      refine b_cat (sb _ _ (sz' _ _ ha)) hb (sz (by rw [show cutV ((lns rs).map V.str) none (some (at_ : Int)) = ((lns rs).map V.str).take at_ from cut_to_n _ _, List.length_take, List.length_map]; show _ + 1 ≤ _; omega)) fun x3 Hc hx3 sc' hc => ?_
      have h9c := sc' _ _ (sb _ _ (sz' _ _ (sa _ _ h9)))
      wtm_at "lm"
      refine l_lst (SqL.of h9c) fun x4 Hd hx4 sd hd => ?_
      refine b_cat (sd _ _ hc) hd (sz ?_) fun x5 He hx5 se he => ?_
      · rw [show cutV ((lns rs).map V.str) none (some (at_ : Int)) = ((lns rs).map V.str).take at_ from cut_to_n _ _, show cutV ((lns rs).map V.str) (some (at_ : Int)) none = ((lns rs).map V.str).drop at_ from cut_from _ _, List.length_append, List.length_take, List.length_drop, List.length_map]
        show _ + 1 + _ ≤ _
        omega
      wtm_at "lm"
      intro D2 Hf hD2 sf hf
      have bz' := bz
      unfold badL at bz'
      rw [Bool.and_eq_true_iff] at bz'
      have er := rdo_odd nok ok (by omega) bz at_ hat
      wtm_at "lm"
      refine ⟨x5, D2, (lns rs).take at_ ++ (z :: (lns rs).drop at_), rfl, ((sa.trans sz').trans (sb.trans sc')).trans ((sd.trans se).trans sf), ?_, ?_, ?_, ?_⟩
      · rw [sf _ _ he, show cutV ((lns rs).map V.str) none (some (at_ : Int)) = ((lns rs).map V.str).take at_ from cut_to_n _ _, show cutV ((lns rs).map V.str) (some (at_ : Int)) none = ((lns rs).map V.str).drop at_ from cut_from _ _, List.map_append, List.map_cons, List.map_take, List.map_drop, List.append_assoc]
        rfl
      · rw [hf, er]
        rfl
      · intro x hx
        rcases List.mem_append.mp hx with hx | hx
        · exact g4 x (List.mem_of_mem_take hx)
        rcases List.mem_cons.mp hx with rfl | hx
        · exact of_decide_eq_true bz'.2
        · exact g4 x (List.mem_of_mem_drop hx)
      · rw [List.length_append, List.length_cons, List.length_take, List.length_drop]
        omega
    · wtm_at "lm"
      exact ⟨L4, D4, ls4, rfl, Same.refl _, h9, hD9, g4, by omega⟩
  rintro σ' Ha ⟨L5, D5, ls5, rfl, s9a, ha, hDa, g5, n5⟩
  refine s_cons ?_
  wtm_at "lm"
  refine k_list (.inl (SqL.of ha)) fun L6 Hb hL6 sb hb => ?_
  wtm_at "lm"
  refine ⟨L6, ls5, rfl, SqL.of hb, by omega, fun z hz => Nat.le_trans (g5 z hz) (by decide), fun F0 Hc sc' hc => ?_⟩
  have hDc := sc' _ _ (sb _ _ hDa)
  have hLc := sc' _ _ (sb _ _ ha)
  have ne := hr.un
  cases er : rdo ls5 0 0 with
  | none =>
    rw [er] at hc hDc
    wtm_at "lm"
    refine c_eqD (d := .list [.str "good", .int 0]) (e := .list [.str "good", .int 0]) (by omega) (.lst (SqL.of hc) (.cons (.str _) (.cons (.int _) .nil))) (.lst (SqL.of hDc) (.cons (.str _) (.cons (.int _) .nil))) (by decide +kernel) (by decide +kernel) ?_
    exact q _
  | some bn =>
    obtain ⟨b, n⟩ := bn
    rw [er] at hc hDc
    have hne : rdo ls5 0 0 ≠ none := by rw [er]; exact fun e => nomatch e
    cases b
    · replace hc : Hc F0 = some (.lst [.str "line", .int (n : Int)]) := hc
      replace hDc : Hc D5 = some (.lst [.str "line", .int (n : Int)]) := hDc
      wtm_at "lm"
      refine c_neD (d := .list [.str "line", .int (n : Int)]) (e := .list [.str "line", .int (n : Int)]) (by omega) (.lst (SqL.of hc) (.cons (.str _) (.cons (.int _) .nil))) (.lst (SqL.of hDc) (.cons (.str _) (.cons (.int _) .nil))) (sh_w (by decide +kernel) _) (sh_w (by decide +kernel) _) ?_
      rw [SeqAt.eqv_refl (.list [.str "line", .int (n : Int)]) (lay_w (by decide +kernel) _)]
      wtm_at "lm"
      refine ⟨_, rfl, ?_⟩
      wtm_at "lm"
      refine ⟨L5, ls5, rfl, SqL.of hLc, by omega, fun z hz => Nat.le_trans (g5 z hz) (by decide), hne, fun H' => ?_⟩
      exact q _
    · replace hc : Hc F0 = some (.lst [.str "deep", .int (n : Int)]) := hc
      replace hDc : Hc D5 = some (.lst [.str "deep", .int (n : Int)]) := hDc
      wtm_at "lm"
      refine c_neD (d := .list [.str "deep", .int (n : Int)]) (e := .list [.str "deep", .int (n : Int)]) (by omega) (.lst (SqL.of hc) (.cons (.str _) (.cons (.int _) .nil))) (.lst (SqL.of hDc) (.cons (.str _) (.cons (.int _) .nil))) (sh_w (by decide +kernel) _) (sh_w (by decide +kernel) _) ?_
      rw [SeqAt.eqv_refl (.list [.str "deep", .int (n : Int)]) (lay_w (by decide +kernel) _)]
      wtm_at "lm"
      refine ⟨_, rfl, ?_⟩
      wtm_at "lm"
      refine ⟨L5, ls5, rfl, SqL.of hLc, by omega, fun z hz => Nat.le_trans (g5 z hz) (by decide), hne, fun H' => ?_⟩
      exact q _
end
theorem all_mk {l : PySem.W.OpenLaw} {w : World} {K : PySem.W.Frag} {h : Heap} {mg : Str → Option Value} {fa : Addr} (X : K.In h) (G : h.Ns mainGlobals mg) (hfa : mg "law" = some (.ref fa))
    {f0 : Addr} {od0 an0 : Option Addr} {sl0 : Array (Option Value)} {oc0 kV0 dc0 pm0 cd0 ct0 : Value}
    (a0 : PySem.W.nsIn K mainGlobals "is_name" = some (some (.ref f0))) (l0 : K.lookup f0 = some ⟨oc0, od0, .func (PySem.W.fnOf "is_name" "is_name" (defArgs s_p_is_name) (defBody s_p_is_name) (defScope s_p_is_name) .none kV0 dc0 pm0 an0 cd0 ct0), sl0⟩) (c0 : PySem.W.codeIn K cd0 "is_name" = true) (k0 : PySem.W.keepIn K (.ref f0) = true)
    {f1 : Addr} {od1 an1 : Option Addr} {sl1 : Array (Option Value)} {oc1 kV1 dc1 pm1 cd1 ct1 : Value}
    (a1 : PySem.W.nsIn K mainGlobals "value_of" = some (some (.ref f1))) (l1 : K.lookup f1 = some ⟨oc1, od1, .func (PySem.W.fnOf "value_of" "value_of" (defArgs s_p_value_of) (defBody s_p_value_of) (defScope s_p_value_of) .none kV1 dc1 pm1 an1 cd1 ct1), sl1⟩) (c1 : PySem.W.codeIn K cd1 "value_of" = true) (k1 : PySem.W.keepIn K (.ref f1) = true)
    {f2 : Addr} {od2 an2 : Option Addr} {sl2 : Array (Option Value)} {oc2 kV2 dc2 pm2 cd2 ct2 : Value}
    (a2 : PySem.W.nsIn K mainGlobals "row_of" = some (some (.ref f2))) (l2 : K.lookup f2 = some ⟨oc2, od2, .func (PySem.W.fnOf "row_of" "row_of" (defArgs s_p_row_of) (defBody s_p_row_of) (defScope s_p_row_of) .none kV2 dc2 pm2 an2 cd2 ct2), sl2⟩) (c2 : PySem.W.codeIn K cd2 "row_of" = true) (k2 : PySem.W.keepIn K (.ref f2) = true)
    {f3 : Addr} {od3 an3 : Option Addr} {sl3 : Array (Option Value)} {oc3 kV3 dc3 pm3 cd3 ct3 : Value}
    (a3 : PySem.W.nsIn K mainGlobals "read" = some (some (.ref f3))) (l3 : K.lookup f3 = some ⟨oc3, od3, .func (PySem.W.fnOf "read" "read" (defArgs s_p_read) (defBody s_p_read) (defScope s_p_read) .none kV3 dc3 pm3 an3 cd3 ct3), sl3⟩) (c3 : PySem.W.codeIn K cd3 "read" = true) (k3 : PySem.W.keepIn K (.ref f3) = true)
    {f4 : Addr} {od4 an4 : Option Addr} {sl4 : Array (Option Value)} {oc4 kV4 dc4 pm4 cd4 ct4 : Value}
    (a4 : PySem.W.nsIn K mainGlobals "_law_cell_at" = some (some (.ref f4))) (l4 : K.lookup f4 = some ⟨oc4, od4, .func (PySem.W.fnOf "_law_cell_at" "_law_cell_at" (defArgs s_l_cell_at) (defBody s_l_cell_at) (defScope s_l_cell_at) .none kV4 dc4 pm4 an4 cd4 ct4), sl4⟩) (c4 : PySem.W.codeIn K cd4 "_law_cell_at" = true) (k4 : PySem.W.keepIn K (.ref f4) = true)
    {f5 : Addr} {od5 an5 : Option Addr} {sl5 : Array (Option Value)} {oc5 kV5 dc5 pm5 cd5 ct5 : Value}
    (a5 : PySem.W.nsIn K mainGlobals "_law_mixed" = some (some (.ref f5))) (l5 : K.lookup f5 = some ⟨oc5, od5, .func (PySem.W.fnOf "_law_mixed" "_law_mixed" (defArgs s_l_mixed) (defBody s_l_mixed) (defScope s_l_mixed) .none kV5 dc5 pm5 an5 cd5 ct5), sl5⟩) (c5 : PySem.W.codeIn K cd5 "_law_mixed" = true) (k5 : PySem.W.keepIn K (.ref f5) = true)
    {f6 : Addr} {od6 an6 : Option Addr} {sl6 : Array (Option Value)} {oc6 kV6 dc6 pm6 cd6 ct6 : Value}
    (a6 : PySem.W.nsIn K mainGlobals "_law_names" = some (some (.ref f6))) (l6 : K.lookup f6 = some ⟨oc6, od6, .func (PySem.W.fnOf "_law_names" "_law_names" (defArgs s_l_names) (defBody s_l_names) (defScope s_l_names) .none kV6 dc6 pm6 an6 cd6 ct6), sl6⟩) (c6 : PySem.W.codeIn K cd6 "_law_names" = true) (k6 : PySem.W.keepIn K (.ref f6) = true)
    {f7 : Addr} {od7 an7 : Option Addr} {sl7 : Array (Option Value)} {oc7 kV7 dc7 pm7 cd7 ct7 : Value}
    (a7 : PySem.W.nsIn K mainGlobals "_law_value" = some (some (.ref f7))) (l7 : K.lookup f7 = some ⟨oc7, od7, .func (PySem.W.fnOf "_law_value" "_law_value" (defArgs s_l_value) (defBody s_l_value) (defScope s_l_value) .none kV7 dc7 pm7 an7 cd7 ct7), sl7⟩) (c7 : PySem.W.codeIn K cd7 "_law_value" = true) (k7 : PySem.W.keepIn K (.ref f7) = true)
    {f8 : Addr} {od8 an8 : Option Addr} {sl8 : Array (Option Value)} {oc8 kV8 dc8 pm8 cd8 ct8 : Value}
    (a8 : PySem.W.nsIn K mainGlobals "_law_let" = some (some (.ref f8))) (l8 : K.lookup f8 = some ⟨oc8, od8, .func (PySem.W.fnOf "_law_let" "_law_let" (defArgs s_l_let) (defBody s_l_let) (defScope s_l_let) .none kV8 dc8 pm8 an8 cd8 ct8), sl8⟩) (c8 : PySem.W.codeIn K cd8 "_law_let" = true) (k8 : PySem.W.keepIn K (.ref f8) = true)
    {f9 : Addr} {od9 an9 : Option Addr} {sl9 : Array (Option Value)} {oc9 kV9 dc9 pm9 cd9 ct9 : Value}
    (a9 : PySem.W.nsIn K mainGlobals "_law_closed" = some (some (.ref f9))) (l9 : K.lookup f9 = some ⟨oc9, od9, .func (PySem.W.fnOf "_law_closed" "_law_closed" (defArgs s_l_closed) (defBody s_l_closed) (defScope s_l_closed) .none kV9 dc9 pm9 an9 cd9 ct9), sl9⟩) (c9 : PySem.W.codeIn K cd9 "_law_closed" = true) (k9 : PySem.W.keepIn K (.ref f9) = true)
    {f10 : Addr} {od10 an10 : Option Addr} {sl10 : Array (Option Value)} {oc10 kV10 dc10 pm10 cd10 ct10 : Value}
    (a10 : PySem.W.nsIn K mainGlobals "_law_opened" = some (some (.ref f10))) (l10 : K.lookup f10 = some ⟨oc10, od10, .func (PySem.W.fnOf "_law_opened" "_law_opened" (defArgs s_l_opened) (defBody s_l_opened) (defScope s_l_opened) .none kV10 dc10 pm10 an10 cd10 ct10), sl10⟩) (c10 : PySem.W.codeIn K cd10 "_law_opened" = true) (k10 : PySem.W.keepIn K (.ref f10) = true)
    {f11 : Addr} {od11 an11 : Option Addr} {sl11 : Array (Option Value)} {oc11 kV11 dc11 pm11 cd11 ct11 : Value}
    (a11 : PySem.W.nsIn K mainGlobals "_law_program" = some (some (.ref f11))) (l11 : K.lookup f11 = some ⟨oc11, od11, .func (PySem.W.fnOf "_law_program" "_law_program" (defArgs s_l_program) (defBody s_l_program) (defScope s_l_program) .none kV11 dc11 pm11 an11 cd11 ct11), sl11⟩) (c11 : PySem.W.codeIn K cd11 "_law_program" = true) (k11 : PySem.W.keepIn K (.ref f11) = true)
    {f12 : Addr} {od12 an12 : Option Addr} {sl12 : Array (Option Value)} {oc12 kV12 dc12 pm12 cd12 ct12 : Value}
    (a12 : PySem.W.nsIn K mainGlobals "_law_whole" = some (some (.ref f12))) (l12 : K.lookup f12 = some ⟨oc12, od12, .func (PySem.W.fnOf "_law_whole" "_law_whole" (defArgs s_l_whole) (defBody s_l_whole) (defScope s_l_whole) .none kV12 dc12 pm12 an12 cd12 ct12), sl12⟩) (c12 : PySem.W.codeIn K cd12 "_law_whole" = true) (k12 : PySem.W.keepIn K (.ref f12) = true)
    {f13 : Addr} {od13 an13 : Option Addr} {sl13 : Array (Option Value)} {oc13 kV13 dc13 pm13 cd13 ct13 : Value}
    (a13 : PySem.W.nsIn K mainGlobals "_law_lines" = some (some (.ref f13))) (l13 : K.lookup f13 = some ⟨oc13, od13, .func (PySem.W.fnOf "_law_lines" "_law_lines" (defArgs s_l_lines) (defBody s_l_lines) (defScope s_l_lines) .none kV13 dc13 pm13 an13 cd13 ct13), sl13⟩) (c13 : PySem.W.codeIn K cd13 "_law_lines" = true) (k13 : PySem.W.keepIn K (.ref f13) = true)
    {f14 : Addr} {od14 an14 : Option Addr} {sl14 : Array (Option Value)} {oc14 kV14 dc14 pm14 cd14 ct14 : Value}
    (a14 : PySem.W.nsIn K mainGlobals "_law_odd_line" = some (some (.ref f14))) (l14 : K.lookup f14 = some ⟨oc14, od14, .func (PySem.W.fnOf "_law_odd_line" "_law_odd_line" (defArgs s_l_odd_line) (defBody s_l_odd_line) (defScope s_l_odd_line) .none kV14 dc14 pm14 an14 cd14 ct14), sl14⟩) (c14 : PySem.W.codeIn K cd14 "_law_odd_line" = true) (k14 : PySem.W.keepIn K (.ref f14) = true)
    {f15 : Addr} {od15 an15 : Option Addr} {sl15 : Array (Option Value)} {oc15 kV15 dc15 pm15 cd15 ct15 : Value}
    (a15 : PySem.W.nsIn K mainGlobals "_law_due" = some (some (.ref f15))) (l15 : K.lookup f15 = some ⟨oc15, od15, .func (PySem.W.fnOf "_law_due" "_law_due" (defArgs s_l_due) (defBody s_l_due) (defScope s_l_due) .none kV15 dc15 pm15 an15 cd15 ct15), sl15⟩) (c15 : PySem.W.codeIn K cd15 "_law_due" = true) (k15 : PySem.W.keepIn K (.ref f15) = true)
    {f16 : Addr} {od16 an16 : Option Addr} {sl16 : Array (Option Value)} {oc16 kV16 dc16 pm16 cd16 ct16 : Value}
    (a16 : PySem.W.nsIn K mainGlobals "_law_found" = some (some (.ref f16))) (l16 : K.lookup f16 = some ⟨oc16, od16, .func (PySem.W.fnOf "_law_found" "_law_found" (defArgs s_l_found) (defBody s_l_found) (defScope s_l_found) .none kV16 dc16 pm16 an16 cd16 ct16), sl16⟩) (c16 : PySem.W.codeIn K cd16 "_law_found" = true) (k16 : PySem.W.keepIn K (.ref f16) = true)
    {f17 : Addr} {od17 an17 : Option Addr} {sl17 : Array (Option Value)} {oc17 kV17 dc17 pm17 cd17 ct17 : Value}
    (a17 : PySem.W.nsIn K mainGlobals "_law_refused_by_any" = some (some (.ref f17))) (l17 : K.lookup f17 = some ⟨oc17, od17, .func (PySem.W.fnOf "_law_refused_by_any" "_law_refused_by_any" (defArgs s_l_refused_by_any) (defBody s_l_refused_by_any) (defScope s_l_refused_by_any) .none kV17 dc17 pm17 an17 cd17 ct17), sl17⟩) (c17 : PySem.W.codeIn K cd17 "_law_refused_by_any" = true) (k17 : PySem.W.keepIn K (.ref f17) = true)
    {f18 : Addr} {od18 an18 : Option Addr} {sl18 : Array (Option Value)} {oc18 kV18 dc18 pm18 cd18 ct18 : Value}
    (a18 : PySem.W.nsIn K mainGlobals "law" = some (some (.ref f18))) (l18 : K.lookup f18 = some ⟨oc18, od18, .func (PySem.W.fnOf "law" "law" (defArgs s_law) (defBody s_law) (defScope s_law) .none kV18 dc18 pm18 an18 cd18 ct18), sl18⟩) (c18 : PySem.W.codeIn K cd18 "law" = true) (k18 : PySem.W.keepIn K (.ref f18) = true)
    (z_ValueError : PySem.W.nsIn K mainGlobals "ValueError" = some none)
    (z_all : PySem.W.nsIn K mainGlobals "all" = some none)
    (z_bool : PySem.W.nsIn K mainGlobals "bool" = some none)
    (z_int : PySem.W.nsIn K mainGlobals "int" = some none)
    (z_isinstance : PySem.W.nsIn K mainGlobals "isinstance" = some none)
    (z_len : PySem.W.nsIn K mainGlobals "len" = some none)
    (z_list : PySem.W.nsIn K mainGlobals "list" = some none)
    (z_max : PySem.W.nsIn K mainGlobals "max" = some none)
    (z_range : PySem.W.nsIn K mainGlobals "range" = some none)
    (z_str : PySem.W.nsIn K mainGlobals "str" = some none)
    {t_MOST_DEEP : Tok} (m_MOST_DEEP : PySem.W.nsIn K mainGlobals "MOST_DEEP" = some (some (.int 20 t_MOST_DEEP)))
    {t_LETTERS : Tok} (m_LETTERS : PySem.W.nsIn K mainGlobals "LETTERS" = some (some (.str "abcdefghijklmnopqrstuvwxyz" t_LETTERS)))
    {q_WORDS : Addr} {qd_WORDS : Option Addr} {qn_WORDS : Nat} {qs_WORDS : Array (Option Value)} {t_WORDS0 t_WORDS1 t_WORDS2 t_WORDS3 t_WORDS4 : Tok}
    (m_WORDS : PySem.W.nsIn K mainGlobals "WORDS" = some (some (.ref q_WORDS))) (v_WORDS : K.lookup q_WORDS = some ⟨.type "tuple", qd_WORDS, .seq #[.str "say" t_WORDS0, .str "when" t_WORDS1, .str "loop" t_WORDS2, .str "again" t_WORDS3, .str "end" t_WORDS4] qn_WORDS, qs_WORDS⟩)
    {q_BLOCKS : Addr} {qd_BLOCKS : Option Addr} {qn_BLOCKS : Nat} {qs_BLOCKS : Array (Option Value)} {t_BLOCKS0 t_BLOCKS1 t_BLOCKS2 : Tok}
    (m_BLOCKS : PySem.W.nsIn K mainGlobals "BLOCKS" = some (some (.ref q_BLOCKS))) (v_BLOCKS : K.lookup q_BLOCKS = some ⟨.type "tuple", qd_BLOCKS, .seq #[.str "when" t_BLOCKS0, .str "loop" t_BLOCKS1, .str "again" t_BLOCKS2] qn_BLOCKS, qs_BLOCKS⟩)
    {q_SIGNS : Addr} {qd_SIGNS : Option Addr} {qn_SIGNS : Nat} {qs_SIGNS : Array (Option Value)} {t_SIGNS0 t_SIGNS1 t_SIGNS2 t_SIGNS3 t_SIGNS4 : Tok}
    (m_SIGNS : PySem.W.nsIn K mainGlobals "SIGNS" = some (some (.ref q_SIGNS))) (v_SIGNS : K.lookup q_SIGNS = some ⟨.type "tuple", qd_SIGNS, .seq #[.str "+" t_SIGNS0, .str "-" t_SIGNS1, .str "*" t_SIGNS2, .str "<" t_SIGNS3, .str "/" t_SIGNS4] qn_SIGNS, qs_SIGNS⟩)
    {t_FIGURES : Tok} (m_FIGURES : PySem.W.nsIn K mainGlobals "FIGURES" = some (some (.str "0123456789" t_FIGURES)))
    {C_LoopError : Addr} (aC_LoopError : PySem.W.nsIn K mainGlobals "LoopError" = some (some (.ref C_LoopError))) 
    (kp_LoopError : PySem.W.keepIn K (.ref C_LoopError) = true)
    (ty_LoopError : PySem.W.typeIn K (.ref C_LoopError) = some (.type "type"))
    (hd_LoopError : PySem.W.hasDictIn K C_LoopError = true)
    (ga_LoopError : PySem.W.findIn K (.ref C_LoopError) "__getattribute__" = some (some (.builtin "BaseException.__getattribute__")))
    (gg_LoopError : PySem.W.findIn K (.ref C_LoopError) "__getattr__" = some none)
    (be_LoopError : PySem.W.subIn K (.ref C_LoopError) (.type "BaseException") = some true)
    (ca_LoopError : PySem.W.findIn K (.ref C_LoopError) "__class__" = some (some (.builtin "object.__class__")))
    (mo_LoopError : PySem.W.mroIn K C_LoopError (.type "object") = some true)
    (sv_LoopError : PySem.W.subIn K (.ref C_LoopError) (.type "ValueError") = some true)
    (ss_LoopError : PySem.W.subIn K (.ref C_LoopError) (.ref C_LoopError) = some true)
    (sg_LoopError : PySem.W.specialIn K (.ref C_LoopError) "__getattribute__" = some (some (.builtin "type.__getattribute__")))
    (rd_LoopError : PySem.W.readsIn K C_LoopError (.type "type") = true)
    (fc_LoopError : PySem.W.findCls K (.ref C_LoopError) (.type "type") "__init__" = some (.val (.builtin "ValueError.__init__")))
    {C_BadRow : Addr} (aC_BadRow : PySem.W.nsIn K mainGlobals "BadRow" = some (some (.ref C_BadRow))) 
    (kp_BadRow : PySem.W.keepIn K (.ref C_BadRow) = true)
    (ty_BadRow : PySem.W.typeIn K (.ref C_BadRow) = some (.type "type"))
    (hd_BadRow : PySem.W.hasDictIn K C_BadRow = true)
    (ga_BadRow : PySem.W.findIn K (.ref C_BadRow) "__getattribute__" = some (some (.builtin "BaseException.__getattribute__")))
    (gg_BadRow : PySem.W.findIn K (.ref C_BadRow) "__getattr__" = some none)
    (be_BadRow : PySem.W.subIn K (.ref C_BadRow) (.type "BaseException") = some true)
    (ca_BadRow : PySem.W.findIn K (.ref C_BadRow) "__class__" = some (some (.builtin "object.__class__")))
    (mo_BadRow : PySem.W.mroIn K C_BadRow (.type "object") = some true)
    (sv_BadRow : PySem.W.subIn K (.ref C_BadRow) (.type "ValueError") = some true)
    (ss_BadRow : PySem.W.subIn K (.ref C_BadRow) (.ref C_BadRow) = some true)
    (en_BadRow : PySem.W.excIn K C_BadRow [.type "ValueError", .type "Exception", .type "BaseException", .type "object"] "ValueError.__new__" = true)
    {C_BadName : Addr} (aC_BadName : PySem.W.nsIn K mainGlobals "BadName" = some (some (.ref C_BadName))) 
    (kp_BadName : PySem.W.keepIn K (.ref C_BadName) = true)
    (ty_BadName : PySem.W.typeIn K (.ref C_BadName) = some (.type "type"))
    (hd_BadName : PySem.W.hasDictIn K C_BadName = true)
    (ga_BadName : PySem.W.findIn K (.ref C_BadName) "__getattribute__" = some (some (.builtin "BaseException.__getattribute__")))
    (gg_BadName : PySem.W.findIn K (.ref C_BadName) "__getattr__" = some none)
    (be_BadName : PySem.W.subIn K (.ref C_BadName) (.type "BaseException") = some true)
    (ca_BadName : PySem.W.findIn K (.ref C_BadName) "__class__" = some (some (.builtin "object.__class__")))
    (mo_BadName : PySem.W.mroIn K C_BadName (.type "object") = some true)
    (sv_BadName : PySem.W.subIn K (.ref C_BadName) (.type "ValueError") = some true)
    (ss_BadName : PySem.W.subIn K (.ref C_BadName) (.ref C_BadName) = some true)
    (en_BadName : PySem.W.excIn K C_BadName [.type "ValueError", .type "Exception", .type "BaseException", .type "object"] "ValueError.__new__" = true)
    {C_BadNumber : Addr} (aC_BadNumber : PySem.W.nsIn K mainGlobals "BadNumber" = some (some (.ref C_BadNumber))) 
    (kp_BadNumber : PySem.W.keepIn K (.ref C_BadNumber) = true)
    (ty_BadNumber : PySem.W.typeIn K (.ref C_BadNumber) = some (.type "type"))
    (hd_BadNumber : PySem.W.hasDictIn K C_BadNumber = true)
    (ga_BadNumber : PySem.W.findIn K (.ref C_BadNumber) "__getattribute__" = some (some (.builtin "BaseException.__getattribute__")))
    (gg_BadNumber : PySem.W.findIn K (.ref C_BadNumber) "__getattr__" = some none)
    (be_BadNumber : PySem.W.subIn K (.ref C_BadNumber) (.type "BaseException") = some true)
    (ca_BadNumber : PySem.W.findIn K (.ref C_BadNumber) "__class__" = some (some (.builtin "object.__class__")))
    (mo_BadNumber : PySem.W.mroIn K C_BadNumber (.type "object") = some true)
    (sv_BadNumber : PySem.W.subIn K (.ref C_BadNumber) (.type "ValueError") = some true)
    (ss_BadNumber : PySem.W.subIn K (.ref C_BadNumber) (.ref C_BadNumber) = some true)
    (en_BadNumber : PySem.W.excIn K C_BadNumber [.type "ValueError", .type "Exception", .type "BaseException", .type "object"] "ValueError.__new__" = true)
    {C_BadLine : Addr} (aC_BadLine : PySem.W.nsIn K mainGlobals "BadLine" = some (some (.ref C_BadLine))) {nm_BadLine q_BadLine : Str} {N_BadLine : Addr} {bs_BadLine bm_BadLine : List Value} {sn_BadLine : List Str} {sub_BadLine : List Value} {ab_BadLine : Bool} {col_BadLine : Option Bool} {dd_BadLine : Option Addr} {e0_BadLine e1_BadLine e2_BadLine e3_BadLine e5_BadLine : Option Value} {f_BadLine : Addr} {od_BadLine an_BadLine : Option Addr} {sl_BadLine : Array (Option Value)} {oc_BadLine kV_BadLine dc_BadLine pm_BadLine cd_BadLine ct_BadLine : Value}
    (kp_BadLine : PySem.W.keepIn K (.ref C_BadLine) = true)
    (ty_BadLine : PySem.W.typeIn K (.ref C_BadLine) = some (.type "type"))
    (hd_BadLine : PySem.W.hasDictIn K C_BadLine = true)
    (ga_BadLine : PySem.W.findIn K (.ref C_BadLine) "__getattribute__" = some (some (.builtin "BaseException.__getattribute__")))
    (gg_BadLine : PySem.W.findIn K (.ref C_BadLine) "__getattr__" = some none)
    (be_BadLine : PySem.W.subIn K (.ref C_BadLine) (.type "BaseException") = some true)
    (ca_BadLine : PySem.W.findIn K (.ref C_BadLine) "__class__" = some (some (.builtin "object.__class__")))
    (mo_BadLine : PySem.W.mroIn K C_BadLine (.type "object") = some true)
    (sv_BadLine : PySem.W.subIn K (.ref C_BadLine) (.type "ValueError") = some true)
    (ss_BadLine : PySem.W.subIn K (.ref C_BadLine) (.ref C_BadLine) = some true)
    (lk_BadLine : K.lookup C_BadLine = some (excClassObj nm_BadLine q_BadLine C_BadLine N_BadLine bs_BadLine bm_BadLine true sn_BadLine sub_BadLine ab_BadLine col_BadLine dd_BadLine e0_BadLine e1_BadLine e2_BadLine e3_BadLine e5_BadLine "ValueError.__new__"))
    (rv_BadLine : PySem.HandSPX.refsVE bm_BadLine = true)
    (sa_BadLine : PySem.W.findIn K (.ref C_BadLine) "__setattr__" = some (some (.builtin "object.__setattr__")))
    (np_BadLine : PySem.W.findIn K (.ref C_BadLine) "place" = some none)
    (ma_BadLine : PySem.W.findIn K (.ref C_BadLine) "__init__" = some (some (.ref f_BadLine)))
    (mi_BadLine : PySem.W.isFn K (.ref f_BadLine) = true)
    (ml_BadLine : K.lookup f_BadLine = some ⟨oc_BadLine, od_BadLine, .func (PySem.W.fnOf "__init__" "BadLine.__init__" (defArgs s_BadLine___init__) (defBody s_BadLine___init__) (defScope s_BadLine___init__) .none kV_BadLine dc_BadLine pm_BadLine an_BadLine cd_BadLine ct_BadLine), sl_BadLine⟩)
    (mc_BadLine : PySem.W.codeIn K cd_BadLine "BadLine.__init__" = true)
    (mk_BadLine : PySem.W.keepIn K (.ref f_BadLine) = true)
    {C_TooDeep : Addr} (aC_TooDeep : PySem.W.nsIn K mainGlobals "TooDeep" = some (some (.ref C_TooDeep))) {nm_TooDeep q_TooDeep : Str} {N_TooDeep : Addr} {bs_TooDeep bm_TooDeep : List Value} {sn_TooDeep : List Str} {sub_TooDeep : List Value} {ab_TooDeep : Bool} {col_TooDeep : Option Bool} {dd_TooDeep : Option Addr} {e0_TooDeep e1_TooDeep e2_TooDeep e3_TooDeep e5_TooDeep : Option Value} {f_TooDeep : Addr} {od_TooDeep an_TooDeep : Option Addr} {sl_TooDeep : Array (Option Value)} {oc_TooDeep kV_TooDeep dc_TooDeep pm_TooDeep cd_TooDeep ct_TooDeep : Value}
    (kp_TooDeep : PySem.W.keepIn K (.ref C_TooDeep) = true)
    (ty_TooDeep : PySem.W.typeIn K (.ref C_TooDeep) = some (.type "type"))
    (hd_TooDeep : PySem.W.hasDictIn K C_TooDeep = true)
    (ga_TooDeep : PySem.W.findIn K (.ref C_TooDeep) "__getattribute__" = some (some (.builtin "BaseException.__getattribute__")))
    (gg_TooDeep : PySem.W.findIn K (.ref C_TooDeep) "__getattr__" = some none)
    (be_TooDeep : PySem.W.subIn K (.ref C_TooDeep) (.type "BaseException") = some true)
    (ca_TooDeep : PySem.W.findIn K (.ref C_TooDeep) "__class__" = some (some (.builtin "object.__class__")))
    (mo_TooDeep : PySem.W.mroIn K C_TooDeep (.type "object") = some true)
    (sv_TooDeep : PySem.W.subIn K (.ref C_TooDeep) (.type "ValueError") = some true)
    (ss_TooDeep : PySem.W.subIn K (.ref C_TooDeep) (.ref C_TooDeep) = some true)
    (lk_TooDeep : K.lookup C_TooDeep = some (excClassObj nm_TooDeep q_TooDeep C_TooDeep N_TooDeep bs_TooDeep bm_TooDeep true sn_TooDeep sub_TooDeep ab_TooDeep col_TooDeep dd_TooDeep e0_TooDeep e1_TooDeep e2_TooDeep e3_TooDeep e5_TooDeep "ValueError.__new__"))
    (rv_TooDeep : PySem.HandSPX.refsVE bm_TooDeep = true)
    (sa_TooDeep : PySem.W.findIn K (.ref C_TooDeep) "__setattr__" = some (some (.builtin "object.__setattr__")))
    (np_TooDeep : PySem.W.findIn K (.ref C_TooDeep) "place" = some none)
    (ma_TooDeep : PySem.W.findIn K (.ref C_TooDeep) "__init__" = some (some (.ref f_TooDeep)))
    (mi_TooDeep : PySem.W.isFn K (.ref f_TooDeep) = true)
    (ml_TooDeep : K.lookup f_TooDeep = some ⟨oc_TooDeep, od_TooDeep, .func (PySem.W.fnOf "__init__" "TooDeep.__init__" (defArgs s_TooDeep___init__) (defBody s_TooDeep___init__) (defScope s_TooDeep___init__) .none kV_TooDeep dc_TooDeep pm_TooDeep an_TooDeep cd_TooDeep ct_TooDeep), sl_TooDeep⟩)
    (mc_TooDeep : PySem.W.codeIn K cd_TooDeep "TooDeep.__init__" = true)
    (mk_TooDeep : PySem.W.keepIn K (.ref f_TooDeep) = true)
    (s_BadRow_LoopError : PySem.W.subIn K (.ref C_BadRow) (.ref C_LoopError) = some true)
    (s_BadRow_BadName : PySem.W.subIn K (.ref C_BadRow) (.ref C_BadName) = some false)
    (s_BadRow_BadNumber : PySem.W.subIn K (.ref C_BadRow) (.ref C_BadNumber) = some false)
    (s_BadRow_BadLine : PySem.W.subIn K (.ref C_BadRow) (.ref C_BadLine) = some false)
    (s_BadRow_TooDeep : PySem.W.subIn K (.ref C_BadRow) (.ref C_TooDeep) = some false)
    (s_BadName_LoopError : PySem.W.subIn K (.ref C_BadName) (.ref C_LoopError) = some true)
    (s_BadName_BadRow : PySem.W.subIn K (.ref C_BadName) (.ref C_BadRow) = some false)
    (s_BadName_BadNumber : PySem.W.subIn K (.ref C_BadName) (.ref C_BadNumber) = some false)
    (s_BadName_BadLine : PySem.W.subIn K (.ref C_BadName) (.ref C_BadLine) = some false)
    (s_BadName_TooDeep : PySem.W.subIn K (.ref C_BadName) (.ref C_TooDeep) = some false)
    (s_BadNumber_LoopError : PySem.W.subIn K (.ref C_BadNumber) (.ref C_LoopError) = some true)
    (s_BadNumber_BadRow : PySem.W.subIn K (.ref C_BadNumber) (.ref C_BadRow) = some false)
    (s_BadNumber_BadName : PySem.W.subIn K (.ref C_BadNumber) (.ref C_BadName) = some false)
    (s_BadNumber_BadLine : PySem.W.subIn K (.ref C_BadNumber) (.ref C_BadLine) = some false)
    (s_BadNumber_TooDeep : PySem.W.subIn K (.ref C_BadNumber) (.ref C_TooDeep) = some false)
    (s_BadLine_LoopError : PySem.W.subIn K (.ref C_BadLine) (.ref C_LoopError) = some true)
    (s_BadLine_BadRow : PySem.W.subIn K (.ref C_BadLine) (.ref C_BadRow) = some false)
    (s_BadLine_BadName : PySem.W.subIn K (.ref C_BadLine) (.ref C_BadName) = some false)
    (s_BadLine_BadNumber : PySem.W.subIn K (.ref C_BadLine) (.ref C_BadNumber) = some false)
    (s_BadLine_TooDeep : PySem.W.subIn K (.ref C_BadLine) (.ref C_TooDeep) = some false)
    (s_TooDeep_LoopError : PySem.W.subIn K (.ref C_TooDeep) (.ref C_LoopError) = some true)
    (s_TooDeep_BadRow : PySem.W.subIn K (.ref C_TooDeep) (.ref C_BadRow) = some false)
    (s_TooDeep_BadName : PySem.W.subIn K (.ref C_TooDeep) (.ref C_BadName) = some false)
    (s_TooDeep_BadNumber : PySem.W.subIn K (.ref C_TooDeep) (.ref C_BadNumber) = some false)
    (s_TooDeep_BadLine : PySem.W.subIn K (.ref C_TooDeep) (.ref C_BadLine) = some false)
    (ob_g : PySem.W.specialIn K (.builtin "object.__class__") "__get__" = some (some (.builtin "getset_descriptor.__get__"))) (ob_t : PySem.W.takesIn K (.builtin "object.__class__") = some true)
    : ∃ fd : FuncData, (∀ (s : Shared) (v : Value), BindsTo s fd ⟨[v], []⟩ [("_law_script", v)]) ∧ ∀ base : Heap, K.In base → base.Ns mainGlobals mg → FnOk l.prog w K mg base CX0 150 fa fd ["_law_script"] (spLaw K) := by
  have e := hfa.symm.trans (PySem.W.mg_of X G a18)
  cases e
  have F0 := fun_mk (x := "is_name") (st := s_p_is_name) l0 c0 k0
  have D0 : Def K mg "is_name" s_p_is_name ["thing"] := ⟨_, _, F0, PySem.W.mg_of X G a0, F0.binds fun _ _ _ _ _ _ us hl => match us, hl with | [_], _ => rfl⟩
  have F1 := fun_mk (x := "value_of") (st := s_p_value_of) l1 c1 k1
  have D1 : Def K mg "value_of" s_p_value_of ["word"] := ⟨_, _, F1, PySem.W.mg_of X G a1, F1.binds fun _ _ _ _ _ _ us hl => match us, hl with | [_], _ => rfl⟩
  have F2 := fun_mk (x := "row_of") (st := s_p_row_of) l2 c2 k2
  have D2 : Def K mg "row_of" s_p_row_of ["words"] := ⟨_, _, F2, PySem.W.mg_of X G a2, F2.binds fun _ _ _ _ _ _ us hl => match us, hl with | [_], _ => rfl⟩
  have F3 := fun_mk (x := "read") (st := s_p_read) l3 c3 k3
  have D3 : Def K mg "read" s_p_read ["lines"] := ⟨_, _, F3, PySem.W.mg_of X G a3, F3.binds fun _ _ _ _ _ _ us hl => match us, hl with | [_], _ => rfl⟩
  have F4 := fun_mk (x := "_law_cell_at") (st := s_l_cell_at) l4 c4 k4
  have D4 : Def K mg "_law_cell_at" s_l_cell_at ["_law_script", "_law_k"] := ⟨_, _, F4, PySem.W.mg_of X G a4, F4.binds fun _ _ _ _ _ _ us hl => match us, hl with | [_, _], _ => rfl⟩
  have F5 := fun_mk (x := "_law_mixed") (st := s_l_mixed) l5 c5 k5
  have D5 : Def K mg "_law_mixed" s_l_mixed ["_law_cell", "_law_k"] := ⟨_, _, F5, PySem.W.mg_of X G a5, F5.binds fun _ _ _ _ _ _ us hl => match us, hl with | [_, _], _ => rfl⟩
  have F6 := fun_mk (x := "_law_names") (st := s_l_names) l6 c6 k6
  have D6 : Def K mg "_law_names" s_l_names ["_law_cell"] := ⟨_, _, F6, PySem.W.mg_of X G a6, F6.binds fun _ _ _ _ _ _ us hl => match us, hl with | [_], _ => rfl⟩
  have F7 := fun_mk (x := "_law_value") (st := s_l_value) l7 c7 k7
  have D7 : Def K mg "_law_value" s_l_value ["_law_kind", "_law_number", "_law_names_here"] := ⟨_, _, F7, PySem.W.mg_of X G a7, F7.binds fun _ _ _ _ _ _ us hl => match us, hl with | [_, _, _], _ => rfl⟩
  have F8 := fun_mk (x := "_law_let") (st := s_l_let) l8 c8 k8
  have D8 : Def K mg "_law_let" s_l_let ["_law_number", "_law_names_here"] := ⟨_, _, F8, PySem.W.mg_of X G a8, F8.binds fun _ _ _ _ _ _ us hl => match us, hl with | [_, _], _ => rfl⟩
  have F9 := fun_mk (x := "_law_closed") (st := s_l_closed) l9 c9 k9
  have D9 : Def K mg "_law_closed" s_l_closed ["_law_stack", "_law_tests"] := ⟨_, _, F9, PySem.W.mg_of X G a9, F9.binds fun _ _ _ _ _ _ us hl => match us, hl with | [_, _], _ => rfl⟩
  have F10 := fun_mk (x := "_law_opened") (st := s_l_opened) l10 c10 k10
  have D10 : Def K mg "_law_opened" s_l_opened ["_law_number", "_law_names_here", "_law_stack", "_law_tests"] := ⟨_, _, F10, PySem.W.mg_of X G a10, F10.binds fun _ _ _ _ _ _ us hl => match us, hl with | [_, _, _, _], _ => rfl⟩
  have F11 := fun_mk (x := "_law_program") (st := s_l_program) l11 c11 k11
  have D11 : Def K mg "_law_program" s_l_program ["_law_cells", "_law_names_here"] := ⟨_, _, F11, PySem.W.mg_of X G a11, F11.binds fun _ _ _ _ _ _ us hl => match us, hl with | [_, _], _ => rfl⟩
  have F12 := fun_mk (x := "_law_whole") (st := s_l_whole) l12 c12 k12
  have D12 : Def K mg "_law_whole" s_l_whole ["_law_found_here"] := ⟨_, _, F12, PySem.W.mg_of X G a12, F12.binds fun _ _ _ _ _ _ us hl => match us, hl with | [_], _ => rfl⟩
  have F13 := fun_mk (x := "_law_lines") (st := s_l_lines) l13 c13 k13
  have D13 : Def K mg "_law_lines" s_l_lines ["_law_rows"] := ⟨_, _, F13, PySem.W.mg_of X G a13, F13.binds fun _ _ _ _ _ _ us hl => match us, hl with | [_], _ => rfl⟩
  have F14 := fun_mk (x := "_law_odd_line") (st := s_l_odd_line) l14 c14 k14
  have D14 : Def K mg "_law_odd_line" s_l_odd_line ["_law_number"] := ⟨_, _, F14, PySem.W.mg_of X G a14, F14.binds fun _ _ _ _ _ _ us hl => match us, hl with | [_], _ => rfl⟩
  have F15 := fun_mk (x := "_law_due") (st := s_l_due) l15 c15 k15
  have D15 : Def K mg "_law_due" s_l_due ["_law_lines_here"] := ⟨_, _, F15, PySem.W.mg_of X G a15, F15.binds fun _ _ _ _ _ _ us hl => match us, hl with | [_], _ => rfl⟩
  have F16 := fun_mk (x := "_law_found") (st := s_l_found) l16 c16 k16
  have D16 : Def K mg "_law_found" s_l_found ["_law_lines_here"] := ⟨_, _, F16, PySem.W.mg_of X G a16, F16.binds fun _ _ _ _ _ _ us hl => match us, hl with | [_], _ => rfl⟩
  have F17 := fun_mk (x := "_law_refused_by_any") (st := s_l_refused_by_any) l17 c17 k17
  have D17 : Def K mg "_law_refused_by_any" s_l_refused_by_any ["_law_lines_here"] := ⟨_, _, F17, PySem.W.mg_of X G a17, F17.binds fun _ _ _ _ _ _ us hl => match us, hl with | [_], _ => rfl⟩
  have F18 := fun_mk (x := "law") (st := s_law) l18 c18 k18
  have D18 : Def K mg "law" s_law ["_law_script"] := ⟨_, _, F18, PySem.W.mg_of X G a18, F18.binds fun _ _ _ _ _ _ us hl => match us, hl with | [_], _ => rfl⟩
  have M_BadLine := fun_mk (x := "__init__") (st := s_BadLine___init__) ml_BadLine mc_BadLine mk_BadLine
  have M_TooDeep := fun_mk (x := "__init__") (st := s_TooDeep___init__) ml_TooDeep mc_TooDeep mk_TooDeep
  have T : Txt K mg := ⟨D0, D1, D2, D3, D4, D5, D6, D7, D8, D9, D10, D11, D12, D13, D14, D15, D16, D17, PySem.W.mg_none_of X G z_ValueError, PySem.W.mg_none_of X G z_all, PySem.W.mg_none_of X G z_bool, PySem.W.mg_none_of X G z_int, PySem.W.mg_none_of X G z_isinstance, PySem.W.mg_none_of X G z_len, PySem.W.mg_none_of X G z_list, PySem.W.mg_none_of X G z_max, PySem.W.mg_none_of X G z_range, PySem.W.mg_none_of X G z_str, ⟨_, PySem.W.mg_of X G m_MOST_DEEP⟩, ⟨_, PySem.W.mg_of X G m_LETTERS⟩, ⟨_, PySem.W.mg_of X G m_WORDS, fun _ => .inr ⟨_, _, _, v_WORDS, rfl, rfl, (by show 5 ≤ sizeLine; decide), .cons ⟨_, rfl⟩ (.cons ⟨_, rfl⟩ (.cons ⟨_, rfl⟩ (.cons ⟨_, rfl⟩ (.cons ⟨_, rfl⟩ (.nil)))))⟩⟩, ⟨_, PySem.W.mg_of X G m_BLOCKS, fun _ => .inr ⟨_, _, _, v_BLOCKS, rfl, rfl, (by show 3 ≤ sizeLine; decide), .cons ⟨_, rfl⟩ (.cons ⟨_, rfl⟩ (.cons ⟨_, rfl⟩ (.nil)))⟩⟩, ⟨_, PySem.W.mg_of X G m_SIGNS, fun _ => .inr ⟨_, _, _, v_SIGNS, rfl, rfl, (by show 5 ≤ sizeLine; decide), .cons ⟨_, rfl⟩ (.cons ⟨_, rfl⟩ (.cons ⟨_, rfl⟩ (.cons ⟨_, rfl⟩ (.cons ⟨_, rfl⟩ (.nil)))))⟩⟩, ⟨_, PySem.W.mg_of X G m_FIGURES⟩, ⟨_, _, _, _, _, _, ⟨⟨⟨PySem.W.mg_of X G aC_LoopError, kp_LoopError, ty_LoopError, hd_LoopError, ga_LoopError, gg_LoopError, be_LoopError, ca_LoopError, mo_LoopError, sv_LoopError, ss_LoopError⟩, sg_LoopError, rd_LoopError, fc_LoopError⟩, ⟨⟨PySem.W.mg_of X G aC_BadRow, kp_BadRow, ty_BadRow, hd_BadRow, ga_BadRow, gg_BadRow, be_BadRow, ca_BadRow, mo_BadRow, sv_BadRow, ss_BadRow⟩, en_BadRow⟩, ⟨⟨PySem.W.mg_of X G aC_BadName, kp_BadName, ty_BadName, hd_BadName, ga_BadName, gg_BadName, be_BadName, ca_BadName, mo_BadName, sv_BadName, ss_BadName⟩, en_BadName⟩, ⟨⟨PySem.W.mg_of X G aC_BadNumber, kp_BadNumber, ty_BadNumber, hd_BadNumber, ga_BadNumber, gg_BadNumber, be_BadNumber, ca_BadNumber, mo_BadNumber, sv_BadNumber, ss_BadNumber⟩, en_BadNumber⟩, ⟨⟨PySem.W.mg_of X G aC_BadLine, kp_BadLine, ty_BadLine, hd_BadLine, ga_BadLine, gg_BadLine, be_BadLine, ca_BadLine, mo_BadLine, sv_BadLine, ss_BadLine⟩, ⟨_, _, _, _, _, _, _, _, _, _, _, _, _, _, _, lk_BadLine, rv_BadLine⟩, sa_BadLine, np_BadLine, ⟨_, _, M_BadLine, ⟨ma_BadLine, mi_BadLine, mk_BadLine⟩, M_BadLine.binds fun _ _ _ _ _ _ us hl => match us, hl with | [_, _], _ => rfl⟩⟩, ⟨⟨PySem.W.mg_of X G aC_TooDeep, kp_TooDeep, ty_TooDeep, hd_TooDeep, ga_TooDeep, gg_TooDeep, be_TooDeep, ca_TooDeep, mo_TooDeep, sv_TooDeep, ss_TooDeep⟩, ⟨_, _, _, _, _, _, _, _, _, _, _, _, _, _, _, lk_TooDeep, rv_TooDeep⟩, sa_TooDeep, np_TooDeep, ⟨_, _, M_TooDeep, ⟨ma_TooDeep, mi_TooDeep, mk_TooDeep⟩, M_TooDeep.binds fun _ _ _ _ _ _ us hl => match us, hl with | [_, _], _ => rfl⟩⟩, s_BadRow_LoopError, s_BadRow_BadName, s_BadRow_BadNumber, s_BadRow_BadLine, s_BadRow_TooDeep, s_BadName_LoopError, s_BadName_BadRow, s_BadName_BadNumber, s_BadName_BadLine, s_BadName_TooDeep, s_BadNumber_LoopError, s_BadNumber_BadRow, s_BadNumber_BadName, s_BadNumber_BadLine, s_BadNumber_TooDeep, s_BadLine_LoopError, s_BadLine_BadRow, s_BadLine_BadName, s_BadLine_BadNumber, s_BadLine_TooDeep, s_TooDeep_LoopError, s_TooDeep_BadRow, s_TooDeep_BadName, s_TooDeep_BadNumber, s_TooDeep_BadLine, ⟨ob_g, ob_t⟩⟩⟩⟩
  refine ⟨PySem.W.fnOf "law" "law" (defArgs s_law) (defBody s_law) (defScope s_law) .none kV18 dc18 pm18 an18 cd18 ct18, fun s v => .of_eq rfl, fun base _ _ => ?_⟩
  exact ok_law F18 T
theorem walk {l : PySem.W.OpenLaw} {q : Program} {loose : List Str} {XP : (Str → Option Value) → Heap → Prop} {YP : World → Heap → Prop} {d : DefRec} {K : Params → PySem.W.Frag} (hn : l.most = some 63) (hdf : d.params.defaults = [])
    (hY : ∀ (w : World) (h : Heap), YP w h → (K w.params).In h)
    (F : ∀ (w : World) (mg : Str → Option Value) (fa : Addr) (h : Heap), (K w.params).In h → h.Ns mainGlobals mg → mg d.name = some (.ref fa) →
      ∃ fd : FuncData, (∀ (s : Shared) (u : Value), BindsTo s fd ⟨[u], []⟩ [("_law_script", u)]) ∧ ∀ base : Heap, (K w.params).In base → base.Ns mainGlobals mg → FnOk l.prog w (K w.params) mg base CX0 150 fa fd ["_law_script"] (spLaw (K w.params))) :
    PySem.W.WalkO q loose XP YP l.row.toRowW d [] (fun f vs => PySem.call f vs) :=
  L2.walk_of (n := 63) (k := 150) (x := "_law_script") (CX := fun _ => CX0) (sp := fun w => spLaw (K w.params)) hn (by decide) hdf ⟨rfl, by decide, by decide⟩ hY F (fun _ _ a ns hl _ hS => ⟨a, ns, rfl, hS, hl, fun _ => rfl⟩) fun _ _ _ _ _ z => z
end LM
open PySem PySem.W PyProof.Rows
set_option maxRecDepth 100000 in
set_option maxHeartbeats 0 in
theorem PySem.Challenge.cw_loopmover_k12_lines_that_are_none_holds : PySem.Challenge.rw_loopmover_k12_lines_that_are_none.Holds := by
  w_on; o_law; k_head; (case hw => w_witness2)
  k_fill
  refine LM.walk (l := PySem.Challenge.rw_loopmover_k12_lines_that_are_none) rfl rfl (fun w h Y => PySem.W.kIn_of Y) ?F
  case F =>
    intro w mg fa h KX G hmg
    refine' LM.all_mk KX G hmg ?a0 ?l0 ?c0 ?k0 ?a1 ?l1 ?c1 ?k1 ?a2 ?l2 ?c2 ?k2 ?a3 ?l3 ?c3 ?k3 ?a4 ?l4 ?c4 ?k4 ?a5 ?l5 ?c5 ?k5 ?a6 ?l6 ?c6 ?k6 ?a7 ?l7 ?c7 ?k7 ?a8 ?l8 ?c8 ?k8 ?a9 ?l9 ?c9 ?k9 ?a10 ?l10 ?c10 ?k10 ?a11 ?l11 ?c11 ?k11 ?a12 ?l12 ?c12 ?k12 ?a13 ?l13 ?c13 ?k13 ?a14 ?l14 ?c14 ?k14 ?a15 ?l15 ?c15 ?k15 ?a16 ?l16 ?c16 ?k16 ?a17 ?l17 ?c17 ?k17 ?a18 ?l18 ?c18 ?k18 ?z_ValueError ?z_all ?z_bool ?z_int ?z_isinstance ?z_len ?z_list ?z_max ?z_range ?z_str ?m_MOST_DEEP ?m_LETTERS ?m_WORDS ?v_WORDS ?m_BLOCKS ?v_BLOCKS ?m_SIGNS ?v_SIGNS ?m_FIGURES ?aC_LoopError ?kp_LoopError ?ty_LoopError ?hd_LoopError ?ga_LoopError ?gg_LoopError ?be_LoopError ?ca_LoopError ?mo_LoopError ?sv_LoopError ?ss_LoopError ?sg_LoopError ?rd_LoopError ?fc_LoopError ?aC_BadRow ?kp_BadRow ?ty_BadRow ?hd_BadRow ?ga_BadRow ?gg_BadRow ?be_BadRow ?ca_BadRow ?mo_BadRow ?sv_BadRow ?ss_BadRow ?en_BadRow ?aC_BadName ?kp_BadName ?ty_BadName ?hd_BadName ?ga_BadName ?gg_BadName ?be_BadName ?ca_BadName ?mo_BadName ?sv_BadName ?ss_BadName ?en_BadName ?aC_BadNumber ?kp_BadNumber ?ty_BadNumber ?hd_BadNumber ?ga_BadNumber ?gg_BadNumber ?be_BadNumber ?ca_BadNumber ?mo_BadNumber ?sv_BadNumber ?ss_BadNumber ?en_BadNumber ?aC_BadLine ?kp_BadLine ?ty_BadLine ?hd_BadLine ?ga_BadLine ?gg_BadLine ?be_BadLine ?ca_BadLine ?mo_BadLine ?sv_BadLine ?ss_BadLine ?lk_BadLine ?rv_BadLine ?sa_BadLine ?np_BadLine ?ma_BadLine ?mi_BadLine ?ml_BadLine ?mc_BadLine ?mk_BadLine ?aC_TooDeep ?kp_TooDeep ?ty_TooDeep ?hd_TooDeep ?ga_TooDeep ?gg_TooDeep ?be_TooDeep ?ca_TooDeep ?mo_TooDeep ?sv_TooDeep ?ss_TooDeep ?lk_TooDeep ?rv_TooDeep ?sa_TooDeep ?np_TooDeep ?ma_TooDeep ?mi_TooDeep ?ml_TooDeep ?mc_TooDeep ?mk_TooDeep ?s_BadRow_LoopError ?s_BadRow_BadName ?s_BadRow_BadNumber ?s_BadRow_BadLine ?s_BadRow_TooDeep ?s_BadName_LoopError ?s_BadName_BadRow ?s_BadName_BadNumber ?s_BadName_BadLine ?s_BadName_TooDeep ?s_BadNumber_LoopError ?s_BadNumber_BadRow ?s_BadNumber_BadName ?s_BadNumber_BadLine ?s_BadNumber_TooDeep ?s_BadLine_LoopError ?s_BadLine_BadRow ?s_BadLine_BadName ?s_BadLine_BadNumber ?s_BadLine_TooDeep ?s_TooDeep_LoopError ?s_TooDeep_BadRow ?s_TooDeep_BadName ?s_TooDeep_BadNumber ?s_TooDeep_BadLine ?ob_g ?ob_t
    (case a0 => k_is)
    (case l0 => k_is)
    (case c0 => k_is)
    (case k0 => k_is)
    (case a1 => k_is)
    (case l1 => k_is)
    (case c1 => k_is)
    (case k1 => k_is)
    (case a2 => k_is)
    (case l2 => k_is)
    (case c2 => k_is)
    (case k2 => k_is)
    (case a3 => k_is)
    (case l3 => k_is)
    (case c3 => k_is)
    (case k3 => k_is)
    (case a4 => k_is)
    (case l4 => k_is)
    (case c4 => k_is)
    (case k4 => k_is)
    (case a5 => k_is)
    (case l5 => k_is)
    (case c5 => k_is)
    (case k5 => k_is)
    (case a6 => k_is)
    (case l6 => k_is)
    (case c6 => k_is)
    (case k6 => k_is)
    (case a7 => k_is)
    (case l7 => k_is)
    (case c7 => k_is)
    (case k7 => k_is)
    (case a8 => k_is)
    (case l8 => k_is)
    (case c8 => k_is)
    (case k8 => k_is)
    (case a9 => k_is)
    (case l9 => k_is)
    (case c9 => k_is)
    (case k9 => k_is)
    (case a10 => k_is)
    (case l10 => k_is)
    (case c10 => k_is)
    (case k10 => k_is)
    (case a11 => k_is)
    (case l11 => k_is)
    (case c11 => k_is)
    (case k11 => k_is)
    (case a12 => k_is)
    (case l12 => k_is)
    (case c12 => k_is)
    (case k12 => k_is)
    (case a13 => k_is)
    (case l13 => k_is)
    (case c13 => k_is)
    (case k13 => k_is)
    (case a14 => k_is)
    (case l14 => k_is)
    (case c14 => k_is)
    (case k14 => k_is)
    (case a15 => k_is)
    (case l15 => k_is)
    (case c15 => k_is)
    (case k15 => k_is)
    (case a16 => k_is)
    (case l16 => k_is)
    (case c16 => k_is)
    (case k16 => k_is)
    (case a17 => k_is)
    (case l17 => k_is)
    (case c17 => k_is)
    (case k17 => k_is)
    (case a18 => k_is)
    (case l18 => k_is)
    (case c18 => k_is)
    (case k18 => k_is)
    (case z_ValueError => k_is)
    (case z_all => k_is)
    (case z_bool => k_is)
    (case z_int => k_is)
    (case z_isinstance => k_is)
    (case z_len => k_is)
    (case z_list => k_is)
    (case z_max => k_is)
    (case z_range => k_is)
    (case z_str => k_is)
    (case m_MOST_DEEP => k_is)
    (case m_LETTERS => k_is)
    (case m_WORDS => k_is)
    (case v_WORDS => k_is)
    (case m_BLOCKS => k_is)
    (case v_BLOCKS => k_is)
    (case m_SIGNS => k_is)
    (case v_SIGNS => k_is)
    (case m_FIGURES => k_is)
    (case aC_LoopError => k_is)
    (case kp_LoopError => k_is)
    (case ty_LoopError => k_is)
    (case hd_LoopError => k_is)
    (case ga_LoopError => k_is)
    (case gg_LoopError => k_is)
    (case be_LoopError => k_is)
    (case ca_LoopError => k_is)
    (case mo_LoopError => k_is)
    (case sv_LoopError => k_is)
    (case ss_LoopError => k_is)
    (case sg_LoopError => k_is)
    (case rd_LoopError => k_is)
    (case fc_LoopError => k_is)
    (case aC_BadRow => k_is)
    (case kp_BadRow => k_is)
    (case ty_BadRow => k_is)
    (case hd_BadRow => k_is)
    (case ga_BadRow => k_is)
    (case gg_BadRow => k_is)
    (case be_BadRow => k_is)
    (case ca_BadRow => k_is)
    (case mo_BadRow => k_is)
    (case sv_BadRow => k_is)
    (case ss_BadRow => k_is)
    (case en_BadRow => k_exc)
    (case aC_BadName => k_is)
    (case kp_BadName => k_is)
    (case ty_BadName => k_is)
    (case hd_BadName => k_is)
    (case ga_BadName => k_is)
    (case gg_BadName => k_is)
    (case be_BadName => k_is)
    (case ca_BadName => k_is)
    (case mo_BadName => k_is)
    (case sv_BadName => k_is)
    (case ss_BadName => k_is)
    (case en_BadName => k_exc)
    (case aC_BadNumber => k_is)
    (case kp_BadNumber => k_is)
    (case ty_BadNumber => k_is)
    (case hd_BadNumber => k_is)
    (case ga_BadNumber => k_is)
    (case gg_BadNumber => k_is)
    (case be_BadNumber => k_is)
    (case ca_BadNumber => k_is)
    (case mo_BadNumber => k_is)
    (case sv_BadNumber => k_is)
    (case ss_BadNumber => k_is)
    (case en_BadNumber => k_exc)
    (case aC_BadLine => k_is)
    (case kp_BadLine => k_is)
    (case ty_BadLine => k_is)
    (case hd_BadLine => k_is)
    (case ga_BadLine => k_is)
    (case gg_BadLine => k_is)
    (case be_BadLine => k_is)
    (case ca_BadLine => k_is)
    (case mo_BadLine => k_is)
    (case sv_BadLine => k_is)
    (case ss_BadLine => k_is)
    (case lk_BadLine => k_is)
    (case rv_BadLine => with_unfolding_all rfl)
    (case sa_BadLine => k_is)
    (case np_BadLine => k_is)
    (case ma_BadLine => k_is)
    (case mi_BadLine => k_is)
    (case ml_BadLine => k_is)
    (case mc_BadLine => k_is)
    (case mk_BadLine => k_is)
    (case aC_TooDeep => k_is)
    (case kp_TooDeep => k_is)
    (case ty_TooDeep => k_is)
    (case hd_TooDeep => k_is)
    (case ga_TooDeep => k_is)
    (case gg_TooDeep => k_is)
    (case be_TooDeep => k_is)
    (case ca_TooDeep => k_is)
    (case mo_TooDeep => k_is)
    (case sv_TooDeep => k_is)
    (case ss_TooDeep => k_is)
    (case lk_TooDeep => k_is)
    (case rv_TooDeep => with_unfolding_all rfl)
    (case sa_TooDeep => k_is)
    (case np_TooDeep => k_is)
    (case ma_TooDeep => k_is)
    (case mi_TooDeep => k_is)
    (case ml_TooDeep => k_is)
    (case mc_TooDeep => k_is)
    (case mk_TooDeep => k_is)
    (case s_BadRow_LoopError => k_is)
    (case s_BadRow_BadName => k_is)
    (case s_BadRow_BadNumber => k_is)
    (case s_BadRow_BadLine => k_is)
    (case s_BadRow_TooDeep => k_is)
    (case s_BadName_LoopError => k_is)
    (case s_BadName_BadRow => k_is)
    (case s_BadName_BadNumber => k_is)
    (case s_BadName_BadLine => k_is)
    (case s_BadName_TooDeep => k_is)
    (case s_BadNumber_LoopError => k_is)
    (case s_BadNumber_BadRow => k_is)
    (case s_BadNumber_BadName => k_is)
    (case s_BadNumber_BadLine => k_is)
    (case s_BadNumber_TooDeep => k_is)
    (case s_BadLine_LoopError => k_is)
    (case s_BadLine_BadRow => k_is)
    (case s_BadLine_BadName => k_is)
    (case s_BadLine_BadNumber => k_is)
    (case s_BadLine_TooDeep => k_is)
    (case s_TooDeep_LoopError => k_is)
    (case s_TooDeep_BadRow => k_is)
    (case s_TooDeep_BadName => k_is)
    (case s_TooDeep_BadNumber => k_is)
    (case s_TooDeep_BadLine => k_is)
    (case ob_g => k_is)
    (case ob_t => k_is)
