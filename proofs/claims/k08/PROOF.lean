import PyProof.Rows.All
import Wide.All
import OpenK.AllK
import Wide.FinOn
import HandS.Base
import HandS.Call
import HandS.List
import HandS.Comp
import HandS.Ends
import HandS.Dict
import HandS.Iter
import HandS.Words
import HandS.Evl
import HandS.More
import HandS.Text
import HandS.IsInst
import HandS.Walk
import PyProof.Rows.StrMeet
import KE.KEqDict
import PySem.Challenge.RW_loopmover_k08_one_loop_saves
set_option Elab.async false
set_option linter.all false
set_option maxRecDepth 100000
set_option maxHeartbeats 4000000
namespace LM
open PySem PySem.Spec PyProof.Rows L2

/-! ### statements and expressions by what they do, without a derivation -/
def WE (X : Cx) (e : Expr) (σ : L2.St) (H : Hp) (Q : VK) : Prop :=
  ∀ (pins : List (Addr × Obj)) (s : Shared), Inv X pins σ H s → wpAny (model X.prog X.w) X.A (eval e X.env) (EP X pins σ Q) X.xe s
def WT (X : Cx) (e : Expr) (σ : L2.St) (H : Hp) (Q : Bool → Hp → Prop) : Prop :=
  ∀ (pins : List (Addr × Obj)) (s : Shared), Inv X pins σ H s → wpAny (model X.prog X.w) X.A (isTrue e X.env (eval e X.env)) (TP X pins σ Q) X.xe s
def WW (X : Cx) (e : Expr) (σ : L2.St) (H : Hp) (Q : Bool → Hp → Prop) : Prop :=
  ∀ (whole : Sem Value) (pins : List (Addr × Obj)) (s : Shared), Inv X pins σ H s → wpAny (model X.prog X.w) X.A (isTrue e X.env whole) (TP X pins σ Q) X.xe s
def WA (X : Cx) (es : List Expr) (σ : L2.St) (H : Hp) (Q : List V → Hp → Prop) : Prop :=
  ∀ (pos : Pos) (pins : List (Addr × Obj)) (s : Shared), Inv X pins σ H s → wpAny (model X.prog X.w) X.A (spliced (backTo pos (starEach es X.env))) (AP X pins σ Q) X.xe s
def WS (X : Cx) (st : Stmt) (D : Ends) (σ : L2.St) (H : Hp) : Prop :=
  ∀ (pins : List (Addr × Obj)) (s : Shared), Inv X pins σ H s → wpAny (model X.prog X.w) X.A (exec st X.env) (SP X pins D) X.xe s
def WSs (X : Cx) (st : List Stmt) (D : Ends) (σ : L2.St) (H : Hp) : Prop :=
  ∀ (pins : List (Addr × Obj)) (s : Shared), Inv X pins σ H s → wpAny (model X.prog X.w) X.A (execs st X.env) (SP X pins D) X.xe s

section
variable {X : Cx} {e a b c : Expr} {es : List Expr} {σ : L2.St} {H : Hp} {Q : VK} {pos p : Pos} {x : Str}
theorem pe (X : Cx) (e : Expr) : PE X e (WE X e) := ⟨fun pins s σ H Q I h => h pins s I⟩
theorem pt (X : Cx) (e : Expr) : PT X e (WT X e) := ⟨fun pins s σ H Q I h => h pins s I⟩
theorem pw (X : Cx) (e : Expr) : PW X e (WW X e) := ⟨fun wh pins s σ H Q I h => h wh pins s I⟩
theorem pa (X : Cx) (es : List Expr) : PA X es (WA X es) := ⟨fun pos pins s σ H Q I h => h pos pins s I⟩
theorem ps (X : Cx) (st : Stmt) : PS X st (WS X st) := ⟨fun pins s σ H D I h => h pins s I⟩
theorem pss (X : Cx) (st : List Stmt) : PSs X st (WSs X st) := ⟨fun pins s σ H D I h => h pins s I⟩
theorem WE.of {t : TE} (h : PE X e t) (q : t σ H Q) : WE X e σ H Q := fun pins s I => h.run pins s σ H Q I q
theorem WT.of {t : TT} {Q : Bool → Hp → Prop} (h : PT X e t) (q : t σ H Q) : WT X e σ H Q := fun pins s I => h.run pins s σ H Q I q
theorem WA.of {t : TA} {Q : List V → Hp → Prop} (h : PA X es t) (q : t σ H Q) : WA X es σ H Q := fun pos pins s I => h.run pos pins s σ H Q I q
theorem WS.of {t : TS} {st : Stmt} {D : Ends} (h : PS X st t) (q : t D σ H) : WS X st D σ H := fun pins s I => h.run pins s σ H D I q
theorem WSs.of {t : TS} {st : List Stmt} {D : Ends} (h : PSs X st t) (q : t D σ H) : WSs X st D σ H := fun pins s I => h.run pins s σ H D I q
theorem WE.mono {Q' : VK} (h : WE X e σ H Q) (k : ∀ v H', Q v H' → Q' v H') : WE X e σ H Q' := fun pins s I =>
  thn (h pins s I) fun _ _ ⟨v, H', J, r, q⟩ => ⟨v, H', J, r, k v H' q⟩
theorem WT.mono {Q Q' : Bool → Hp → Prop} (h : WT X e σ H Q) (k : ∀ v H', Q v H' → Q' v H') : WT X e σ H Q' := fun pins s I =>
  thn (h pins s I) fun _ _ ⟨H', J, q⟩ => ⟨H', J, k _ H' q⟩
/-- weaker ends -/
theorem WSs.mono {st : List Stmt} {D D' : Ends} (h : WSs X st D σ H) (h1 : ∀ σ H, D.nx σ H → D'.nx σ H) (h2 : ∀ v H, D.rt v H → D'.rt v H) (h3 : ∀ σ H, D.bk σ H → D'.bk σ H) (h4 : ∀ σ H, D.ct σ H → D'.ct σ H) : WSs X st D' σ H := fun pins s I =>
  thn (h pins s I) fun f s' q => by
    cases f with
    | next => obtain ⟨σ', H', J, q⟩ := q; exact ⟨σ', H', J, h1 _ _ q⟩
    | brk => obtain ⟨σ', H', J, q⟩ := q; exact ⟨σ', H', J, h3 _ _ q⟩
    | cont => obtain ⟨σ', H', J, q⟩ := q; exact ⟨σ', H', J, h4 _ _ q⟩
    | ret u => obtain ⟨v, σ', H', J, r, q⟩ := q; exact ⟨v, σ', H', J, r, h2 _ _ q⟩

/-! ### names by their places -/
inductive At : List Str → L2.St → Str → V → Prop where
  | here {x : Str} {l : List Str} {v : V} {σ : L2.St} : At (x :: l) (some v :: σ) x v
  | there {x y : Str} {l : List Str} {v : V} {o : Option V} {σ : L2.St} (h : At l σ x v) : At (y :: l) (o :: σ) x v
theorem At.ix {l : List Str} {σ : L2.St} {x : Str} {v : V} (h : At l σ x v) : ∃ i : Nat, l[i]? = some x ∧ σ[i]? = some (some v) := by
  induction h with
  | here => exact ⟨0, rfl, rfl⟩
  | there _ ih => obtain ⟨i, h1, h2⟩ := ih; exact ⟨i + 1, by simpa using h1, by simpa using h2⟩
/-- behind a store -/
inductive Put : List Str → L2.St → Str → V → L2.St → Prop where
  | here {x : Str} {l : List Str} {v : V} {o : Option V} {σ : L2.St} : Put (x :: l) (o :: σ) x v (some v :: σ)
  | there {x y : Str} {l : List Str} {v : V} {o : Option V} {σ σ' : L2.St} (h : Put l σ x v σ') : Put (y :: l) (o :: σ) x v (o :: σ')
theorem Put.ix {l : List Str} {σ σ' : L2.St} {x : Str} {v : V} (h : Put l σ x v σ') : ∃ i : Nat, l[i]? = some x ∧ σ' = σ.set i (some v) := by
  induction h with
  | here => exact ⟨0, rfl, rfl⟩
  | there _ ih => obtain ⟨i, h1, h2⟩ := ih; exact ⟨i + 1, by simpa using h1, by simp [h2]⟩
end

/-! ### the context of a body, told apart -/
/-- N: the names by slots; L: those that are stored; V: those that are read; G: the global names that are read -/
structure Fr (X : Cx) (N L V G : List Str) : Prop where
  n : X.N = N
  nd : N.Nodup
  vis : ∀ x ∈ V, Vis X.env.scope x
  loc : ∀ x ∈ L, Loc X.env.scope x ∧ (X.fn x = true ∨ X.env.scope.names.lookup x = some .local)
  gl : ∀ x ∈ G, Gl X x
  nodbg : ∀ x ∈ N ++ G, (x == ("__debug__" : Str)) = false ∧ (x == ("__classdict__" : Str)) = false ∧ x ≠ "__name__"
  calm : X.calm = true
  xe : X.xe = fun _ _ => False
/-- a def's own scope, looked at once: N the slots (the names of its comprehensions too), L its own names, G the global ones -/
def scB (sc : Scope) (N L G : List Str) : Bool := L.all (fun x => match sc.names.lookup x with | some .local => true | some .cell => true | _ => false) && G.all (fun x => match sc.names.lookup x with | some .globalImplicit => true | _ => false)
  && (N ++ G).all fun x => !(x == ("__debug__" : Str)) && !(x == ("__classdict__" : Str)) && !decide (x = "__name__")
theorem scB_loc {sc : Scope} {N L G : List Str} (h : scB sc N L G = true) : ∀ x ∈ L, sc.names.lookup x = some .local ∨ sc.names.lookup x = some .cell := fun x hx => by
  unfold scB at h
  rw [Bool.and_eq_true, Bool.and_eq_true, List.all_eq_true, List.all_eq_true] at h
  have q := h.1.1 x hx
  split at q <;> first | exact .inl (by assumption) | exact .inr (by assumption) | cases q
theorem scB_gl {sc : Scope} {N L G : List Str} (h : scB sc N L G = true) : ∀ x ∈ G, sc.names.lookup x = some .globalImplicit := fun x hx => by
  unfold scB at h
  rw [Bool.and_eq_true, Bool.and_eq_true, List.all_eq_true, List.all_eq_true] at h
  have q := h.1.2 x hx
  split at q <;> first | assumption | cases q
theorem scB_nodbg {sc : Scope} {N L G : List Str} (h : scB sc N L G = true) : ∀ x ∈ N ++ G, (x == ("__debug__" : Str)) = false ∧ (x == ("__classdict__" : Str)) = false ∧ x ≠ "__name__" := fun x hx => by
  unfold scB at h
  rw [Bool.and_eq_true, List.all_eq_true] at h
  have q := h.2 x hx
  rw [Bool.and_eq_true, Bool.and_eq_true, Bool.not_eq_true', Bool.not_eq_true', Bool.not_eq_true', decide_eq_false_iff_not] at q
  exact ⟨q.1.1, q.1.2, q.2⟩

/-! ### defs: a def of the text, what it promises -/
/-- the def of this name stands in the module as the text says -/
def Def (K : PySem.W.Frag) (mg : Str → Option Value) (x : Str) (st : Stmt) (ps : List Str) : Prop :=
  ∃ f fd, Fun K x x st f fd ∧ mg x = some (.ref f) ∧ Binds K fd ps []
/-- it keeps a promise -/
def CallOk (P : Program) (w : World) (K : PySem.W.Frag) (mg : Str → Option Value) (base : Heap) (k : Nat) (x : Str) (ps : List Str) (sp : Sp) : Prop :=
  ∃ f fd, FnOk P w K mg base CX0 k f fd ps sp ∧ mg x = some (.ref f) ∧ PySem.W.keepIn K (.ref f) = true ∧ Binds K fd ps []
theorem CallOk.mono {P : Program} {w : World} {K : PySem.W.Frag} {mg : Str → Option Value} {base : Heap} {j k : Nat} {x : Str} {ps : List Str} {sp : Sp} (c : CallOk P w K mg base j x ps sp) (h : j ≤ k) : CallOk P w K mg base k x ps sp :=
  let ⟨f, fd, F, m, kp, b⟩ := c
  ⟨f, fd, F.mono h, m, kp, b⟩
/-- THE RULE: a def keeps its promise if its body does, run at the parameters' values -/
theorem Fun.okW {P : Program} {w : World} {K : PySem.W.Frag} {mg : Str → Option Value} {base : Heap} {x : Str} {st : Stmt} {f : Addr} {fd : FuncData} {N L ps G : List Str} {k : Nat} {sp : Sp} (F : Fun K x x st f fd) (S : FnScope N ps (defScope st)) (B : scB (defScope st) N L G = true)
    (len : ∀ vs H Q E, sp vs H Q E → vs.length = ps.length)
    (hbody : ∀ X : Cx, X.prog = P → X.w = w → X.K = K → X.mg = mg → X.base = base → Fr X N L L G → X.env.scope = defScope st → Room k X.A → ∀ (vs : List V) (H : Hp) (Q : VK) (E : XK), sp vs H Q E → WSs X (defBody st) { nx := fun _ H' => Q .non H', rt := Q } (start N vs) H) :
    FnOk P w K mg base CX0 (k + 1) f fd ps sp := by
  refine F.ok S len fun cdv A outer s H vs Q E hr h => ?_
  refine ⟨_, pss _ _, hbody _ rfl rfl rfl rfl rfl ⟨rfl, S.nd, fun y hy => ?_, fun y hy => ?_, fun y hy => ?_, scB_nodbg B, rfl, rfl⟩ rfl hr vs H Q E h⟩
  · rcases scB_loc B y hy with q | q
    · exact .inl q
    · exact .inr (.inl q)
  · exact ⟨scB_loc B y hy, .inl rfl⟩
  · exact scB_gl B y hy
theorem Def.ok {P : Program} {w : World} {K : PySem.W.Frag} {mg : Str → Option Value} {base : Heap} {x : Str} {st : Stmt} {N L ps G : List Str} {k : Nat} {sp : Sp} (F : Def K mg x st ps) (S : FnScope N ps (defScope st)) (B : scB (defScope st) N L G = true)
    (len : ∀ vs H Q E, sp vs H Q E → vs.length = ps.length)
    (hbody : ∀ X : Cx, X.prog = P → X.w = w → X.K = K → X.mg = mg → X.base = base → Fr X N L L G → X.env.scope = defScope st → Room k X.A → ∀ (vs : List V) (H : Hp) (Q : VK) (E : XK), sp vs H Q E → WSs X (defBody st) { nx := fun _ H' => Q .non H', rt := Q } (start N vs) H) :
    CallOk P w K mg base (k + 1) x ps sp := by
  obtain ⟨f, fd, F, m, b⟩ := F
  exact ⟨f, fd, Fun.okW F S B len hbody, m, F.kp, b⟩

section
variable {X : Cx} {N L Vs G : List Str} {e a b c : Expr} {es : List Expr} {σ : L2.St} {H : Hp} {Q : VK} {pos p : Pos} {x : Str} {v : V}
/-! ### expressions -/
theorem w_name (C : Fr X N L Vs G) (h : At N σ x v) (hx : x ∈ Vs) (q : Q v H) : WE X (.Name x pos) σ H Q := by
  obtain ⟨i, h1, h2⟩ := h.ix
  have d := C.nodbg x (List.mem_append_left _ (List.mem_of_getElem? h1))
  exact .of (pe_var (i := i) (by rw [C.n]; exact h1) (C.vis x hx) d.1 d.2.1) ⟨v, h2, q⟩
theorem w_glob {u : Value} (C : Fr X N L Vs G) (hx : x ∈ G) (hm : X.mg x = some u) (r : RelV v u) (q : Q v H) : WE X (.Name x pos) σ H Q :=
  .of (pe_glob (C.gl x hx) hm r (C.nodbg x (List.mem_append_right _ hx)).1) q
theorem w_int {i : Int} {j} (q : Q (.int i) H) : WE X (.Constant (.int i) j pos) σ H Q := .of pe_int q
theorem w_bl {i : Bool} {j} (q : Q (.bl i) H) : WE X (.Constant (.bool i) j pos) σ H Q := .of pe_bl q
theorem w_non {j} (q : Q .non H) : WE X (.Constant .none j pos) σ H Q := .of pe_non q
theorem w_str {i : Str} {j} (q : Q (.str i) H) : WE X (.Constant (.str i) j pos) σ H Q := .of pe_str q

/-- two values and an operator -/
def WB (X : Cx) (op : Operator) (x y : V) (H : Hp) (Q : VK) : Prop := ∃ r, OpR X (binaryOp op) r ∧ r x y H Q
def WC (X : Cx) (op : CmpOp) (x y : V) (H : Hp) (Q : VK) : Prop := ∃ r, OpR X (compareOp op) r ∧ r x y H Q
theorem w_op {op : Operator} (h : WE X a σ H fun x H1 => WE X b σ H1 fun y H2 => WB X op x y H2 Q) : WE X (.BinOp a op b pos) σ H Q := fun pins s I => by
  have go : PE X (.BinOp a op b pos) (fun σ H Q => WE X a σ H fun x H1 => WE X b σ H1 fun y H2 => WB X op x y H2 Q) :=
    pe_op (r := fun x y H Q => WB X op x y H Q) (fun pins s σ H x y v u Q I rx ry ⟨r, o, q⟩ => o pins s σ H x y v u Q I rx ry q) (pe X a) (pe X b)
  exact go.run pins s σ H Q I h
theorem w_cmp {op : CmpOp} (hm : behindInMarks op b = false) (h : WE X a σ H fun x H1 => WE X b σ H1 fun y H2 => WC X op x y H2 Q) : WE X (.Compare a [op] [b] pos) σ H Q := fun pins s I => by
  have go : PE X (.Compare a [op] [b] pos) (fun σ H Q => WE X a σ H fun x H1 => WE X b σ H1 fun y H2 => WC X op x y H2 Q) :=
    pe_cmpR (r := fun x y H Q => WC X op x y H Q) (fun pins s σ H x y v u Q I rx ry ⟨r, o, q⟩ => o pins s σ H x y v u Q I rx ry q) (pe X a) (pe X b) hm
  exact go.run pins s σ H Q I h
theorem t_cmp {op : CmpOp} {Q : Bool → Hp → Prop} (hm : behindInMarks op b = false) (h : WE X a σ H fun x H1 => WE X b σ H1 fun y H2 => WC X op x y H2 fun z H3 => ∃ k, z = .bl k ∧ Q k H3) : WT X (.Compare a [op] [b] pos) σ H Q := fun pins s I => by
  have go : PT X (.Compare a [op] [b] pos) (tTest fun σ H Q => WE X a σ H fun x H1 => WE X b σ H1 fun y H2 => WC X op x y H2 Q) :=
    pt_cmpR (r := fun x y H Q => WC X op x y H Q) (fun pins s σ H x y v u Q I rx ry ⟨r, o, q⟩ => o pins s σ H x y v u Q I rx ry q) (pe X a) (pe X b) hm
  exact go.run pins s σ H Q I h
end
end LM
namespace LM
open PySem PySem.Spec PyProof.Rows L2
/-! ### values: dicts by the same words as lists -/
theorem op_inD {X : Cx} (hu : X.A.units + 1 < cLine) : OpR X (compareOp .In) (fun y x H Q => ∃ a o, x = .ref a ∧ DGet H a y o ∧ Q (.bl o.isSome) H) := by
  intro pins s σ H y x u v Q I ry rx h
  obtain ⟨a, o, ex, g, q⟩ := h
  subst ex
  obtain rfl : v = Value.ref a := rx
  exact d_in hu I g ry fun s2 I2 => ⟨.bl o.isSome, H, I2, rfl, q⟩
theorem op_notInD {X : Cx} (hu : X.A.units + 1 < cLine) : OpR X (compareOp .NotIn) (fun y x H Q => ∃ a o, x = .ref a ∧ DGet H a y o ∧ Q (.bl (!o.isSome)) H) := by
  intro pins s σ H y x u v Q I ry rx h
  obtain ⟨a, o, ex, g, q⟩ := h
  subst ex
  obtain rfl : v = Value.ref a := rx
  exact d_notIn hu I g ry fun s2 I2 => ⟨.bl (!o.isSome), H, I2, rfl, q⟩
theorem set_dict {X : Cx} (hu : X.A.units + 1 < cLine) : PSet X (fun o i v H Q => ∃ a H4, o = .ref a ∧ DPut H a i v H4 ∧ Q H4) := by
  intro pins s σ H o i v ov iv u Q I ro ri rv h
  obtain ⟨a, H4, ex, g, q⟩ := h
  subst ex
  obtain rfl : ov = Value.ref a := ro
  exact d_setItem hu I g ri rv fun s4 I4 => ⟨H4, I4, q⟩

theorem same_new {H : Hp} {p : Addr} {o : HO} (h : H p = none) : Same H (upd H p o) := fun b u q => by rw [upd_ne (ne_of_none q h)]; exact q
section
variable {X : Cx} {N L Vs G : List Str} {e a b c d : Expr} {es : List Expr} {σ : L2.St} {H : Hp} {Q : VK} {pos p apos cpos : Pos} {x : Str} {v : V}
/-! ### subscripts -/
def WI (X : Cx) (x y : V) (H : Hp) (Q : VK) : Prop := ∃ r, IxR X r ∧ r x y H Q
theorem w_ix (hs : PlainIx b) (h : WE X a σ H fun x H1 => WE X b σ H1 fun y H2 => WI X x y H2 Q) : WE X (.Subscript a b pos) σ H Q := fun pins s I => by
  have go : PE X (.Subscript a b pos) (tOp (fun x y H Q => WI X x y H Q) (WE X a) (WE X b)) :=
    pe_ix (fun value slice pins s σ H x y v u Q I rx ry ⟨r, o, q⟩ hs => o value slice pins s σ H x y v u Q I rx ry q hs) (pe X a) (pe X b) hs
  exact go.run pins s σ H Q I h
theorem i_lst {p : Addr} {xs : List V} {i : Int} (h : SqL X.K H p xs) (e : atI xs i = some v) (q : Q v H) : WI X (.ref p) (.int i) H Q := ⟨_, ix_list, p, xs, i, v, rfl, rfl, h, e, q⟩
theorem i_tup {p : Addr} {xs : List V} {i : Int} (h : SqT X.K H p xs) (e : atI xs i = some v) (q : Q v H) : WI X (.ref p) (.int i) H Q := ⟨_, ix_tup, p, xs, i, v, rfl, rfl, h, e, q⟩
theorem i_str {z : Str} {i : Int} {c : Nat} (hz : z.length ≤ sizeLine) (e : atI z.cps.toList i = some c) (q : Q (.str ⟨#[c]⟩) H) : WI X (.str z) (.int i) H Q := ⟨_, ix_str, z, i, c, rfl, rfl, hz, e, q⟩
/-- d[key] -/
theorem w_dix (hu : X.A.units + 1 < cLine) (hs : NoSl b) (h : WE X a σ H fun x H1 => WE X b σ H1 fun y H2 => ∃ l v, x = .ref l ∧ DGet H2 l y (some v) ∧ Q v H2) : WE X (.Subscript a b pos) σ H Q := .of (pe_dget hu (pe X a) (pe X b) hs) h
theorem i_dK {p : Addr} {kvs : List (Key × V)} {k : Key} (h : H p = some (.dK kvs)) (e : valV kvs k = some v) (q : Q v H) : ∃ l v, V.ref p = .ref l ∧ DGet H l (kV k) (some v) ∧ Q v H := ⟨p, v, rfl, e ▸ DGet.k h, q⟩
/-- parts of a slice -/
def WO (X : Cx) (e : Option Expr) (σ : L2.St) (H : Hp) (Q : Option Int → Hp → Prop) : Prop := match e with
  | none => Q none H
  | some e => WE X e σ H fun x H1 => ∃ i, x = .int i ∧ Q (some i) H1
theorem po (X : Cx) (e : Option Expr) : PO X e (WO X e) := by
  cases e with
  | none => exact po_none
  | some e => exact po_some (pe X e)
def WL (X : Cx) (x : V) (lo hi : Option Int) (H : Hp) (Q : VK) : Prop := ∃ r, SlR X r ∧ r x lo hi H Q
theorem w_slice {lo hi : Option Expr} {p2 : Pos} (h : WE X e σ H fun x H1 => WO X lo σ H1 fun l H2 => WO X hi σ H2 fun u H3 => WL X x l u H3 Q) : WE X (.Subscript e (.Slice lo hi none p2) pos) σ H Q := fun pins s I => by
  have go : PE X (.Subscript e (.Slice lo hi none p2) pos) (tSl (fun x l u H Q => WL X x l u H Q) (WE X e) (WO X lo) (WO X hi)) :=
    pe_slice (fun pins s σ H x v vl vu lo hi sl Q I rx hs pl pu ⟨r, o, q⟩ => o pins s σ H x v vl vu lo hi sl Q I rx hs pl pu q) (pe X e) (po X lo) (po X hi)
  exact go.run pins s σ H Q I h
theorem o_none {Q : Option Int → Hp → Prop} (q : Q none H) : WO X none σ H Q := q
theorem o_some {Q : Option Int → Hp → Prop} (q : WE X e σ H fun x H1 => ∃ i, x = .int i ∧ Q (some i) H1) : WO X (some e) σ H Q := q
theorem o_int {i : Int} {Q : Option Int → Hp → Prop} (q : Q (some i) H) : ∃ j, V.int i = .int j ∧ Q (some j) H := ⟨i, rfl, q⟩
theorem l_lst {p : Addr} {xs : List V} {lo hi : Option Int} (h : SqL X.K H p xs) (q : ∀ r H2, H r = none → Same H H2 → H2 r = some (.lst (cutV xs lo hi)) → Q (.ref r) H2) : WL X (.ref p) lo hi H Q :=
  ⟨_, sl_list, p, xs, rfl, h, fun r hr => q r _ hr (same_new hr) upd_same⟩
theorem l_str {z : Str} {lo hi : Option Int} (hz : z.length ≤ sizeLine) (q : Q (.str (cutS z lo hi)) H) : WL X (.str z) lo hi H Q := ⟨_, sl_str, z, rfl, hz, q⟩

/-! ### displays -/
theorem a_nil {Q : List V → Hp → Prop} (q : Q [] H) : WA X [] σ H Q := .of pa_nil q
theorem a_cons {Q : List V → Hp → Prop} (h : WE X e σ H fun x H1 => WA X es σ H1 fun xs H2 => Q (x :: xs) H2) (hs : starEach (e :: es) X.env = (false, eval e X.env) :: starEach es X.env := by rfl) : WA X (e :: es) σ H Q :=
  .of (pa_cons (pe X e) (pa X es) hs) h
theorem w_tup {k} (h : WA X es σ H fun xs H1 => xs.length ≤ sizeLine ∧ ∀ p H2, H1 p = none → Same H1 H2 → H2 p = some (.tup xs) → Q (.ref p) H2) : WE X (.Tuple es k pos) σ H Q := fun pins s I =>
  (pe_tup (pa X es)).run pins s σ H Q I fun pos pins s I => thn (h pos pins s I) fun us s' ⟨vs, H1, I1, r, z, q⟩ => ⟨vs, H1, I1, r, z, fun p hp => q p _ hp (same_new hp) upd_same⟩
theorem w_lst (h : WA X es σ H fun xs H1 => xs.length ≤ sizeLine ∧ ∀ p H2, H1 p = none → Same H1 H2 → H2 p = some (.lst xs) → Q (.ref p) H2) : WE X (.List es pos) σ H Q := fun pins s I =>
  (pe_lst (pa X es)).run pins s σ H Q I fun pos pins s I => thn (h pos pins s I) fun us s' ⟨vs, H1, I1, r, z, q⟩ => ⟨vs, H1, I1, r, z, fun p hp => q p _ hp (same_new hp) upd_same⟩
theorem w_dict0 (q : ∀ p H2, H p = none → Same H H2 → H2 p = some (.dK []) → Q (.ref p) H2) : WE X (.Dict [] [] pos) σ H Q := .of pe_dnewK fun p hp => q p _ hp (same_new hp) upd_same
theorem w_globR {g : Addr} (C : Fr X N L Vs G) (hx : x ∈ G) (hm : X.mg x = some (.ref g)) (q : Q (.ref g) H) : WE X (.Name x pos) σ H Q := w_glob (v := .ref g) C hx hm rfl q
theorem w_globI {i : Int} {t : Tok} (C : Fr X N L Vs G) (hx : x ∈ G) (hm : X.mg x = some (.int i t)) (q : Q (.int i) H) : WE X (.Name x pos) σ H Q := w_glob (v := .int i) C hx hm ⟨_, rfl⟩ q
theorem w_globS {i : Str} {t : Tok} (C : Fr X N L Vs G) (hx : x ∈ G) (hm : X.mg x = some (.str i t)) (q : Q (.str i) H) : WE X (.Name x pos) σ H Q := w_glob (v := .str i) C hx hm ⟨_, rfl⟩ q
theorem l_tup {p : Addr} {xs : List V} {lo hi : Option Int} (h : SqT X.K H p xs) (hn : ¬ (HT.sIx xs.length 0 lo = 0 ∧ HT.sIx xs.length xs.length hi = xs.length)) (q : ∀ r H2, H r = none → Same H H2 → H2 r = some (.tup (cutV xs lo hi)) → Q (.ref r) H2) : WL X (.ref p) lo hi H Q :=
  ⟨_, sl_tup, p, xs, rfl, h, hn, fun r hr => q r _ hr (same_new hr) upd_same⟩
theorem sz {n : Nat} (h : n ≤ 1000000) : n ≤ sizeLine := by rw [sizeLine_eq]; omega
theorem szl {n : Nat} (h : n < 1000000) : n < sizeLine := by rw [sizeLine_eq]; omega

/-! ### operators by values -/
theorem b_add {i j : Int} (q : Q (.int (i + j)) H) : WB X .Add (.int i) (.int j) H Q := ⟨_, op_add, i, j, rfl, rfl, q⟩
theorem b_sub {i j : Int} (q : Q (.int (i - j)) H) : WB X .Sub (.int i) (.int j) H Q := ⟨_, op_sub, i, j, rfl, rfl, q⟩
theorem b_mul {i j : Int} (hc : CMul i j) (q : Q (.int (i * j)) H) : WB X .Mult (.int i) (.int j) H Q := ⟨_, op_mul, i, j, rfl, rfl, hc, q⟩
theorem b_mod {i j : Int} (hj : 0 < j) (q : Q (.int (i % j)) H) : WB X .Mod (.int i) (.int j) H Q := ⟨_, op_mod, i, j, rfl, rfl, hj, q⟩
theorem b_div {i j : Int} (hj : CDiv i j) (q : Q (.int (i / j)) H) : WB X .FloorDiv (.int i) (.int j) H Q := ⟨_, op_fdiv, i, j, rfl, rfl, hj, q⟩
theorem b_adds {i j : Str} (hz : i.length + j.length ≤ sizeLine) (q : Q (.str (i ++ j)) H) : WB X .Add (.str i) (.str j) H Q := ⟨_, op_add_str, i, j, rfl, rfl, hz, q⟩
theorem b_cat {l m : Addr} {xs ys : List V} (h1 : H l = some (.lst xs)) (h2 : H m = some (.lst ys)) (hz : xs.length + ys.length ≤ sizeLine) (q : ∀ p H2, H p = none → Same H H2 → H2 p = some (.lst (xs ++ ys)) → Q (.ref p) H2) : WB X .Add (.ref l) (.ref m) H Q :=
  ⟨_, op_cat, l, m, xs, ys, rfl, rfl, h1, h2, hz, fun p hp => q p _ hp (same_new hp) upd_same⟩
theorem c_lt {i j : Int} (q : Q (.bl (decide (i < j))) H) : WC X .Lt (.int i) (.int j) H Q := ⟨_, op_lt, i, j, rfl, rfl, q⟩
theorem c_le {i j : Int} (q : Q (.bl (decide (i ≤ j))) H) : WC X .LtE (.int i) (.int j) H Q := ⟨_, op_le, i, j, rfl, rfl, q⟩
theorem c_gt {i j : Int} (q : Q (.bl (decide (j < i))) H) : WC X .Gt (.int i) (.int j) H Q := ⟨_, op_gt, i, j, rfl, rfl, q⟩
theorem c_ge {i j : Int} (q : Q (.bl (decide (j ≤ i))) H) : WC X .GtE (.int i) (.int j) H Q := ⟨_, op_ge, i, j, rfl, rfl, q⟩
theorem dec_int (i j : Int) : decide (V.int i = V.int j) = decide (i = j) := by
  by_cases h : i = j
  · subst h; simp
  · rw [decide_eq_false h, decide_eq_false fun q => h (V.int.inj q)]
theorem dec_str (i j : Str) : decide (V.str i = V.str j) = decide (i = j) := by
  by_cases h : i = j
  · subst h; simp
  · rw [decide_eq_false h, decide_eq_false fun q => h (V.str.inj q)]
theorem c_eqI {i j : Int} (q : Q (.bl (decide (i = j))) H) : WC X .Eq (.int i) (.int j) H Q := ⟨_, op_eq, rfl, by rw [dec_int]; exact q⟩
theorem c_neI {i j : Int} (q : Q (.bl (!decide (i = j))) H) : WC X .NotEq (.int i) (.int j) H Q := ⟨_, op_ne, rfl, by rw [dec_int]; exact q⟩
theorem c_eqS {i j : Str} (q : Q (.bl (decide (i = j))) H) : WC X .Eq (.str i) (.str j) H Q := ⟨_, op_eq, rfl, by rw [dec_str]; exact q⟩
theorem c_neS {i j : Str} (q : Q (.bl (!decide (i = j))) H) : WC X .NotEq (.str i) (.str j) H Q := ⟨_, op_ne, rfl, by rw [dec_str]; exact q⟩
theorem c_isN (q : Q (.bl (decide (v = .non))) H) : WC X .Is v .non H Q := ⟨_, op_isN, rfl, q⟩
theorem c_notN (q : Q (.bl (!decide (v = .non))) H) : WC X .IsNot v .non H Q := ⟨_, op_notN, rfl, q⟩
theorem c_inT {p : Addr} {xs : List V} (h : SqT X.K H p xs) (hx : flatV v = true) (ha : xs.all flatV = true) (q : Q (.bl (inV v xs)) H) : WC X .In v (.ref p) H Q := ⟨_, op_in_seq, p, xs, rfl, .inr h, hx, ha, q⟩
theorem c_inL {p : Addr} {xs : List V} (h : SqL X.K H p xs) (hx : flatV v = true) (ha : xs.all flatV = true) (q : Q (.bl (inV v xs)) H) : WC X .In v (.ref p) H Q := ⟨_, op_in_seq, p, xs, rfl, .inl h, hx, ha, q⟩
theorem c_notInT {p : Addr} {xs : List V} (h : SqT X.K H p xs) (hx : flatV v = true) (ha : xs.all flatV = true) (q : Q (.bl (!inV v xs)) H) : WC X .NotIn v (.ref p) H Q := ⟨_, op_notIn_seq, p, xs, rfl, .inr h, hx, ha, q⟩
theorem c_inD {p : Addr} {kvs : List (Key × V)} {k : Key} (hu : X.A.units + 1 < cLine) (h : H p = some (.dK kvs)) (q : Q (.bl (valV kvs k).isSome) H) : WC X .In (kV k) (.ref p) H Q := ⟨_, op_inD hu, p, _, rfl, DGet.k h, q⟩
theorem c_notInD {p : Addr} {kvs : List (Key × V)} {k : Key} (hu : X.A.units + 1 < cLine) (h : H p = some (.dK kvs)) (q : Q (.bl (!(valV kvs k).isSome)) H) : WC X .NotIn (kV k) (.ref p) H Q := ⟨_, op_notInD hu, p, _, rfl, DGet.k h, q⟩

theorem c_eqD {x y : V} {d e : PyData} (hu : X.A.units + 64 < cLine) (h1 : Dp X.K H x d) (h2 : Dp X.K H y e) (s1 : SeqAt.shaped d = true) (s2 : SeqAt.shaped e = true) (q : Q (.bl (PyData.eqv d e)) H) : WC X .Eq x y H Q := ⟨_, op_eqD hu, d, e, h1, h2, s1, s2, q⟩
theorem c_neD {x y : V} {d e : PyData} (hu : X.A.units + 64 < cLine) (h1 : Dp X.K H x d) (h2 : Dp X.K H y e) (s1 : SeqAt.shaped d = true) (s2 : SeqAt.shaped e = true) (q : Q (.bl (!PyData.eqv d e)) H) : WC X .NotEq x y H Q := ⟨_, op_neD hu, d, e, h1, h2, s1, s2, q⟩
/-! ### calls -/
theorem w_call {k k' : Nat} {ps : List Str} {sp : Sp} {f : Str} (C : Fr X N L Vs G) (F : CallOk X.prog X.w X.K X.mg X.base k f ps sp) (hr : Room k' X.A) (hk : k ≤ k') (hx : f ∈ G) (h : WA X (e :: es) σ H fun vs H1 => sp vs H1 Q E0)
    (he : starEach (e :: es) X.env = (false, eval e X.env) :: starEach es X.env := by rfl) (hpl : (backTo pos (starEach es X.env)).any (·.1) = false := by rfl) : WE X (.Call (.Name f p) (e :: es) [] pos) σ H Q := by
  obtain ⟨g, fd, F, m, kp, b⟩ := F
  exact .of (pe_call F (hr.mono hk) (C.gl f hx) m kp b .nil pass0 (pa X _) (C.nodbg f (List.mem_append_right _ hx)).1 he hpl) (t := tCall sp [] E0 (WA X (e :: es))) (fun pos pins s I => thn (h pos pins s I) fun us s' ⟨vs, H1, I1, r, q⟩ => ⟨vs, H1, I1, r, by show sp (vs ++ []) H1 Q E0; rw [List.append_nil]; exact q⟩)
/-- a built-in function or class, by its name -/
def WB1 (X : Cx) (u : Value) (vs : List V) (H : Hp) (Q : VK) : Prop := ∃ r, CallR X u r ∧ r vs H Q
theorem w_callB {f : Str} {id : String} (C : Fr X N L Vs G) (hx : f ∈ G) (hm : X.mg f = none) (hv : bootBuiltins f = some (.builtin id)) (h : WA X (e :: es) σ H fun vs H1 => WB1 X (.builtin id) vs H1 Q)
    (he : starEach (e :: es) X.env = (false, eval e X.env) :: starEach es X.env := by rfl) (hpl : (backTo pos (starEach es X.env)).any (·.1) = false := by rfl) : WE X (.Call (.Name f p) (e :: es) [] pos) σ H Q :=
  .of (pe_callB (r := fun vs H Q => WB1 X (.builtin id) vs H Q) (fun pins s σ H xs us Q I r ⟨t, o, q⟩ => o pins s σ H xs us Q I r q) (C.gl f hx) hm hv (pa X _) (C.nodbg f (List.mem_append_right _ hx)).2.2 (C.nodbg f (List.mem_append_right _ hx)).1 he hpl) h
theorem w_callTy {f : Str} {T : String} (C : Fr X N L Vs G) (hx : f ∈ G) (hm : X.mg f = none) (hv : bootBuiltins f = some (.type T)) (h : WA X (e :: es) σ H fun vs H1 => WB1 X (.type T) vs H1 Q)
    (he : starEach (e :: es) X.env = (false, eval e X.env) :: starEach es X.env := by rfl) (hpl : (backTo pos (starEach es X.env)).any (·.1) = false := by rfl) : WE X (.Call (.Name f p) (e :: es) [] pos) σ H Q :=
  .of (pe_callTy (r := fun vs H Q => WB1 X (.type T) vs H Q) (fun pins s σ H xs us Q I r ⟨t, o, q⟩ => o pins s σ H xs us Q I r q) (C.gl f hx) hm hv (pa X _) (C.nodbg f (List.mem_append_right _ hx)).2.2 (C.nodbg f (List.mem_append_right _ hx)).1 he hpl) h
theorem k_lenL {p : Addr} {xs : List V} (h : SqL X.K H p xs) (q : Q (.int xs.length) H) : WB1 X (.builtin "len") [.ref p] H Q := ⟨_, call_len_seq, p, xs, rfl, .inl h, q⟩
theorem k_lenT {p : Addr} {xs : List V} (h : SqT X.K H p xs) (q : Q (.int xs.length) H) : WB1 X (.builtin "len") [.ref p] H Q := ⟨_, call_len_seq, p, xs, rfl, .inr h, q⟩
theorem k_lenS {z : Str} (h : z.length ≤ sizeLine) (q : Q (.int z.length) H) : WB1 X (.builtin "len") [.str z] H Q := ⟨_, call_len_str, z, rfl, h, q⟩
theorem k_max {i j : Int} (C : Fr X N L Vs G) (q : Q (.int (if j > i then j else i)) H) : WB1 X (.builtin "max") [.int i, .int j] H Q := ⟨_, call_max2 C.calm, i, j, rfl, q⟩
theorem k_min {i j : Int} (C : Fr X N L Vs G) (q : Q (.int (if j < i then j else i)) H) : WB1 X (.builtin "min") [.int i, .int j] H Q := ⟨_, call_min2 C.calm, i, j, rfl, q⟩
theorem k_intb {k : Bool} (q : Q (.int (if k then 1 else 0)) H) : WB1 X (.type "int") [.bl k] H Q := ⟨_, call_int1, .inr ⟨k, rfl, q⟩⟩
theorem k_isi {T U : String} {k : Bool} (ht : TyX X.K H v (.type T)) (hk : kitB T U = some k) (q : Q (.bl k) H) : WB1 X (.builtin "isinstance") [v, .ty U] H Q := ⟨_, call_isi, v, .ty U, _, _, k, rfl, .ty U, ht, kit_ty hk, q⟩
theorem k_all {p : Addr} {bs : List Bool} (C : Fr X N L Vs G) (h : SqL X.K H p (bs.map V.bl)) (q : Q (.bl (bs.all _root_.id)) H) : WB1 X (.builtin "all") [.ref p] H Q := ⟨_, cr_all C.calm, p, bs, rfl, h, q⟩
theorem k_dict {p : Addr} {kvs : List (Key × V)} (h : Rd H p (.dK kvs)) (q : ∀ r H2, H r = none → Same H H2 → H2 r = some (.dK kvs) → Q (.ref r) H2) : WB1 X (.type "dict") [.ref p] H Q := ⟨_, call_dictD, p, kvs, rfl, h, fun r hr => q r _ hr (same_new hr) upd_same⟩
theorem k_list {p : Addr} {xs : List V} (h : SqL X.K H p xs ∨ SqT X.K H p xs) (q : ∀ r H2, H r = none → Same H H2 → H2 r = some (.lst xs) → Q (.ref r) H2) : WB1 X (.type "list") [.ref p] H Q := ⟨_, call_list_of, p, xs, rfl, h, fun r hr => q r _ hr (same_new hr) upd_same⟩
theorem k_str {i : Int} (hi : i.natAbs.log2 < 1920) (q : Q (.str (toString i)) H) : WB1 X (.type "str") [.int i] H Q := ⟨_, call_str_int, i, rfl, hi, q⟩
theorem k_sortedD {p : Addr} {kvs : List (Key × V)} {ks : List Str} (C : Fr X N L Vs G) (h : Rd H p (.dK kvs)) (hk : kvs.map (·.1) = ks.map Sum.inr) (hl : ks.length < 64) (q : ∀ ys r H2, ys.Perm ks → sortedS ys = true → H r = none → Same H H2 → H2 r = some (.lst (ys.map V.str)) → Q (.ref r) H2) :
    WB1 X (.builtin "sorted") [.ref p] H Q := ⟨_, call_sortedD C.calm, p, kvs, ks, rfl, h, hk, hl, fun ys r h1 h2 hr => q ys r _ h1 h2 hr (same_new hr) upd_same⟩
theorem k_sortedL {p : Addr} {ks : List Str} (h : SqL X.K H p (ks.map V.str)) (hl : ks.length < 64) (q : ∀ ys r H2, ys.Perm ks → sortedS ys = true → H r = none → Same H H2 → H2 r = some (.lst (ys.map V.str)) → Q (.ref r) H2) :
    WB1 X (.builtin "sorted") [.ref p] H Q := ⟨_, cr_sortedS, p, ks, rfl, h, hl, fun ys r h1 h2 hr => q ys r _ h1 h2 hr (same_new hr) upd_same⟩
/-- a built-in class as a value -/
theorem w_ty {f : Str} {T : String} (C : Fr X N L Vs G) (hx : f ∈ G) (hm : X.mg f = none) (hv : bootBuiltins f = some (.type T)) (q : Q (.ty T) H) : WE X (.Name f pos) σ H Q :=
    .of (pe_bltn (v := .ty T) (C.gl f hx) hm hv rfl (C.nodbg f (List.mem_append_right _ hx)).2.2 (C.nodbg f (List.mem_append_right _ hx)).1) q

/-! ### tests -/
variable {QT : Bool → Hp → Prop}
theorem t_truth (he : ∀ whole, isTrue a X.env whole = (do let v ← whole; standAt a.pos; holding [v] (truthy v))) (h : WE X a σ H fun x H1 => ∃ k, TruV X.K x H1 k ∧ QT k H1) : WT X a σ H QT := .of (pt_truth (pe X a) he) h
theorem t_not (h : WT X a σ H fun k H1 => QT (!k) H1) : WT X (.UnaryOp .Not a pos) σ H QT := .of (pt_not (pt X a)) h
theorem t_bool {op} (h : WW X (.BoolOp op es pos) σ H QT) : WT X (.BoolOp op es pos) σ H QT := .of (pw X _).pt h
theorem ww_and1 (h : WT X a σ H QT) : WW X (.BoolOp .And [a] pos) σ H QT := fun wh pins s I => (pw_and1 (pt X a)).run wh pins s σ H QT I h
theorem ww_or1 (h : WT X a σ H QT) : WW X (.BoolOp .Or [a] pos) σ H QT := fun wh pins s I => (pw_or1 (pt X a)).run wh pins s σ H QT I h
theorem ww_and (h : WT X a σ H fun k H1 => if k = true then WW X (.BoolOp .And (b :: es) pos) σ H1 QT else QT false H1) : WW X (.BoolOp .And (a :: b :: es) pos) σ H QT := fun wh pins s I => (pw_and (pt X a) (pw X _)).run wh pins s σ H QT I h
theorem ww_or (h : WT X a σ H fun k H1 => if k = true then QT true H1 else WW X (.BoolOp .Or (b :: es) pos) σ H1 QT) : WW X (.BoolOp .Or (a :: b :: es) pos) σ H QT := fun wh pins s I => (pw_or (pt X a) (pw X _)).run wh pins s σ H QT I h
/-- the same as values -/
theorem w_not (h : WE X a σ H fun x H1 => ∃ k, x = .bl k ∧ Q (.bl (!k)) H1) : WE X (.UnaryOp .Not a pos) σ H Q := .of (pe_not (pe X a)) h
theorem w_one {op} (h : WE X a σ H Q) : WE X (.BoolOp op [a] pos) σ H Q := .of (pe_one (pe X a)) h
theorem w_and (h : WE X a σ H fun x H1 => ∃ k, x = .bl k ∧ if k = true then WE X (.BoolOp .And (b :: es) pos) σ H1 Q else Q (.bl false) H1) : WE X (.BoolOp .And (a :: b :: es) pos) σ H Q := .of (pe_and (pe X a) (pe X _)) h
theorem w_or (h : WE X a σ H fun x H1 => ∃ k, x = .bl k ∧ if k = true then Q (.bl true) H1 else WE X (.BoolOp .Or (b :: es) pos) σ H1 Q) : WE X (.BoolOp .Or (a :: b :: es) pos) σ H Q := .of (pe_or (pe X a) (pe X _)) h
theorem w_ifExp (h : WT X c σ H fun k H1 => if k = true then WE X a σ H1 Q else WE X b σ H1 Q) : WE X (.IfExp c a b pos) σ H Q := .of (pe_ifExp (pt X c) (pe X a) (pe X b)) h
theorem w_neg (h : WE X a σ H fun x H1 => ∃ i, x = .int i ∧ Q (.int (-i)) H1) : WE X (.UnaryOp .USub a pos) σ H Q := .of (pe_un un_neg (pe X a)) h
theorem x_bl {k : Bool} {R : Bool → Prop} (q : R k) : ∃ j, V.bl k = .bl j ∧ R j := ⟨k, rfl, q⟩
theorem x_int {k : Int} {R : Int → Prop} (q : R k) : ∃ j, V.int k = .int j ∧ R j := ⟨k, rfl, q⟩
theorem x_tbl {k : Bool} {R : Bool → Prop} (q : R k) : ∃ j, TruV X.K (.bl k) H j ∧ R j := ⟨k, rfl, q⟩

/-! ### statements -/
variable {st : Stmt} {sts sts' : List Stmt} {D : Ends}
theorem s_nil (q : D.nx σ H) : WSs X [] D σ H := .of pss_nil q
theorem s_cons (h : WS X st { D with nx := fun σ H => WSs X sts D σ H } σ H) : WSs X (st :: sts) D σ H := .of (pss_cons (ps X st) (pss X sts)) h
theorem s_one (h : WS X st D σ H) : WSs X [st] D σ H := .of (pss_one (ps X st)) h
theorem s_pass (q : D.nx σ H) : WS X (.Pass pos) D σ H := .of ps_pass q
theorem s_expr (h : WE X e σ H fun _ H1 => D.nx σ H1) (hs : swapsWith e none pos.line X.env = pure false := by rfl) : WS X (.Expr e pos) D σ H := .of (ps_expr (pe X e) hs) h
theorem s_ret (h : WE X e σ H D.rt) : WS X (.Return (some e) pos) D σ H := .of (ps_ret (pe X e)) h
theorem s_retN (h : D.rt .non H) : WS X (.Return none pos) D σ H := .of ps_retN h
theorem s_if (h : WT X c σ H fun k H1 => if k = true then WSs X sts D σ H1 else WSs X sts' D σ H1) : WS X (.If c sts sts' pos) D σ H := .of (ps_if (pt X c) (pss X sts) (pss X sts')) h
theorem s_set {pos' : Pos} (C : Fr X N L Vs G) (hx : x ∈ L) (h : WE X e σ H fun v H1 => ∃ σ', Put N σ x v σ' ∧ D.nx σ' H1) (hs : swapsWith e (some (.Name x pos')) pos.line X.env = pure false := by rfl) : WS X (.Assign [.Name x pos'] e pos) D σ H := fun pins s I => by
  have hl := C.loc x hx
  by_cases hi : x ∈ X.N
  · obtain ⟨i, hi⟩ := List.getElem?_of_mem hi
    refine (ps_set (i := i) (by rw [C.n]; exact C.nd) hi hl.1 (pe X e) hs hl.2).run pins s σ H D I (h.mono ?_)
    rintro v H' ⟨σ', hp, q⟩
    obtain ⟨j, h1, h2⟩ := hp.ix
    have e : i = j := nodup_ix C.nd (by rw [← C.n]; exact hi) h1
    subst e
    rw [h2] at q
    exact q
  · refine wpAny_Assign_Name (thn (h pins s I) fun v s1 ⟨y, H1, I1, r1, σ', hp, q⟩ => ?_) hs
    obtain ⟨j, h1, h2⟩ := hp.ix
    exact absurd (by rw [C.n]; exact List.mem_of_getElem? h1) hi
/-- o[i] = e -/
def WP (X : Cx) (o i v : V) (H : Hp) (Q : Hp → Prop) : Prop := ∃ t, PSet X t ∧ t o i v H Q
theorem s_sub {pos' : Pos} (h : WE X e σ H fun v H1 => WE X a σ H1 fun o H2 => WE X b σ H2 fun i H3 => WP X o i v H3 fun H4 => D.nx σ H4)
    (ha : ∀ v, assign (.Subscript a b pos') X.env v = (do
      let ov ← holding [v] (eval a X.env)
      let iv ← holding [v, ov] (eval b X.env)
      standAt pos'
      holding [v, ov, iv] (setItem ov iv v)
      release [v, ov, iv] []) := by intro _; rfl) (hs : swapsWithSole [.Subscript a b pos'] e pos.line X.env = pure false := by rfl) (hw : swappedStores [.Subscript a b pos'] e X.env = pure none := by rfl)
    (h1 : (assignEach [.Subscript a b pos'] X.env).map (·.2) = [assign (.Subscript a b pos') X.env] := by rfl) : WS X (.Assign [.Subscript a b pos'] e pos) D σ H :=
  .of (ps_asg (pe X e) (pg_sub (t := fun o i v H Q => WP X o i v H Q) (pe X a) (pe X b) (fun pins s σ H o i v ov iv u Q I ro ri rv ⟨t, o1, q⟩ => o1 pins s σ H o i v ov iv u Q I ro ri rv q) ha) hs hw h1) h
theorem p_lst {p : Addr} {xs : List V} {k : Int} {j : Nat} {QH : Hp → Prop} (h : H p = some (.lst xs)) (hj : ixN xs.length k = some j) (q : QH (upd H p (.lst (xs.set j v)))) : WP X (.ref p) (.int k) v H QH := ⟨_, set_list, p, xs, k, j, rfl, rfl, h, hj, q⟩
theorem p_dK {p : Addr} {kvs : List (Key × V)} {k : Key} {QH : Hp → Prop} (hu : X.A.units + 1 < cLine) (h : H p = some (.dK kvs)) (hl : kvs.length < sizeLine) (q : QH (upd H p (.dK (putK kvs k v)))) : WP X (.ref p) (kV k) v H QH := ⟨_, set_dict hu, p, _, rfl, DPut.k h hl, q⟩

theorem p_dS {p : Addr} {kvs : List (Key × V)} {k : Str} {QH : Hp → Prop} (hu : X.A.units + 1 < cLine) (h : H p = some (.dK kvs)) (hl : kvs.length < sizeLine) (q : QH (upd H p (.dK (putK kvs (.inr k) v)))) : WP X (.ref p) (.str k) v H QH := p_dK (k := .inr k) hu h hl q
theorem p_dI {p : Addr} {kvs : List (Key × V)} {k : Int} {QH : Hp → Prop} (hu : X.A.units + 1 < cLine) (h : H p = some (.dK kvs)) (hl : kvs.length < sizeLine) (q : QH (upd H p (.dK (putK kvs (.inl k) v)))) : WP X (.ref p) (.int k) v H QH := p_dK (k := .inl k) hu h hl q
theorem i_dS {p : Addr} {kvs : List (Key × V)} {k : Str} (h : H p = some (.dK kvs)) (e : valV kvs (.inr k) = some v) (q : Q v H) : ∃ l v, V.ref p = .ref l ∧ DGet H l (.str k) (some v) ∧ Q v H := i_dK (k := .inr k) h e q
/-! ### methods of lists, dicts, texts -/
theorem w_append (h : WE X a σ H fun x H1 => ∃ l xs, x = .ref l ∧ SqL X.K H1 l xs ∧ WE X e σ H1 fun y H2 => ∃ xs', H2 l = some (.lst xs') ∧ xs'.length < sizeLine ∧ Q .non (upd H2 l (.lst (xs' ++ [y]))))
    (hbase : attributeBase a "append" X.env (eval a X.env) = eval a X.env := by rfl)
    (hfew : ((backTo cpos (starEach [e] X.env)).all (fun x => !x.1) && (backToKw cpos (keywordEach [] X.env)).all (fun x => x.1.isSome)
      && decide (([e] : List Expr).length + ([] : List Keyword).length + (if ([] : List Keyword).isEmpty then 0 else 1) < 30)) = true := by rfl)
    (hline : (apos.endLine == cpos.line) = true := by rfl) (hs : starEach [e] X.env = (false, eval e X.env) :: starEach [] X.env := by rfl) (hplain : (backTo cpos (starEach [] X.env)).any (·.1) = false := by rfl) :
    WE X (.Call (.Attribute a "append" apos) [e] [] cpos) σ H Q := by
  refine .of (pe_bm PySem.F.plainAttrs_list PySem.F.slot_list_append PySem.F.type_list_append mt_append (pe X a) (pa X [e]) hbase hfew hline hs hplain) ?_
  refine h.mono ?_
  rintro x H1 ⟨l, xs, rfl, hl, q⟩
  refine ⟨.inl ⟨rfl, xs, hl⟩, ?_⟩
  refine a_cons (WE.mono q ?_) hs
  rintro y H2 ⟨xs', h1, h2, q⟩
  exact a_nil ⟨l, xs', y, rfl, rfl, h1, h2, q⟩
theorem w_extend (h : WE X a σ H fun x H1 => ∃ l xs, x = .ref l ∧ SqL X.K H1 l xs ∧ WE X e σ H1 fun y H2 => ∃ m xs' ys, y = .ref m ∧ H2 l = some (.lst xs') ∧ H2 m = some (.lst ys) ∧ xs'.length + ys.length ≤ sizeLine ∧ Q .non (upd H2 l (.lst (xs' ++ ys))))
    (hbase : attributeBase a "extend" X.env (eval a X.env) = eval a X.env := by rfl)
    (hfew : ((backTo cpos (starEach [e] X.env)).all (fun x => !x.1) && (backToKw cpos (keywordEach [] X.env)).all (fun x => x.1.isSome)
      && decide (([e] : List Expr).length + ([] : List Keyword).length + (if ([] : List Keyword).isEmpty then 0 else 1) < 30)) = true := by rfl)
    (hline : (apos.endLine == cpos.line) = true := by rfl) (hs : starEach [e] X.env = (false, eval e X.env) :: starEach [] X.env := by rfl) (hplain : (backTo cpos (starEach [] X.env)).any (·.1) = false := by rfl) :
    WE X (.Call (.Attribute a "extend" apos) [e] [] cpos) σ H Q := by
  refine .of (pe_bm PySem.F.plainAttrs_list PySem.F.slot_list_extend PySem.F.type_list_extend mt_extend (pe X a) (pa X [e]) hbase hfew hline hs hplain) ?_
  refine h.mono ?_
  rintro x H1 ⟨l, xs, rfl, hl, q⟩
  refine ⟨.inl ⟨rfl, xs, hl⟩, ?_⟩
  refine a_cons (WE.mono q ?_) hs
  rintro y H2 ⟨m, xs', ys, rfl, h1, h2, h3, q⟩
  exact a_nil ⟨l, m, xs', ys, rfl, rfl, h1, h2, h3, q⟩
theorem w_pop (h : WE X a σ H fun x H1 => ∃ l xs y, x = .ref l ∧ H1 l = some (.lst xs) ∧ xs[xs.length - 1]? = some y ∧ Q y (upd H1 l (.lst xs.dropLast)))
    (hbase : attributeBase a "pop" X.env (eval a X.env) = eval a X.env := by rfl) (hline : (apos.endLine == cpos.line) = true := by rfl) : WE X (.Call (.Attribute a "pop" apos) [] [] cpos) σ H Q := by
  refine .of (pe_bm0 PySem.F.plainAttrs_list PySem.F.slot_list_pop PySem.F.type_list_pop mt_pop (pe X a) hbase hline) ?_
  refine h.mono ?_
  rintro x H1 ⟨l, xs, y, rfl, hl, hy, q⟩
  exact ⟨.inl ⟨rfl, xs, SqL.of hl⟩, l, xs, y, rfl, rfl, hl, hy, q⟩
theorem w_join (h : WE X a σ H fun x H1 => ∃ z, x = .str z ∧ WE X e σ H1 fun y H2 => ∃ p, ∃ ys : List Str, y = .ref p ∧ SqL X.K H2 p (ys.map V.str) ∧ (ys.map (·.length)).sum + ys.length * z.length ≤ 16777216 ∧ Q (.str (Txt.join z ys)) H2)
    (hs : starEach [e] X.env = [(false, eval e X.env)] := by rfl) (hbase : attributeBase a "join" X.env (eval a X.env) = eval a X.env := by rfl) (hline : (apos.endLine == cpos.line) = true := by rfl) : WE X (.Call (.Attribute a "join" apos) [e] [] cpos) σ H Q := by
  refine .of (pe_join (pe X a) (pe X e) hs hbase hline) ?_
  refine h.mono ?_
  rintro x H1 ⟨z, rfl, q⟩
  refine ⟨⟨z, rfl⟩, q.mono ?_⟩
  rintro y H2 ⟨p, ys, rfl, h1, h2, q⟩
  exact ⟨z, p, ys, rfl, rfl, .inl h1, h2, q⟩
theorem w_get2 {f : Expr} (hu : X.A.units + 1 < cLine) (h : WE X a σ H fun x H1 => ∃ l, x = .ref l ∧ IsD H1 l ∧ WE X e σ H1 fun y H2 => WE X f σ H2 fun z H3 => ∃ o, DGet H3 l y o ∧ Q (o.getD z) H3) (m : M2 X a "get" apos e f cpos := by exact ⟨rfl, rfl, rfl, rfl⟩) :
    WE X (.Call (.Attribute a "get" apos) [e, f] [] cpos) σ H Q := .of (pe_dget2 hu (pe X a) (pe X e) (pe X f) m) h
end
end LM
namespace LM
open PySem PySem.Spec PyProof.Rows L2
section
variable {X : Cx} {N L Vs G : List Str} {e a b c d tg iter elt : Expr} {es : List Expr} {σ : L2.St} {H : Hp} {Q : VK} {pos p apos cpos : Pos} {x : Str} {v : V} {D : Ends} {body : List Stmt}
/-! ### what is walked -/
def WI1 (X : Cx) (tg iter : Expr) (σ : L2.St) (H : Hp) (R : It → Hp → Prop) : Prop :=
  ∀ (pins : List (Addr × Obj)) (s : Shared), Inv X pins σ H s → wpAny (model X.prog X.w) X.A (eval iter X.env) (fun v s1 => wpAny (model X.prog X.w) X.A (pyIter v) (PIE X pins σ tg R) X.xe s1) X.xe s
theorem pi1 (X : Cx) (tg iter : Expr) : PI X tg iter (WI1 X tg iter) := ⟨fun pins s σ H R I h => h pins s I⟩
variable {R : It → Hp → Prop}
theorem wi_list (h : WE X e σ H fun v H1 => ∃ a xs, v = .ref a ∧ SqL X.K H1 a xs ∧ R (Itl X.K a) H1) : WI1 X tg e σ H R := fun pins s I =>
  (pi_list (pe X e)).run pins s σ H R I (h.mono fun v H1 ⟨a, xs, e, q, r⟩ => ⟨a, e, ⟨xs, q⟩, r⟩)
theorem wi_tup (h : WE X e σ H fun v H1 => ∃ a xs, v = .ref a ∧ SqT X.K H1 a xs ∧ R (Itt X.K a) H1) : WI1 X tg e σ H R := fun pins s I =>
  (pi_tup (pe X e)).run pins s σ H R I (h.mono fun v H1 ⟨a, xs, e, q, r⟩ => ⟨a, e, ⟨xs, q⟩, r⟩)
theorem wi_str (h : WE X e σ H fun v H1 => ∃ z, v = .str z ∧ R (Its z) H1) : WI1 X tg e σ H R := fun pins s I => (pi_str (pe X e)).run pins s σ H R I h
theorem wi_range (C : Fr X N L Vs G) (hx : ("range" : Str) ∈ G) (hm : X.mg "range" = none) (h : WE X e σ H fun v H1 => ∃ j : Int, v = .int j ∧ -(2 ^ 62) ≤ j ∧ j < 2 ^ 62 ∧ R (Itr 0 j.toNat) H1) (hs : starEach [e] X.env = [(false, eval e X.env)] := by rfl) :
    WI1 X tg (.Call (.Name "range" p) [e] [] pos) σ H R := fun pins s I =>
  (pi_range1 (C.gl _ hx) hm (pa X [e]) hs).run pins s σ H R I (a_cons (h.mono fun v H1 ⟨j, e, q⟩ => a_nil ⟨j, by rw [e], q⟩) hs)

/-! ### for -/
def gPut (N : List Str) (x : Str) : TG := fun v σ H Q => ∃ σ', Put N σ x v σ' ∧ Q σ' H
theorem pg_put (C : Fr X N L Vs G) (hx : x ∈ L) : PG X (.Name x p) (gPut N x) := by
  have hl := C.loc x hx
  refine ⟨fun pins s σ H v u Q I r h => ?_⟩
  obtain ⟨σ', hp, q⟩ := h
  obtain ⟨i, h1, h2⟩ := hp.ix
  subst h2
  exact (pg_name (i := i) (by rw [C.n]; exact C.nd) (by rw [C.n]; exact h1) hl.1 hl.2).run pins s σ H v u Q I r q
def ForL (X : Cx) (N : List Str) (x : Str) (body : List Stmt) (D : Ends) (J : It) (σ : L2.St) (H : Hp) : Prop := ∃ W : Nat → Nat → L2.St → Hp → Prop, (∃ m, W 0 m σ H) ∧ ∀ i m σ H, W i m σ H →
  (J.stop i H ∧ D.nx σ H) ∨ (J.go i H ∧ ∃ Nx : L2.St → Hp → Prop, (∀ σ' H', Nx σ' H' → ∃ m', m' < m ∧ W (i + 1) m' σ' H') ∧ ∀ y H', J.yld i H y H' → gPut N x y σ H' fun σ2 H2 => WSs X body { D with nx := Nx, ct := Nx, bk := D.nx } σ2 H2)
theorem s_for (C : Fr X N L Vs G) (hx : x ∈ L) (h : WI1 X (.Name x p) iter σ H fun J H1 => ForL X N x body D J σ H1) (hs : ∀ x, foldedSetIterable iter X.env x = pure x := by intro _; rfl) : WS X (.For (.Name x p) iter body [] pos) D σ H :=
  .of (ps_for (by rw [C.xe]; exact PassesOwn.never) C.calm (pi1 X _ iter) (pg_put C hx) (pss X body) hs) h
/-- a loop by its word Pv: turn, slots, heap -/
theorem for_w {J : It} {n : Nat} {Gd : Hp → Prop} {f : Nat → V → Prop} (w : Walk J n Gd (fun i H x H' => H' = H ∧ f i x)) (Pv : Nat → L2.St → Hp → Prop) (h0 : Pv 0 σ H) (hG : ∀ i σ H, i ≤ n → Pv i σ H → Gd H)
    (hs : ∀ i y σ H, i < n → f i y → Pv i σ H → ∃ σ', Put N σ x y σ' ∧ WSs X body { D with nx := Pv (i + 1), ct := Pv (i + 1), bk := D.nx } σ' H) (hd : ∀ σ H, Pv n σ H → D.nx σ H) : ForL X N x body D J σ H :=
  for_it w Pv h0 hG (fun i y σ H H' hi p ⟨e, hy⟩ => by subst e; exact hs i y σ _ hi hy p) hd
theorem for_l {l : Addr} {xs : List V} (Pv : Nat → L2.St → Hp → Prop) (h0 : Pv 0 σ H) (hl : ∀ i σ H, i ≤ xs.length → Pv i σ H → SqL X.K H l xs)
    (hs : ∀ i y σ H, xs[i]? = some y → Pv i σ H → ∃ σ', Put N σ x y σ' ∧ WSs X body { D with nx := Pv (i + 1), ct := Pv (i + 1), bk := D.nx } σ' H) (hd : ∀ σ H, Pv xs.length σ H → D.nx σ H) : ForL X N x body D (Itl X.K l) σ H :=
  for_w (walk_list (xs := xs)) Pv h0 hl (fun i y σ H _ hy p => hs i y σ H hy p) hd
theorem for_t {l : Addr} {xs : List V} (Pv : Nat → L2.St → Hp → Prop) (h0 : Pv 0 σ H) (hl : ∀ i σ H, i ≤ xs.length → Pv i σ H → SqT X.K H l xs)
    (hs : ∀ i y σ H, xs[i]? = some y → Pv i σ H → ∃ σ', Put N σ x y σ' ∧ WSs X body { D with nx := Pv (i + 1), ct := Pv (i + 1), bk := D.nx } σ' H) (hd : ∀ σ H, Pv xs.length σ H → D.nx σ H) : ForL X N x body D (Itt X.K l) σ H :=
  for_w (walk_tup (xs := xs)) Pv h0 hl (fun i y σ H _ hy p => hs i y σ H hy p) hd
theorem for_r {n : Nat} (Pv : Nat → L2.St → Hp → Prop) (h0 : Pv 0 σ H)
    (hs : ∀ (i : Nat) σ H, i < n → Pv i σ H → ∃ σ', Put N σ x (.int i) σ' ∧ WSs X body { D with nx := Pv (i + 1), ct := Pv (i + 1), bk := D.nx } σ' H) (hd : ∀ σ H, Pv n σ H → D.nx σ H) : ForL X N x body D (Itr 0 n) σ H :=
  for_w (f := fun i v => v = .int (0 + i)) (walk_range (lo := 0) (n := n)) Pv h0 (fun _ _ _ _ _ => trivial) (fun i y σ H hi hy p => by
    subst hy
    have := hs i σ H hi p
    rw [Int.zero_add]
    exact this) hd

/-- for x in d, over a dict's keys: the dict is locked meanwhile -/
def lockE (d : Addr) (u : HO) (od : Obj) (D : Ends) : Ends := ⟨fun σ' H' => H' d = some (.frz od u) ∧ D.nx σ' (upd H' d u), fun v H' => H' d = some (.frz od u) ∧ D.rt v (upd H' d u), fun σ' H' => H' d = some (.frz od u) ∧ D.bk σ' (upd H' d u), fun σ' H' => H' d = some (.frz od u) ∧ D.ct σ' (upd H' d u)⟩
theorem s_forK {l : Addr} {kvs : List (Key × V)} (C : Fr X N L Vs G) (hx : x ∈ L) (hl : H l = some (.dK kvs)) (Pv : Obj → Nat → L2.St → Hp → Prop)
    (h : ∀ od, WE X e σ (upd H l (.frz od (.dK kvs))) fun v H1 => v = .ref l ∧ Pv od 0 σ H1)
    (hG : ∀ od i σ H, i ≤ kvs.length → Pv od i σ H → H l = some (.frz od (.dK kvs)))
    (hs : ∀ od (i : Nat) k v σ H, kvs[i]? = some (k, v) → Pv od i σ H → ∃ σ', Put N σ x (kV k) σ' ∧ WSs X body { lockE l (.dK kvs) od D with nx := Pv od (i + 1), ct := Pv od (i + 1), bk := (lockE l (.dK kvs) od D).nx } σ' H)
    (hd : ∀ od σ H, Pv od kvs.length σ H → D.nx σ (upd H l (.dK kvs)))
    (hf : ∀ x, foldedSetIterable e X.env x = pure x := by intro _; rfl) : WS X (.For (.Name x p) e body [] pos) D σ H := by
  refine .of (ps_lock (ps_for (by rw [C.xe]; exact PassesOwn.never) C.calm (pi_keys (pe X e)) (pg_put C hx) (pss X body) hf)) ?_
  refine ⟨l, _, hl, trivial, fun od => ?_⟩
  refine (h od).mono ?_
  rintro v H1 ⟨rfl, p0⟩
  refine ⟨l, od, rfl, .inl ⟨kvs, hG od 0 σ H1 (Nat.zero_le _) p0, ?_⟩⟩
  exact for_it (D := lockE l (.dK kvs) od D) (walk_keys (kvs := kvs)) (Pv od) p0 (hG od) (fun i y σ H H' hi p ⟨e, k, v, h1, h2⟩ => by subst e; subst h2; exact hs od i k v σ _ h1 p) fun σ H p => ⟨hG od _ σ H (Nat.le_refl _) p, hd od σ H p⟩
/-- a statement with a word between it and what follows -/
theorem s_cut {st : Stmt} {sts : List Stmt} (Mid : L2.St → Hp → Prop) (h1 : WS X st { D with nx := Mid } σ H) (h2 : ∀ σ H, Mid σ H → WSs X sts D σ H) : WSs X (st :: sts) D σ H := s_cons (fun pins s I => thn (h1 pins s I) fun f s' q => by
  cases f with
  | next => obtain ⟨σ', H', J, q⟩ := q; exact ⟨σ', H', J, h2 σ' H' q⟩
  | brk => exact q
  | cont => exact q
  | ret u => exact q)
/-! ### while -/
theorem s_while (C : Fr X N L Vs G) (Pv : L2.St → Hp → Prop) (μ : L2.St → Hp → Nat) (h0 : Pv σ H)
    (hs : ∀ σ H, Pv σ H → WT X c σ H fun k H1 => if k = true then WSs X body { D with nx := fun σ' H' => Pv σ' H' ∧ μ σ' H' < μ σ H, ct := fun σ' H' => Pv σ' H' ∧ μ σ' H' < μ σ H, bk := D.nx } σ H1 else D.nx σ H1) : WS X (.While c body [] pos) D σ H :=
  .of (ps_while (by rw [C.xe]; exact PassesOwn.never) (pt X c) (pss X body)) (while_by Pv μ h0 hs fun σ H Q Q' h w => w.mono h)

/-! ### blocks of comprehensions -/
theorem lookup_mapk {g : Str → NameKind → NameKind} {x : Str} : ∀ l : List (Str × NameKind), (l.map fun (n, k) => (n, g n k)).lookup x = (l.lookup x).map (g x)
  | [] => rfl
  | (n, k) :: r => by
    rw [List.map_cons, List.lookup_cons, List.lookup_cons]
    by_cases h : x = n
    · subst h; simp
    · have e : (x == n) = false := by simpa using h
      rw [e]
      exact lookup_mapk r
def blB (sc : Scope) (L Vs G : List Str) : Bool := L.all (fun x => match sc.names.lookup x with | some .local => true | _ => false)
  && Vs.all (fun x => match sc.names.lookup x with | some .local => true | some .cell => true | some .free => true | _ => false)
  && G.all (fun x => match sc.names.lookup x with | some .globalImplicit => true | _ => false)
  && G.all fun x => !(x == ("__debug__" : Str)) && !(x == ("__classdict__" : Str)) && !decide (x = "__name__")
theorem Fr.noG (C : Fr X N L Vs G) : Fr X N L Vs [] := ⟨C.n, C.nd, C.vis, C.loc, fun _ h => (nomatch h), fun y hy => C.nodbg y (by rw [List.append_nil] at hy; exact List.mem_append_left _ hy), C.calm, C.xe⟩
/-- the block's own context -/
theorem Fr.blk {L' Vs' G' : List Str} (C : Fr X N L Vs G) {sc : Scope} (B : blB sc L' Vs' G' = true) (s : Shared) (H : Hp) (Cd : Addr) (cl : List (Str × Addr)) (fp : List Addr) : Fr (X.blk s H sc (compEnvC sc cl Cd X.env) fp) N L' Vs' G' := by
  unfold blB at B
  rw [Bool.and_eq_true, Bool.and_eq_true, Bool.and_eq_true, List.all_eq_true, List.all_eq_true, List.all_eq_true, List.all_eq_true] at B
  obtain ⟨B, Bd⟩ := B
  have key : ∀ x, (relabel sc X.env).names.lookup x = (sc.names.lookup x).map fun k => if (k == NameKind.free && X.env.scope.kind == ScopeKind.function && X.env.kindOf x == some NameKind.cell) then NameKind.cell else k := fun x => by
    have e : (relabel sc X.env).names = sc.names.map fun (n, k) => (n, (fun n k => if (k == NameKind.free && X.env.scope.kind == ScopeKind.function && X.env.kindOf n == some NameKind.cell) then NameKind.cell else k) n k) := by
      show (sc.names.map fun (n, k) => if (k == NameKind.free && X.env.scope.kind == ScopeKind.function && X.env.kindOf n == some NameKind.cell) then (n, NameKind.cell) else (n, k)) = _
      refine List.map_congr_left fun y _ => ?_
      obtain ⟨n, k⟩ := y
      show (if _ then _ else _) = (n, if _ then _ else _)
      split <;> rfl
    rw [e, lookup_mapk (g := fun n k => if (k == NameKind.free && X.env.scope.kind == ScopeKind.function && X.env.kindOf n == some NameKind.cell) then NameKind.cell else k)]
  refine ⟨C.n, C.nd, fun x hx => ?_, fun x hx => ?_, fun x hx => ?_, fun x hx => ?_, C.calm, rfl⟩
  · have q := B.1.2 x hx
    show (relabel sc X.env).names.lookup x = _ ∨ (relabel sc X.env).names.lookup x = _ ∨ (relabel sc X.env).names.lookup x = _
    rw [key x]
    split at q
    · rename_i e; rw [e]; exact .inl rfl
    · rename_i e; rw [e]; exact .inr (.inl rfl)
    · rename_i e; rw [e]
      show (some (if _ then _ else _) = _) ∨ (some (if _ then _ else _) = _) ∨ (some (if _ then _ else _) = _)
      split
      · exact .inr (.inl rfl)
      · exact .inr (.inr rfl)
    · cases q
  · have q := B.1.1 x hx
    have e : sc.names.lookup x = some .local := by split at q <;> first | assumption | cases q
    have e2 : (relabel sc X.env).names.lookup x = some .local := by rw [key x, e]; rfl
    exact ⟨.inl e2, .inr e2⟩
  · have q := B.2 x hx
    have e : sc.names.lookup x = some .globalImplicit := by split at q <;> first | assumption | cases q
    show (relabel sc X.env).names.lookup x = _
    rw [key x, e]
    rfl
  · rcases List.mem_append.mp hx with hx | hx
    · exact C.nodbg x (List.mem_append_left _ hx)
    · have q := Bd x hx
      rw [Bool.and_eq_true, Bool.and_eq_true, Bool.not_eq_true', Bool.not_eq_true', Bool.not_eq_true', decide_eq_false_iff_not] at q
      exact ⟨q.1.1, q.1.2, q.2⟩
/-- within a block: at whatever state -/
def Blk (X : Cx) (sc : Scope) (Y : Cx) : Prop := ∃ s H C cl fp, Y = X.blk s H sc (compEnvC sc cl C X.env) fp
theorem Blk.fr {Y : Cx} {sc : Scope} {L' Vs' G' : List Str} (h : Blk X sc Y) (C : Fr X N L Vs G) (B : blB sc L' Vs' G' = true) : Fr Y N L' Vs' G' := by
  obtain ⟨s, H, Cd, cl, fp, rfl⟩ := h
  exact C.blk B s H Cd cl fp
structure BlkEq (X Y : Cx) : Prop where
  prog : Y.prog = X.prog
  w : Y.w = X.w
  K : Y.K = X.K
  mg : Y.mg = X.mg
  base : Y.base = X.base
  A : Y.A = X.A
theorem Blk.eq {Y : Cx} {sc : Scope} (h : Blk X sc Y) : BlkEq X Y := by
  obtain ⟨s, H, Cd, cl, fp, rfl⟩ := h
  exact ⟨rfl, rfl, rfl, rfl, rfl, rfl⟩
/-- a slot is emptied -/
inductive Wip : List Str → L2.St → Str → L2.St → Prop where
  | here {x : Str} {l : List Str} {o : Option V} {σ : L2.St} : Wip (x :: l) (o :: σ) x (none :: σ)
  | there {x y : Str} {l : List Str} {o : Option V} {σ σ' : L2.St} (h : Wip l σ x σ') : Wip (y :: l) (o :: σ) x (o :: σ')
theorem Wip.ix {l : List Str} {σ σ' : L2.St} {x : Str} (h : Wip l σ x σ') : ∃ i : Nat, l[i]? = some x ∧ σ' = σ.set i none := by
  induction h with
  | here => exact ⟨0, rfl, rfl⟩
  | there _ ih => obtain ⟨i, h1, h2⟩ := ih; exact ⟨i + 1, by simpa using h1, by simp [h2]⟩
def LcL (X : Cx) (N : List Str) (sc : Scope) (x : Str) (elt : Expr) (Q : VK) (J : It) (σ : L2.St) (H1 : Hp) : Prop := ∀ Dl, H1 Dl = none → ∃ W : Nat → Nat → Hp → Prop, (∃ m, W 0 m (upd H1 Dl (.lst []))) ∧ ∀ i m H, W i m H →
  (J.stop i H ∧ Q (.ref Dl) H) ∨ (J.go i H ∧ ∃ Nx : Hp → Prop, (∀ H', Nx H' → ∃ m', m' < m ∧ W (i + 1) m' H') ∧ ∀ y H', J.yld i H y H' → ∃ σ2, Put N σ x y σ2 ∧ ∀ Y, Blk X sc Y →
    WE Y elt σ2 H' fun z H4 => ∃ acc, H4 Dl = some (.lst acc) ∧ acc.length < sizeLine ∧ Nx (upd H4 Dl (.lst (acc ++ [z]))))
/-- [elt for x in iter]: σ' is σ without the block's own name -/
theorem w_lc {sc : Scope} {i : Nat} {σ' : L2.St} (C : Fr X N L Vs G) (B : blB sc [x] [] [] = true) (ok : BlkOk N X.env.scope sc [(x, i)]) (hi : N[i]? = some x) (hw : Wip N σ x σ') (h : WI1 X (.Name x p) iter σ H fun J H1 => LcL X N sc x elt Q J σ' H1)
    (hs : ∀ x, foldedSetIterable iter X.env x = pure x := by intro _; rfl) : WE X (.ListComp elt [⟨.Name x p, iter, [], 0⟩] sc pos) σ H Q := by
  obtain ⟨i', hi', rfl⟩ := hw.ix
  obtain rfl : i = i' := nodup_ix C.nd hi hi'
  refine .of (pe_lc (own := [(x, i)]) (g := fun v σ0 H Q => gName i v σ0 H Q) (tt := tYes) (te := fun σ H Q => ∀ Y, Blk X sc Y → WE Y elt σ H Q) C.calm (by rw [C.n]; exact C.nd) (pi1 X _ iter) (by rw [C.n]; exact ok) (fun s H Cd cl fp => ?_) (fun s H Cd cl fp => pts_nil) (fun s H Cd cl fp => ?_) hs) ?_
  · have F : Fr (X.blk s H sc (compEnvC sc cl Cd X.env) fp) N [x] [] [] := Fr.blk C.noG B s H Cd cl fp
    have hl := F.loc x List.mem_cons_self
    exact pg_name (by rw [F.n]; exact C.nd) (by rw [F.n]; exact hi) hl.1 hl.2
  · exact ⟨fun pins s' σ0 H0 Q0 I q => q _ ⟨s, H, Cd, cl, fp, rfl⟩ pins s' I⟩
  · intro pins s I
    refine thn (h pins s I) fun v s1 h1 => thn h1 fun itv s2 h2 => ?_
    obtain ⟨it, fp, tn, J, H2, e, I2, T, st2, f2, l⟩ := h2
    refine ⟨it, fp, tn, J, H2, e, I2, T, st2, f2, fun Dl hD => ?_⟩
    obtain ⟨W, w0, wt⟩ := l Dl hD
    refine ⟨W, w0, fun j m H hw => ?_⟩
    rcases wt j m H hw with q | ⟨q1, Nx, q2, q3⟩
    · exact .inl q
    · refine .inr ⟨q1, Nx, q2, fun y H' hy => ?_⟩
      obtain ⟨σ2, hp, q⟩ := q3 y H' hy
      obtain ⟨k, h1, h2⟩ := hp.ix
      have e : i = k := nodup_ix C.nd hi h1
      subst e
      subst h2
      show wipe ((wipe σ [i]).set i (some y)) [i] = wipe σ [i] ∧ _
      refine ⟨by unfold wipe; simp [wipe], ?_⟩
      show (if true = true then (∀ Y, Blk X sc Y → WE Y elt ((List.set σ i none).set i (some y)) H' fun z H4 => ∃ acc, H4 Dl = some (HO.lst acc) ∧ acc.length < sizeLine ∧ Nx (upd H4 Dl (HO.lst (acc ++ [z])))) else Nx H')
      rw [if_pos rfl]
      exact q
/-- .. by its word -/
theorem lc_w {sc : Scope} {J : It} {n : Nat} {Gd : Hp → Prop} {f : Nat → V → Prop} (w : Walk J n Gd (fun i H x H' => H' = H ∧ f i x)) (Pv : Addr → Nat → Hp → Prop) (h0 : ∀ Dl, H Dl = none → Pv Dl 0 (upd H Dl (.lst []))) (hG : ∀ Dl i H', H Dl = none → i ≤ n → Pv Dl i H' → Gd H')
    (hs : ∀ Dl i y H', H Dl = none → i < n → f i y → Pv Dl i H' → ∃ σ2, Put N σ x y σ2 ∧ ∀ Y, Blk X sc Y → WE Y elt σ2 H' fun z H4 => ∃ acc, H4 Dl = some (.lst acc) ∧ acc.length < sizeLine ∧ Pv Dl (i + 1) (upd H4 Dl (.lst (acc ++ [z]))))
    (hd : ∀ Dl H', H Dl = none → Pv Dl n H' → Q (.ref Dl) H') : LcL X N sc x elt Q J σ H := fun Dl hD => by
  refine ⟨fun i m H => m = n - i ∧ i ≤ n ∧ Pv Dl i H, ⟨n, by simp, Nat.zero_le _, h0 Dl hD⟩, ?_⟩
  rintro i m H' ⟨rfl, hi, p⟩
  have q := hG Dl i H' hD hi p
  by_cases hlt : i < n
  · refine .inr ⟨w.goes i H' hlt q, Pv Dl (i + 1), fun H' p' => ⟨n - (i + 1), by omega, rfl, hlt, p'⟩, fun y H2 hy => ?_⟩
    obtain ⟨e, hf⟩ := w.yields i H' y H2 hlt q hy
    subst e
    exact hs Dl i y _ hD hlt hf p
  · have e : i = n := by omega
    subst e
    exact .inl ⟨w.stops H' q, hd Dl H' hD p⟩
/-- all that was known stays where an object that wasn't known changes -/
theorem Same.mut {H H' : Hp} {q : Addr} {o : HO} (e : Same H H') (h : H q = none) : Same H (upd H' q o) := fun b u r => by
  rw [upd_ne (ne_of_none r h)]; exact e b u r
/-- the elements are values that don't hang on the heap: the list of them -/
theorem lc_vals {sc : Scope} {J : It} {n : Nat} {Gd : Hp → Prop} {f : Nat → V → Prop} (w : Walk J n Gd (fun i H x H' => H' = H ∧ f i x)) (g : Nat → V) (hn : n < 1000000) (hG : ∀ H', Same H H' → Gd H')
    (hs : ∀ i y H', i < n → f i y → Same H H' → ∃ σ2, Put N σ x y σ2 ∧ ∀ Y, Blk X sc Y → WE Y elt σ2 H' fun z H4 => Same H' H4 ∧ z = g i)
    (hd : ∀ l H', H l = none → Same H H' → H' l = some (.lst ((List.range n).map g)) → Q (.ref l) H') : LcL X N sc x elt Q J σ H := by
  refine lc_w w (fun Dl i H' => Same H H' ∧ H' Dl = some (.lst ((List.range i).map g)) ∧ i ≤ n) (fun Dl hD => ⟨same_new hD, upd_same, Nat.zero_le _⟩) (fun Dl i H' hD _ p => hG H' p.1) ?_ fun Dl H' hD p => hd Dl H' hD p.1 p.2.1
  rintro Dl i y H' hD hi hf ⟨p1, p2, p3⟩
  obtain ⟨σ2, hp, q⟩ := hs i y H' hi hf p1
  refine ⟨σ2, hp, fun Y hY => (q Y hY).mono ?_⟩
  rintro z H4 ⟨s4, rfl⟩
  refine ⟨(List.range i).map g, s4 _ _ p2, by rw [List.length_map, List.length_range]; exact szl (by omega), ?_⟩
  refine ⟨Same.mut (p1.trans s4) hD, ?_, hi⟩
  rw [upd_same, List.range_succ, List.map_append]
  rfl
end
end LM
namespace LM
open PySem PySem.Spec PyProof.Rows L2
theorem boot_max : bootBuiltins "max" = some (.builtin "max") := by decide +kernel
theorem boot_min : bootBuiltins "min" = some (.builtin "min") := by decide +kernel
theorem boot_all : bootBuiltins "all" = some (.builtin "all") := by decide +kernel
theorem boot_sum : bootBuiltins "sum" = some (.builtin "sum") := by decide +kernel
section
variable {X : Cx} {σ : L2.St} {H H' : Hp} {v : V} {A B : Prop} {p : Prop} [Decidable p]
theorem nx_mk {f b c : L2.St → Hp → Prop} {r : VK} (q : f σ H) : Ends.nx ⟨f, r, b, c⟩ σ H := q
theorem rt_mk {f b c : L2.St → Hp → Prop} {r : VK} (q : r v H) : Ends.rt ⟨f, r, b, c⟩ v H := q
theorem ite_dec (h1 : p → A) (h2 : ¬ p → B) : if decide p = true then A else B := by
  by_cases h : p
  · rw [decide_eq_true h, if_pos rfl]; exact h1 h
  · rw [decide_eq_false h, if_neg Bool.false_ne_true]; exact h2 h
theorem ite_ndec (h1 : ¬ p → A) (h2 : p → B) : if (!decide p) = true then A else B := by
  by_cases h : p
  · rw [decide_eq_true h]; exact h2 h
  · rw [decide_eq_false h]; exact h1 h
theorem ite_b {k : Bool} (h1 : k = true → A) (h2 : k = false → B) : if k = true then A else B := by
  cases k
  · exact h2 rfl
  · exact h1 rfl
theorem ite_nb {k : Bool} (h1 : k = false → A) (h2 : k = true → B) : if (!k) = true then A else B := by
  cases k
  · exact h1 rfl
  · exact h2 rfl
theorem ite_T (h : A) : if true = true then A else B := by rw [if_pos rfl]; exact h
theorem ite_F (h : B) : if false = true then A else B := by rw [if_neg Bool.false_ne_true]; exact h
theorem ite_nT (h : B) : if (!true) = true then A else B := h
theorem ite_nF (h : A) : if (!false) = true then A else B := h
theorem Same.at {H H' : Hp} {a : Addr} {o : HO} (e : Same H H') (h : H a = some o) : H' a = some o := e a o h
theorem Same.sqt {K : PySem.W.Frag} {H H' : Hp} {a : Addr} {xs : List V} (e : Same H H') (h : SqT K H a xs) : SqT K H' a xs := by
  rcases h with (h | ⟨o, h⟩) | h
  · exact .inl (.inl (e _ _ h))
  · exact .inl (.inr ⟨o, e _ _ h⟩)
  · exact .inr h
theorem Same.rd {H H' : Hp} {a : Addr} {u : HO} (e : Same H H') (h : Rd H a u) : Rd H' a u := by
  rcases h with h | ⟨o, h⟩
  · exact .inl (e _ _ h)
  · exact .inr ⟨o, e _ _ h⟩
theorem ex_put {N : List Str} {x : Str} {σ' : L2.St} {R : L2.St → Prop} (h : Put N σ x v σ') (q : R σ') : ∃ σ', Put N σ x v σ' ∧ R σ' := ⟨σ', h, q⟩
theorem ex_len {n : Nat} {R : Prop} (h : Nat.ble n 1000000 = true) (q : R) : n ≤ sizeLine ∧ R := ⟨sz (Nat.le_of_ble_eq_true h), q⟩
theorem noSl_str {z : Str} {j} {pos : Pos} : NoSl (.Constant (.str z) j pos) := fun _ _ => rfl
theorem x_str {s : Str} {R : Str → Prop} (q : R s) : ∃ z, V.str s = .str z ∧ R z := ⟨s, rfl, q⟩
theorem x_sq {K : PySem.W.Frag} {p : Addr} {xs : List V} {R : Addr → Prop} (h : SqL K H p xs) (q : R p) : ∃ l xs, V.ref p = .ref l ∧ SqL K H l xs ∧ R l := ⟨p, xs, rfl, h, q⟩
theorem x_app {l : Addr} {xs : List V} {R : List V → Prop} (h : H l = some (.lst xs)) (hl : xs.length < 1000000) (q : R xs) : ∃ xs, H l = some (.lst xs) ∧ xs.length < sizeLine ∧ R xs := ⟨xs, h, szl hl, q⟩
theorem ite_lenT {xs : List V} {i : Int} (h : Int.ofNat xs.length = i) (q : A) : if decide ((xs.length : Int) = i) = true then A else B := by
  rw [decide_eq_true (show (xs.length : Int) = i from h), if_pos rfl]
  exact q
theorem ite_lenF {xs : List V} {i : Int} (h : decide (Int.ofNat xs.length = i) = false) (q : B) : if decide ((xs.length : Int) = i) = true then A else B := by
  rw [decide_eq_false (show ¬ (xs.length : Int) = i from of_decide_eq_false h), if_neg Bool.false_ne_true]
  exact q
theorem ite_nlT {xs : List V} {i : Int} (h : decide (Int.ofNat xs.length = i) = false) (q : A) : if (!decide ((xs.length : Int) = i)) = true then A else B := by
  rw [decide_eq_false (show ¬ (xs.length : Int) = i from of_decide_eq_false h)]
  exact q
theorem ite_nlF {xs : List V} {i : Int} (h : Int.ofNat xs.length = i) (q : B) : if (!decide ((xs.length : Int) = i)) = true then A else B := by
  rw [decide_eq_true (show (xs.length : Int) = i from h)]
  exact q
theorem sq_all {K : PySem.W.Frag} {a : Addr} {xs : List V} (h : ∀ H, SqT K H a xs) : SqT K H a xs := h H
theorem ty_all : True := trivial
theorem x_st {K : PySem.W.Frag} {p : Addr} {xs : List V} {R : Addr → Prop} (h : SqT K H p xs) (q : R p) : ∃ l xs, V.ref p = .ref l ∧ SqT K H l xs ∧ R l := ⟨p, xs, rfl, h, q⟩
theorem ite_bT {b : Bool} (h : b = true) (q : A) : if b = true then A else B := by rw [if_pos h]; exact q
theorem ite_bF {b : Bool} (h : b = false) (q : B) : if b = true then A else B := by rw [h, if_neg Bool.false_ne_true]; exact q
end
theorem tyx_lst {K : PySem.W.Frag} {H : Hp} {a : Addr} {xs : List V} (h : SqL K H a xs) : TyX K H (.ref a) (.type "list") := by
  rcases h with (h | ⟨o, h⟩) | ⟨o, its, n, h1, h2, _⟩
  · exact .base (.lst h)
  · exact .base (.frz h)
  · exact .kList h1 h2
theorem tyx_tup {K : PySem.W.Frag} {H : Hp} {a : Addr} {xs : List V} (h : SqT K H a xs) : TyX K H (.ref a) (.type "tuple") := by
  rcases h with (h | ⟨o, h⟩) | ⟨o, its, n, h1, h2, _⟩
  · exact .base (.tup h)
  · exact .fTuple h
  · exact .kTuple h1 h2
section
variable {X : Cx} {H : Hp} {Q : VK}
theorem ki_str_str {s : Str} (q : Q (.bl true) H) : WB1 X (.builtin "isinstance") [.str s, .ty "str"] H Q := k_isi (T := "str") (.base (.str s)) (by decide +kernel) q
theorem ki_str_int {s : Str} (q : Q (.bl false) H) : WB1 X (.builtin "isinstance") [.str s, .ty "int"] H Q := k_isi (T := "str") (.base (.str s)) (by decide +kernel) q
theorem ki_str_bool {s : Str} (q : Q (.bl false) H) : WB1 X (.builtin "isinstance") [.str s, .ty "bool"] H Q := k_isi (T := "str") (.base (.str s)) (by decide +kernel) q
theorem ki_str_list {s : Str} (q : Q (.bl false) H) : WB1 X (.builtin "isinstance") [.str s, .ty "list"] H Q := k_isi (T := "str") (.base (.str s)) (by decide +kernel) q
theorem ki_str_tuple {s : Str} (q : Q (.bl false) H) : WB1 X (.builtin "isinstance") [.str s, .ty "tuple"] H Q := k_isi (T := "str") (.base (.str s)) (by decide +kernel) q
theorem ki_str_dict {s : Str} (q : Q (.bl false) H) : WB1 X (.builtin "isinstance") [.str s, .ty "dict"] H Q := k_isi (T := "str") (.base (.str s)) (by decide +kernel) q
theorem ki_int_str {s : Int} (q : Q (.bl false) H) : WB1 X (.builtin "isinstance") [.int s, .ty "str"] H Q := k_isi (T := "int") (.base (.int s)) (by decide +kernel) q
theorem ki_int_int {s : Int} (q : Q (.bl true) H) : WB1 X (.builtin "isinstance") [.int s, .ty "int"] H Q := k_isi (T := "int") (.base (.int s)) (by decide +kernel) q
theorem ki_int_bool {s : Int} (q : Q (.bl false) H) : WB1 X (.builtin "isinstance") [.int s, .ty "bool"] H Q := k_isi (T := "int") (.base (.int s)) (by decide +kernel) q
theorem ki_int_list {s : Int} (q : Q (.bl false) H) : WB1 X (.builtin "isinstance") [.int s, .ty "list"] H Q := k_isi (T := "int") (.base (.int s)) (by decide +kernel) q
theorem ki_int_tuple {s : Int} (q : Q (.bl false) H) : WB1 X (.builtin "isinstance") [.int s, .ty "tuple"] H Q := k_isi (T := "int") (.base (.int s)) (by decide +kernel) q
theorem ki_int_dict {s : Int} (q : Q (.bl false) H) : WB1 X (.builtin "isinstance") [.int s, .ty "dict"] H Q := k_isi (T := "int") (.base (.int s)) (by decide +kernel) q
theorem ki_bool_str {s : Bool} (q : Q (.bl false) H) : WB1 X (.builtin "isinstance") [.bl s, .ty "str"] H Q := k_isi (T := "bool") (.base (.bl s)) (by decide +kernel) q
theorem ki_bool_int {s : Bool} (q : Q (.bl true) H) : WB1 X (.builtin "isinstance") [.bl s, .ty "int"] H Q := k_isi (T := "bool") (.base (.bl s)) (by decide +kernel) q
theorem ki_bool_bool {s : Bool} (q : Q (.bl true) H) : WB1 X (.builtin "isinstance") [.bl s, .ty "bool"] H Q := k_isi (T := "bool") (.base (.bl s)) (by decide +kernel) q
theorem ki_bool_list {s : Bool} (q : Q (.bl false) H) : WB1 X (.builtin "isinstance") [.bl s, .ty "list"] H Q := k_isi (T := "bool") (.base (.bl s)) (by decide +kernel) q
theorem ki_bool_tuple {s : Bool} (q : Q (.bl false) H) : WB1 X (.builtin "isinstance") [.bl s, .ty "tuple"] H Q := k_isi (T := "bool") (.base (.bl s)) (by decide +kernel) q
theorem ki_bool_dict {s : Bool} (q : Q (.bl false) H) : WB1 X (.builtin "isinstance") [.bl s, .ty "dict"] H Q := k_isi (T := "bool") (.base (.bl s)) (by decide +kernel) q
theorem ki_NoneType_str (q : Q (.bl false) H) : WB1 X (.builtin "isinstance") [.non, .ty "str"] H Q := k_isi (T := "NoneType") (.base .non) (by decide +kernel) q
theorem ki_NoneType_int (q : Q (.bl false) H) : WB1 X (.builtin "isinstance") [.non, .ty "int"] H Q := k_isi (T := "NoneType") (.base .non) (by decide +kernel) q
theorem ki_NoneType_bool (q : Q (.bl false) H) : WB1 X (.builtin "isinstance") [.non, .ty "bool"] H Q := k_isi (T := "NoneType") (.base .non) (by decide +kernel) q
theorem ki_NoneType_list (q : Q (.bl false) H) : WB1 X (.builtin "isinstance") [.non, .ty "list"] H Q := k_isi (T := "NoneType") (.base .non) (by decide +kernel) q
theorem ki_NoneType_tuple (q : Q (.bl false) H) : WB1 X (.builtin "isinstance") [.non, .ty "tuple"] H Q := k_isi (T := "NoneType") (.base .non) (by decide +kernel) q
theorem ki_NoneType_dict (q : Q (.bl false) H) : WB1 X (.builtin "isinstance") [.non, .ty "dict"] H Q := k_isi (T := "NoneType") (.base .non) (by decide +kernel) q
theorem ki_list_str {p : Addr} {xs : List V} (h : SqL X.K H p xs) (q : Q (.bl false) H) : WB1 X (.builtin "isinstance") [.ref p, .ty "str"] H Q := k_isi (T := "list") (tyx_lst h) (by decide +kernel) q
theorem ki_list_int {p : Addr} {xs : List V} (h : SqL X.K H p xs) (q : Q (.bl false) H) : WB1 X (.builtin "isinstance") [.ref p, .ty "int"] H Q := k_isi (T := "list") (tyx_lst h) (by decide +kernel) q
theorem ki_list_bool {p : Addr} {xs : List V} (h : SqL X.K H p xs) (q : Q (.bl false) H) : WB1 X (.builtin "isinstance") [.ref p, .ty "bool"] H Q := k_isi (T := "list") (tyx_lst h) (by decide +kernel) q
theorem ki_list_list {p : Addr} {xs : List V} (h : SqL X.K H p xs) (q : Q (.bl true) H) : WB1 X (.builtin "isinstance") [.ref p, .ty "list"] H Q := k_isi (T := "list") (tyx_lst h) (by decide +kernel) q
theorem ki_list_tuple {p : Addr} {xs : List V} (h : SqL X.K H p xs) (q : Q (.bl false) H) : WB1 X (.builtin "isinstance") [.ref p, .ty "tuple"] H Q := k_isi (T := "list") (tyx_lst h) (by decide +kernel) q
theorem ki_list_dict {p : Addr} {xs : List V} (h : SqL X.K H p xs) (q : Q (.bl false) H) : WB1 X (.builtin "isinstance") [.ref p, .ty "dict"] H Q := k_isi (T := "list") (tyx_lst h) (by decide +kernel) q
theorem ki_tuple_str {p : Addr} {xs : List V} (h : SqT X.K H p xs) (q : Q (.bl false) H) : WB1 X (.builtin "isinstance") [.ref p, .ty "str"] H Q := k_isi (T := "tuple") (tyx_tup h) (by decide +kernel) q
theorem ki_tuple_int {p : Addr} {xs : List V} (h : SqT X.K H p xs) (q : Q (.bl false) H) : WB1 X (.builtin "isinstance") [.ref p, .ty "int"] H Q := k_isi (T := "tuple") (tyx_tup h) (by decide +kernel) q
theorem ki_tuple_bool {p : Addr} {xs : List V} (h : SqT X.K H p xs) (q : Q (.bl false) H) : WB1 X (.builtin "isinstance") [.ref p, .ty "bool"] H Q := k_isi (T := "tuple") (tyx_tup h) (by decide +kernel) q
theorem ki_tuple_list {p : Addr} {xs : List V} (h : SqT X.K H p xs) (q : Q (.bl false) H) : WB1 X (.builtin "isinstance") [.ref p, .ty "list"] H Q := k_isi (T := "tuple") (tyx_tup h) (by decide +kernel) q
theorem ki_tuple_tuple {p : Addr} {xs : List V} (h : SqT X.K H p xs) (q : Q (.bl true) H) : WB1 X (.builtin "isinstance") [.ref p, .ty "tuple"] H Q := k_isi (T := "tuple") (tyx_tup h) (by decide +kernel) q
theorem ki_tuple_dict {p : Addr} {xs : List V} (h : SqT X.K H p xs) (q : Q (.bl false) H) : WB1 X (.builtin "isinstance") [.ref p, .ty "dict"] H Q := k_isi (T := "tuple") (tyx_tup h) (by decide +kernel) q
theorem ki_dict_str {p : Addr} {kvs : List (Key × V)} (h : H p = some (.dK kvs)) (q : Q (.bl false) H) : WB1 X (.builtin "isinstance") [.ref p, .ty "str"] H Q := k_isi (T := "dict") (.base (.dK h)) (by decide +kernel) q
theorem ki_dict_int {p : Addr} {kvs : List (Key × V)} (h : H p = some (.dK kvs)) (q : Q (.bl false) H) : WB1 X (.builtin "isinstance") [.ref p, .ty "int"] H Q := k_isi (T := "dict") (.base (.dK h)) (by decide +kernel) q
theorem ki_dict_bool {p : Addr} {kvs : List (Key × V)} (h : H p = some (.dK kvs)) (q : Q (.bl false) H) : WB1 X (.builtin "isinstance") [.ref p, .ty "bool"] H Q := k_isi (T := "dict") (.base (.dK h)) (by decide +kernel) q
theorem ki_dict_list {p : Addr} {kvs : List (Key × V)} (h : H p = some (.dK kvs)) (q : Q (.bl false) H) : WB1 X (.builtin "isinstance") [.ref p, .ty "list"] H Q := k_isi (T := "dict") (.base (.dK h)) (by decide +kernel) q
theorem ki_dict_tuple {p : Addr} {kvs : List (Key × V)} (h : H p = some (.dK kvs)) (q : Q (.bl false) H) : WB1 X (.builtin "isinstance") [.ref p, .ty "tuple"] H Q := k_isi (T := "dict") (.base (.dK h)) (by decide +kernel) q
theorem ki_dict_dict {p : Addr} {kvs : List (Key × V)} (h : H p = some (.dK kvs)) (q : Q (.bl true) H) : WB1 X (.builtin "isinstance") [.ref p, .ty "dict"] H Q := k_isi (T := "dict") (.base (.dK h)) (by decide +kernel) q
end
end LM
namespace LM
open PySem PySem.Spec PyProof.Rows L2
/-! ### programs as data, and as they lie in the heap -/
inductive Kd where
  | whn | lop | agn
  deriving DecidableEq, Repr
def Kd.nm : Kd → Str
  | .whn => "when"
  | .lop => "loop"
  | .agn => "again"
theorem in_blocks (kd : Kd) : inV (.str kd.nm) [.str "when", .str "loop", .str "again"] = true := by cases kd <;> decide +kernel
theorem kd_let (kd : Kd) : decide (kd.nm = ("let" : Str)) = false := by cases kd <;> decide +kernel
theorem kd_say (kd : Kd) : decide (kd.nm = ("say" : Str)) = false := by cases kd <;> decide +kernel
inductive Sg where
  | add | sub | mul | lss | div
  deriving DecidableEq, Repr
def Sg.nm : Sg → Str
  | .add => "+"
  | .sub => "-"
  | .mul => "*"
  | .lss => "<"
  | .div => "/"
inductive Row where
  | lt (to : Str) (sg : Sg) (one other : Key)
  | say (one : Key)
  | blk (kd : Kd) (test : Str) (rows : List Row)
mutual
def Row.dep : Row → Nat
  | .lt _ _ _ _ => 0
  | .say _ => 0
  | .blk _ _ rs => deps rs + 1
def deps : List Row → Nat
  | [] => 0
  | r :: rs => max r.dep (deps rs)
end
mutual
/-- how many rows in all -/
def Row.cnt : Row → Nat
  | .lt _ _ _ _ => 1
  | .say _ => 1
  | .blk _ _ rs => cnts rs + 1
def cnts : List Row → Nat
  | [] => 0
  | r :: rs => r.cnt + cnts rs
end
theorem deps_mem {r : Row} : ∀ {rs : List Row}, r ∈ rs → r.dep ≤ deps rs
  | [], h => nomatch h
  | s :: rs, h => by
    rw [deps]
    rcases List.mem_cons.mp h with rfl | h
    · exact Nat.le_max_left _ _
    · exact Nat.le_trans (deps_mem h) (Nat.le_max_right _ _)
theorem deps_append : ∀ (rs ss : List Row), deps (rs ++ ss) = max (deps rs) (deps ss)
  | [], ss => by simp [deps]
  | r :: rs, ss => by rw [List.cons_append, deps, deps, deps_append rs ss, Nat.max_assoc]
theorem cnts_append : ∀ (rs ss : List Row), cnts (rs ++ ss) = cnts rs + cnts ss
  | [], ss => by simp [cnts]
  | r :: rs, ss => by rw [List.cons_append, cnts, cnts, cnts_append rs ss, Nat.add_assoc]
theorem cnt_pos (r : Row) : 1 ≤ r.cnt := by cases r <;> simp [Row.cnt]
theorem len_cnts : ∀ (rs : List Row), rs.length ≤ cnts rs
  | [] => Nat.le_refl _
  | r :: rs => by
    have := len_cnts rs
    have := cnt_pos r
    rw [cnts, List.length_cons]
    omega
theorem cnts_mem {r : Row} : ∀ {rs : List Row}, r ∈ rs → r.cnt ≤ cnts rs
  | [], h => nomatch h
  | s :: rs, h => by
    rw [cnts]
    rcases List.mem_cons.mp h with rfl | h
    · exact Nat.le_add_right _ _
    · exact Nat.le_trans (cnts_mem h) (Nat.le_add_left _ _)

mutual
inductive RowIn (H : Hp) : V → Row → List Addr → Prop
  | lt {t : Addr} {to : Str} {sg : Sg} {x y : Key} (h : H t = some (.tup [.str "let", .str to, .str sg.nm, kV x, kV y])) : RowIn H (.ref t) (.lt to sg x y) []
  | say {t : Addr} {x : Key} (h : H t = some (.tup [.str "say", kV x])) : RowIn H (.ref t) (.say x) []
  | blk {t a : Addr} {kd : Kd} {s : Str} {rs : List Row} {fp : List Addr} (h : H t = some (.tup [.str kd.nm, .str s, .ref a])) (hr : RowsIn H a rs fp) : RowIn H (.ref t) (.blk kd s rs) fp
/-- a list of rows stands at a; fp: the lists that it is made of, a first -/
inductive RowsIn (H : Hp) : Addr → List Row → List Addr → Prop
  | mk {a : Addr} {vs : List V} {rs : List Row} {fp : List Addr} (h : H a = some (.lst vs)) (ha : AllIn H vs rs fp) : RowsIn H a rs (a :: fp)
inductive AllIn (H : Hp) : List V → List Row → List Addr → Prop
  | nil : AllIn H [] [] []
  | cons {v : V} {vs : List V} {r : Row} {rs : List Row} {f g : List Addr} (h : RowIn H v r f) (ha : AllIn H vs rs g) : AllIn H (v :: vs) (r :: rs) (f ++ g)
end
/-- H' knows what stands in H but for lists away from fp -/
def Kept (fp : List Addr) (H H' : Hp) : Prop := (∀ t xs, H t = some (.tup xs) → H' t = some (.tup xs)) ∧ ∀ l ∈ fp, H' l = H l
theorem Kept.left {f g : List Addr} {H H' : Hp} (k : Kept (f ++ g) H H') : Kept f H H' := ⟨k.1, fun l h => k.2 l (List.mem_append_left _ h)⟩
theorem Kept.right {f g : List Addr} {H H' : Hp} (k : Kept (f ++ g) H H') : Kept g H H' := ⟨k.1, fun l h => k.2 l (List.mem_append_right _ h)⟩
theorem Kept.tail {a : Addr} {g : List Addr} {H H' : Hp} (k : Kept (a :: g) H H') : Kept g H H' := ⟨k.1, fun l h => k.2 l (List.mem_cons_of_mem _ h)⟩
mutual
theorem RowIn.keep {H H' : Hp} : ∀ {r : Row} {v : V} {fp : List Addr}, RowIn H v r fp → Kept fp H H' → RowIn H' v r fp
  | .lt _ _ _ _, _, _, .lt h, k => .lt (k.1 _ _ h)
  | .say _, _, _, .say h, k => .say (k.1 _ _ h)
  | .blk _ _ rs, _, _, .blk h hr, k => .blk (k.1 _ _ h) (RowsIn.keep (rs := rs) hr k)
theorem RowsIn.keep {H H' : Hp} : ∀ {rs : List Row} {a : Addr} {fp : List Addr}, RowsIn H a rs fp → Kept fp H H' → RowsIn H' a rs fp
  | rs, _, _, .mk h ha, k => .mk (by rw [k.2 _ List.mem_cons_self]; exact h) (AllIn.keep (rs := rs) ha k.tail)
theorem AllIn.keep {H H' : Hp} : ∀ {rs : List Row} {vs : List V} {fp : List Addr}, AllIn H vs rs fp → Kept fp H H' → AllIn H' vs rs fp
  | [], _, _, .nil, _ => .nil
  | r :: rs, _, _, .cons h ha, k => .cons (RowIn.keep (r := r) h k.left) (AllIn.keep (rs := rs) ha k.right)
end
mutual
/-- the lists stand -/
theorem RowIn.at {H : Hp} : ∀ {r : Row} {v : V} {fp : List Addr}, RowIn H v r fp → ∀ l ∈ fp, ∃ xs, H l = some (.lst xs)
  | .lt _ _ _ _, _, _, .lt _, l, hl => nomatch hl
  | .say _, _, _, .say _, l, hl => nomatch hl
  | .blk _ _ rs, _, _, .blk _ hr, l, hl => RowsIn.at (rs := rs) hr l hl
theorem RowsIn.at {H : Hp} : ∀ {rs : List Row} {a : Addr} {fp : List Addr}, RowsIn H a rs fp → ∀ l ∈ fp, ∃ xs, H l = some (.lst xs)
  | rs, _, _, .mk h ha, l, hl => by
    rcases List.mem_cons.mp hl with e | hl
    · exact ⟨_, e ▸ h⟩
    · exact AllIn.at (rs := rs) ha l hl
theorem AllIn.at {H : Hp} : ∀ {rs : List Row} {vs : List V} {fp : List Addr}, AllIn H vs rs fp → ∀ l ∈ fp, ∃ xs, H l = some (.lst xs)
  | [], _, _, .nil, l, hl => nomatch hl
  | r :: rs, _, _, .cons h ha, l, hl => by
    rcases List.mem_append.mp hl with hl | hl
    · exact RowIn.at (r := r) h l hl
    · exact AllIn.at (rs := rs) ha l hl
end
theorem Kept.same {fp : List Addr} {H H' : Hp} (e : Same H H') (h : ∀ l ∈ fp, ∃ xs, H l = some (.lst xs)) : Kept fp H H' :=
  ⟨fun t xs q => e t _ q, fun l hl => by obtain ⟨xs, q⟩ := h l hl; rw [q]; exact e l _ q⟩
/-- a list away from fp changes -/
theorem Kept.upd {fp : List Addr} {H : Hp} {l : Addr} {xs : List V} {o : HO} (h : H l = some (.lst xs)) (hl : l ∉ fp) : Kept fp H (L2.upd H l o) :=
  ⟨fun t ys q => by rw [upd_ne (ne_of q h fun z => nomatch z)]; exact q, fun m hm => upd_ne fun z => hl (z ▸ hm)⟩
theorem RowsIn.mono {H H' : Hp} {rs : List Row} {a : Addr} {fp : List Addr} (h : RowsIn H a rs fp) (e : Same H H') : RowsIn H' a rs fp := h.keep (.same e h.at)
theorem RowIn.mono {H H' : Hp} {r : Row} {v : V} {fp : List Addr} (h : RowIn H v r fp) (e : Same H H') : RowIn H' v r fp := h.keep (.same e h.at)
theorem AllIn.mono {H H' : Hp} {rs : List Row} {vs : List V} {fp : List Addr} (h : AllIn H vs rs fp) (e : Same H H') : AllIn H' vs rs fp := h.keep (.same e h.at)
theorem AllIn.len {H : Hp} : ∀ {rs : List Row} {vs : List V} {fp : List Addr}, AllIn H vs rs fp → vs.length = rs.length
  | [], _, _, .nil => rfl
  | r :: rs, _, _, .cons _ ha => by rw [List.length_cons, List.length_cons, AllIn.len ha]
theorem AllIn.get {H : Hp} : ∀ {rs : List Row} {vs : List V} {fp : List Addr} {i : Nat} {v : V}, AllIn H vs rs fp → vs[i]? = some v → ∃ r f, rs[i]? = some r ∧ RowIn H v r f ∧ ∀ l ∈ f, l ∈ fp
  | [], _, _, i, v, .nil, h => by simp at h
  | r :: rs, _, _, 0, v, .cons h ha, e => by
    simp at e
    subst e
    exact ⟨r, _, rfl, h, fun l hl => List.mem_append_left _ hl⟩
  | r :: rs, _, _, i + 1, v, .cons h ha, e => by
    obtain ⟨r', f, h1, h2, h3⟩ := AllIn.get (i := i) ha (by simpa using e)
    exact ⟨r', f, by simpa using h1, h2, fun l hl => List.mem_append_right _ (h3 l hl)⟩
theorem AllIn.append {H : Hp} : ∀ {rs ss : List Row} {vs ws : List V} {f g : List Addr}, AllIn H vs rs f → AllIn H ws ss g → AllIn H (vs ++ ws) (rs ++ ss) (f ++ g)
  | [], ss, _, ws, _, g, .nil, h => h
  | r :: rs, ss, _, ws, _, g, .cons h ha, k => by
    rw [List.cons_append, List.cons_append, List.append_assoc]
    exact .cons h (AllIn.append ha k)
theorem AllIn.snoc {H : Hp} {rs : List Row} {r : Row} {vs : List V} {v : V} {f g : List Addr} (h : AllIn H vs rs f) (k : RowIn H v r g) : AllIn H (vs ++ [v]) (rs ++ [r]) (f ++ g) := by
  have := h.append (.cons k .nil)
  rw [List.append_nil] at this
  exact this
theorem take_succ {α : Type} {l : List α} {i : Nat} {x : α} (h : l[i]? = some x) : l.take (i + 1) = l.take i ++ [x] := by
  rw [List.take_succ, h]; rfl
theorem take_all {α : Type} {l : List α} {n : Nat} (h : l.length ≤ n) : l.take n = l := List.take_of_length_le h
/-- a name of the list, or a number -/
def KeyOk (ns : List Str) : Key → Prop
  | .inl i => 0 ≤ i ∧ i ≤ 999999
  | .inr s => s ∈ ns
mutual
def RowOk (ns : List Str) : Row → Prop
  | .lt to _ x y => to ∈ ns ∧ KeyOk ns x ∧ KeyOk ns y
  | .say x => KeyOk ns x
  | .blk _ s rs => s ∈ ns ∧ RowsOk ns rs
def RowsOk (ns : List Str) : List Row → Prop
  | [] => True
  | r :: rs => RowOk ns r ∧ RowsOk ns rs
end
theorem RowsOk_append {ns : List Str} : ∀ {rs ss : List Row}, RowsOk ns rs → RowsOk ns ss → RowsOk ns (rs ++ ss)
  | [], _, _, h => h
  | r :: rs, _, h, k => by
    rw [RowsOk] at h
    rw [List.cons_append, RowsOk]
    exact ⟨h.1, RowsOk_append h.2 k⟩
theorem RowsOk_mem {ns : List Str} {r : Row} : ∀ {rs : List Row}, RowsOk ns rs → r ∈ rs → RowOk ns r
  | [], _, h => nomatch h
  | s :: rs, h, k => by
    rw [RowsOk] at h
    rcases List.mem_cons.mp k with rfl | k
    · exact h.1
    · exact RowsOk_mem h.2 k
theorem RowsOk_one {ns : List Str} {r : Row} (h : RowOk ns r) : RowsOk ns [r] := by
  rw [RowsOk]
  exact ⟨h, by rw [RowsOk]; trivial⟩

/-! ### a program while it is built: a stack of open lists -/
/-- below the open list a: the lists bs that lie open (the nearest first), their rows, the lists of their rows -/
inductive Lower (H : Hp) (ns : List Str) : Addr → List Addr → List (List Row) → List Addr → Prop
  | nil {a : Addr} : Lower H ns a [] [] []
  | cons {a b t : Addr} {bs : List Addr} {us : List V} {kd : Kd} {s : Str} {ss : List Row} {ls : List (List Row)} {g g' : List Addr} (h : H b = some (.lst (us ++ [.ref t]))) (ht : H t = some (.tup [.str kd.nm, .str s, .ref a])) (hs : s ∈ ns)
      (ha : AllIn H us ss g) (ok : RowsOk ns ss) (hd : deps ss + bs.length ≤ 3) (hl : Lower H ns b bs ls g') : Lower H ns a (b :: bs) (ss :: ls) (b :: (g ++ g'))
theorem Lower.keep {H H' : Hp} {ns : List Str} {a : Addr} {bs : List Addr} {ls : List (List Row)} {g : List Addr} (h : Lower H ns a bs ls g) : Kept g H H' → Lower H' ns a bs ls g := by
  induction h with
  | nil => intro _; exact .nil
  | cons h ht hs ha ok hd hl ih =>
    intro k
    exact .cons (by rw [k.2 _ List.mem_cons_self]; exact h) (k.1 _ _ ht) hs (ha.keep k.tail.left) ok hd (ih k.tail.right)
theorem Lower.at {H : Hp} {ns : List Str} {a : Addr} {bs : List Addr} {ls : List (List Row)} {g : List Addr} (h : Lower H ns a bs ls g) : ∀ l ∈ g, ∃ xs, H l = some (.lst xs) := by
  induction h with
  | nil => intro l hl; exact nomatch hl
  | cons h ht hs ha ok hd hl ih =>
    intro l hm
    rcases List.mem_cons.mp hm with e | hm
    · exact ⟨_, e ▸ h⟩
    · rcases List.mem_append.mp hm with hm | hm
      · exact ha.at l hm
      · exact ih l hm
theorem Lower.len {H : Hp} {ns : List Str} {a : Addr} {bs : List Addr} {ls : List (List Row)} {g : List Addr} (h : Lower H ns a bs ls g) : ls.length = bs.length := by
  induction h with
  | nil => rfl
  | cons _ _ _ _ _ _ _ ih => rw [List.length_cons, List.length_cons, ih]
theorem Lower.mem {H : Hp} {ns : List Str} {a : Addr} {bs : List Addr} {ls : List (List Row)} {g : List Addr} (h : Lower H ns a bs ls g) : ∀ l ∈ bs, l ∈ g := by
  induction h with
  | nil => intro l hl; exact nomatch hl
  | cons _ _ _ _ _ _ _ ih =>
    intro l hm
    rcases List.mem_cons.mp hm with rfl | hm
    · exact List.mem_cons_self
    · exact List.mem_cons_of_mem _ (List.mem_append_right _ (ih l hm))
def total : List (List Row) → Nat
  | [] => 0
  | r :: rs => cnts r + 1 + total rs
/-- the stack at S, the tests at T; a is the top's list, bs those below; n: as many rows at most; F: what stands since before -/
structure Zip (F H : Hp) (ns : List Str) (S T : Addr) (a : Addr) (bs : List Addr) (vs : List V) (ts : List Str) (n : Nat) : Prop where
  ex : ∃ (rs : List Row) (f : List Addr) (ls : List (List Row)) (g : List Addr), AllIn H vs rs f ∧ Lower H ns a bs ls g ∧ (S :: T :: a :: (f ++ g)).Nodup ∧ (∀ l ∈ S :: T :: a :: (f ++ g), F l = none) ∧ RowsOk ns rs ∧ deps rs + bs.length ≤ 3 ∧ cnts rs + total ls ≤ n
  hS : H S = some (.lst ((a :: bs).reverse.map V.ref))
  hT : H T = some (.lst (ts.map V.str))
  ha : H a = some (.lst vs)
  lt : ts.length = bs.length
  nm : ∀ s ∈ ts, s = "" ∨ s ∈ ns
  l3 : bs.length ≤ 3
  fh : Same F H
theorem Same.kept {fp : List Addr} {H H' : Hp} (e : Same H H') (h : ∀ l ∈ fp, ∃ xs, H l = some (.lst xs)) : Kept fp H H' := Kept.same e h
/-- more stands -/
theorem Zip.mono {F H H' : Hp} {ns : List Str} {S T a : Addr} {bs : List Addr} {vs : List V} {ts : List Str} {n : Nat} (z : Zip F H ns S T a bs vs ts n) (e : Same H H') : Zip F H' ns S T a bs vs ts n := by
  obtain ⟨rs, f, ls, g, h1, h2, h3, h4, h5⟩ := z.ex
  exact ⟨⟨rs, f, ls, g, h1.mono e, h2.keep (.same e h2.at), h3, h4, h5⟩, e _ _ z.hS, e _ _ z.hT, e _ _ z.ha, z.lt, z.nm, z.l3, fun b o q => e b o (z.fh b o q)⟩
theorem Zip.le {F H : Hp} {ns : List Str} {S T a : Addr} {bs : List Addr} {vs : List V} {ts : List Str} {n m : Nat} (z : Zip F H ns S T a bs vs ts n) (h : n ≤ m) : Zip F H ns S T a bs vs ts m := by
  obtain ⟨rs, f, ls, g, h1, h2, h3, h4, h5, h6, h7⟩ := z.ex
  exact ⟨⟨rs, f, ls, g, h1, h2, h3, h4, h5, h6, by omega⟩, z.hS, z.hT, z.ha, z.lt, z.nm, z.l3, z.fh⟩
theorem Same.mut' {F H : Hp} {q : Addr} {o : HO} (e : Same F H) (h : F q = none) : Same F (upd H q o) := Same.mut e h
/-- a let or say is put to the top -/
theorem Zip.add {F H : Hp} {ns : List Str} {S T a : Addr} {bs : List Addr} {vs : List V} {ts : List Str} {n : Nat} (z : Zip F H ns S T a bs vs ts n) {v : V} {r : Row} (h : RowIn H v r []) (ok : RowOk ns r) (hd : r.dep = 0) (hc : r.cnt = 1) :
    Zip F (upd H a (.lst (vs ++ [v]))) ns S T a bs (vs ++ [v]) ts (n + 1) := by
  obtain ⟨rs, f, ls, g, h1, h2, h3, h4, h5, h6, h7⟩ := z.ex
  have nd := h3
  rw [List.nodup_cons, List.nodup_cons, List.nodup_cons] at nd
  obtain ⟨n1, n2, n3, n4⟩ := nd
  have af : a ∉ f := fun q => n3 (List.mem_append_left _ q)
  have ag : a ∉ g := fun q => n3 (List.mem_append_right _ q)
  have Sa : S ≠ a := fun q => n1 (by rw [q]; exact List.mem_cons_of_mem _ List.mem_cons_self)
  have Ta : T ≠ a := fun q => n2 (by rw [q]; exact List.mem_cons_self)
  have e1 : AllIn H (vs ++ [v]) (rs ++ [r]) f := by
    have := h1.snoc h
    rw [List.append_nil] at this
    exact this
  have c1 : cnts (rs ++ [r]) = cnts rs + 1 := by rw [cnts_append, cnts, cnts, hc]
  have d1 : deps (rs ++ [r]) = deps rs := by rw [deps_append, deps, deps, hd]; simp
  refine ⟨⟨rs ++ [r], f, ls, g, e1.keep (Kept.upd z.ha af), h2.keep (Kept.upd z.ha ag), h3, h4, RowsOk_append h5 (RowsOk_one ok), by rw [d1]; exact h6, by rw [c1]; omega⟩, by rw [upd_ne Sa]; exact z.hS, by rw [upd_ne Ta]; exact z.hT, upd_same, z.lt, z.nm, z.l3, Same.mut z.fh (h4 a (by simp))⟩
/-- from H to H3 nothing changed but the lists at a, S, T -/
def But3 (a S T : Addr) (H H3 : Hp) : Prop := ∀ l o, l ≠ a → l ≠ S → l ≠ T → H l = some o → H3 l = some o
theorem But3.kept {a S T : Addr} {H H3 : Hp} {fp : List Addr} (k : But3 a S T H H3) (ha : ∃ xs, H a = some (.lst xs)) (hS : ∃ xs, H S = some (.lst xs)) (hT : ∃ xs, H T = some (.lst xs)) (h : ∀ l ∈ fp, (∃ xs, H l = some (.lst xs)) ∧ l ≠ a ∧ l ≠ S ∧ l ≠ T) : Kept fp H H3 := by
  obtain ⟨x1, ha⟩ := ha
  obtain ⟨x2, hS⟩ := hS
  obtain ⟨x3, hT⟩ := hT
  refine ⟨fun t xs q => k t _ (ne_of q ha fun z => nomatch z) (ne_of q hS fun z => nomatch z) (ne_of q hT fun z => nomatch z) q, fun l hl => ?_⟩
  obtain ⟨⟨xs, q⟩, h1, h2, h3⟩ := h l hl
  rw [q, k l _ h1 h2 h3 q]
/-- a block is opened: lets es and its row are put to the top, its list c is the new top -/
theorem Zip.open {F H H3 : Hp} {ns : List Str} {S T a : Addr} {bs : List Addr} {vs : List V} {ts : List Str} {n : Nat} (z : Zip F H ns S T a bs vs ts n) {t c : Addr} {kd : Kd} {s x : Str} {ws : List V} {es : List Row} (k : But3 a S T H H3)
    (hc : H c = none) (hc3 : H3 c = some (.lst [])) (ht : H3 t = some (.tup [.str kd.nm, .str s, .ref c])) (hs : s ∈ ns) (hx : x = "" ∨ x ∈ ns) (hl : bs.length < 3)
    (hA : H3 a = some (.lst (vs ++ ws ++ [.ref t]))) (he : AllIn H3 ws es []) (hok : RowsOk ns es) (hde : deps es = 0) (hS : H3 S = some (.lst ((c :: a :: bs).reverse.map V.ref))) (hT : H3 T = some (.lst ((ts ++ [x]).map V.str))) :
    Zip F H3 ns S T c (a :: bs) [] (ts ++ [x]) (n + cnts es + 1) := by
  obtain ⟨rs, f, ls, g, h1, h2, h3, h4, h5, h6, h7⟩ := z.ex
  have nd := h3
  rw [List.nodup_cons, List.nodup_cons, List.nodup_cons] at nd
  obtain ⟨n1, n2, n3, n4⟩ := nd
  have nS : ∀ l ∈ T :: a :: (f ++ g), l ≠ S := fun l hl q => n1 (q ▸ hl)
  have nT : ∀ l ∈ a :: (f ++ g), l ≠ T := fun l hl q => n2 (q ▸ hl)
  have na : ∀ l ∈ f ++ g, l ≠ a := fun l hl q => n3 (q ▸ hl)
  have at1 : ∀ l ∈ f ++ g, ∃ xs, H l = some (.lst xs) := fun l hl => (List.mem_append.mp hl).elim (h1.at l) (h2.at l)
  have K : Kept (f ++ g) H H3 := k.kept ⟨_, z.ha⟩ ⟨_, z.hS⟩ ⟨_, z.hT⟩ fun l hl => ⟨at1 l hl, na l hl, nS l (List.mem_cons_of_mem _ (List.mem_cons_of_mem _ hl)), nT l (List.mem_cons_of_mem _ hl)⟩
  have cn : ∀ l o, H l = some o → l ≠ c := fun l o q e => by rw [e, hc] at q; cases q
  have Fc : F c = none := z.fh.free hc
  have e1 : AllIn H3 (vs ++ ws) (rs ++ es) f := by
    have := (h1.keep K.left).append he
    rw [List.append_nil] at this
    exact this
  have d1 : deps (rs ++ es) = deps rs := by rw [deps_append, hde]; simp
  refine ⟨⟨[], [], (rs ++ es) :: ls, a :: (f ++ g), .nil, .cons hA ht hs e1 (RowsOk_append h5 hok) (by rw [d1]; exact h6) (h2.keep K.right), ?_, ?_, by rw [RowsOk]; trivial, by rw [deps, List.length_cons]; omega, ?_⟩, hS, hT, hc3, by rw [List.length_append, List.length_cons, z.lt]; rfl, ?_, by rw [List.length_cons]; omega, ?_⟩
  · rw [List.nil_append, List.nodup_cons, List.nodup_cons, List.nodup_cons]
    refine ⟨fun q => ?_, fun q => ?_, fun q => ?_, List.nodup_cons.mpr ⟨n3, n4⟩⟩
    · rcases List.mem_cons.mp q with q | q
      · exact n1 (q ▸ List.mem_cons_self)
      · rcases List.mem_cons.mp q with q | q
        · exact cn S _ z.hS q
        · exact n1 (List.mem_cons_of_mem _ q)
    · rcases List.mem_cons.mp q with q | q
      · exact cn T _ z.hT q
      · exact n2 q
    · rcases List.mem_cons.mp q with q | q
      · exact cn a _ z.ha q.symm
      · obtain ⟨xs, e⟩ := at1 c q
        exact cn c _ e rfl
  · intro l hl
    rcases List.mem_cons.mp hl with rfl | hl
    · exact h4 _ (by simp)
    rcases List.mem_cons.mp hl with rfl | hl
    · exact h4 _ (by simp)
    rcases List.mem_cons.mp hl with rfl | hl
    · exact Fc
    · exact h4 l (List.mem_cons_of_mem _ (List.mem_cons_of_mem _ hl))
  · rw [cnts, total, cnts_append]
    omega
  · intro y hy
    rcases List.mem_append.mp hy with hy | hy
    · exact z.nm y hy
    · rw [List.mem_singleton] at hy
      exact hy ▸ hx
  · intro b o q
    have nb : ∀ l ∈ S :: T :: a :: (f ++ g), b ≠ l := fun l hl e => by have := h4 l hl; rw [← e, q] at this; cases this
    exact k b o (nb a (by simp)) (nb S (by simp)) (nb T (by simp)) (z.fh b o q)
/-- a block is closed: lets es are put to the top, which is the row of the next list then -/
theorem Zip.close {F H H3 : Hp} {ns : List Str} {S T a b : Addr} {bs : List Addr} {vs : List V} {ts : List Str} {n : Nat} (z : Zip F H ns S T a (b :: bs) vs ts n) {ws : List V} {es : List Row} (k : But3 a S T H H3)
    (hA : H3 a = some (.lst (vs ++ ws))) (he : AllIn H3 ws es []) (hok : RowsOk ns es) (hde : deps es = 0) (hS : H3 S = some (.lst ((b :: bs).reverse.map V.ref))) (hT : H3 T = some (.lst (ts.dropLast.map V.str))) :
    ∃ us, Zip F H3 ns S T b bs us ts.dropLast (n + cnts es) := by
  obtain ⟨rs, f, ls, g, h1, h2, h3, h4, h5, h6, h7⟩ := z.ex
  have nd := h3
  rw [List.nodup_cons, List.nodup_cons, List.nodup_cons] at nd
  obtain ⟨n1, n2, n3, n4⟩ := nd
  have nS : ∀ l ∈ T :: a :: (f ++ g), l ≠ S := fun l hl q => n1 (q ▸ hl)
  have nT : ∀ l ∈ a :: (f ++ g), l ≠ T := fun l hl q => n2 (q ▸ hl)
  have na : ∀ l ∈ f ++ g, l ≠ a := fun l hl q => n3 (q ▸ hl)
  have at1 : ∀ l ∈ f ++ g, ∃ xs, H l = some (.lst xs) := fun l hl => (List.mem_append.mp hl).elim (h1.at l) (h2.at l)
  have K : Kept (f ++ g) H H3 := k.kept ⟨_, z.ha⟩ ⟨_, z.hS⟩ ⟨_, z.hT⟩ fun l hl => ⟨at1 l hl, na l hl, nS l (List.mem_cons_of_mem _ (List.mem_cons_of_mem _ hl)), nT l (List.mem_cons_of_mem _ hl)⟩
  have e1 : AllIn H3 (vs ++ ws) (rs ++ es) f := by
    have := (h1.keep K.left).append he
    rw [List.append_nil] at this
    exact this
  have d1 : deps (rs ++ es) = deps rs := by rw [deps_append, hde]; simp
  have lz := z.lt
  have l3 := z.l3
  have zn := z.nm
  rw [List.length_cons] at lz l3 h6
  cases h2 with
  | @cons _ _ t _ us kd s ss ls' g1 g' hb ht hs ha ok hd hl =>
    have hb3 : H3 b = some (.lst (us ++ [.ref t])) := by rw [K.right.2 b List.mem_cons_self]; exact hb
    have ht3 := K.1 _ _ ht
    have hrow : RowIn H3 (.ref t) (.blk kd s (rs ++ es)) (a :: f) := .blk ht3 (.mk hA e1)
    refine ⟨us ++ [.ref t], ⟨ss ++ [.blk kd s (rs ++ es)], g1 ++ (a :: f), ls', g', (ha.keep K.right.tail.left).snoc hrow, hl.keep K.right.tail.right, ?_, ?_, RowsOk_append ok (RowsOk_one (by rw [RowOk]; exact ⟨hs, RowsOk_append h5 hok⟩)), ?_, ?_⟩, hS, hT, hb3, by rw [List.length_dropLast, lz]; rfl, fun y hy => zn y (List.dropLast_subset _ hy), by omega, ?_⟩
    · refine (List.Perm.nodup_iff ?_).mp h3
      refine List.Perm.cons _ (List.Perm.cons _ ?_)
      have p1 : (a :: (f ++ b :: (g1 ++ g'))).Perm (b :: ((a :: f) ++ (g1 ++ g'))) := by
        rw [← List.cons_append]
        exact List.perm_middle
      refine p1.trans (List.Perm.cons _ ?_)
      rw [← List.append_assoc]
      exact List.Perm.append_right _ List.perm_append_comm
    · intro l hl
      refine h4 l ?_
      simp only [List.mem_cons, List.mem_append] at hl ⊢
      rcases hl with h | h | h | (h | h | h) | h <;> simp [h]
    · rw [deps_append, deps, deps, Row.dep, d1]
      simp only [Nat.max_zero, Nat.zero_max]
      omega
    · rw [cnts_append, cnts, cnts, Row.cnt, cnts_append]
      rw [total] at h7
      omega
    · intro c o q
      have nb : ∀ l ∈ S :: T :: a :: (f ++ b :: (g1 ++ g')), c ≠ l := fun l hl e => by have := h4 l hl; rw [← e, q] at this; cases this
      exact k c o (nb a (by simp)) (nb S (by simp)) (nb T (by simp)) (z.fh c o q)
/-- all is closed -/
theorem Zip.done {F H : Hp} {ns : List Str} {S T a : Addr} {vs : List V} {ts : List Str} {n : Nat} (z : Zip F H ns S T a [] vs ts n) : ∃ rs fp, RowsIn H a rs fp ∧ RowsOk ns rs ∧ deps rs ≤ 3 ∧ cnts rs ≤ n ∧ Same F H ∧ fp.Nodup ∧ ∀ l ∈ fp, F l = none := by
  obtain ⟨rs, f, ls, g, h1, h2, h3, h4, h5, h6, h7⟩ := z.ex
  refine ⟨rs, a :: f, .mk z.ha h1, h5, h6, by omega, z.fh, (List.nodup_append.mp (show ((a :: f) ++ g).Nodup from (List.nodup_cons.mp (List.nodup_cons.mp h3).2).2)).1, fun l hl => h4 l ?_⟩
  simp only [List.mem_cons, List.mem_append] at hl ⊢
  rcases hl with h | h <;> simp [h]
end LM
local macro_rules | `(tactic| wtm_at "lm.at") => `(tactic| (repeat (with_reducible first | exact LM.At.here | apply LM.At.there)))
local macro_rules | `(tactic| wtm_at "lm.put") => `(tactic| (repeat (with_reducible first | exact LM.Put.here | apply LM.Put.there)))
local macro_rules | `(tactic| wtm_at "lm.wip") => `(tactic| (repeat (with_reducible first | exact LM.Wip.here | apply LM.Wip.there)))
local macro_rules | `(tactic| wtm_at "lm.mem") => `(tactic| (repeat (with_reducible first | exact List.mem_cons_self | apply List.mem_cons_of_mem)))
local macro_rules | `(tactic| wtm_at "lm.h") => `(tactic| with_reducible first
  | assumption
  | exact L2.upd_same
  | (apply L2.SqL.of; wtm_at "lm.h"; done)
  | (apply L2.SqT.of; wtm_at "lm.h"; done)
  | (apply L2.Rd.of; wtm_at "lm.h"; done)
  | (apply LM.sq_all; assumption)
  | (apply L2.Same.seq; assumption; wtm_at "lm.h"; done)
  | (apply LM.Same.sqt; assumption; wtm_at "lm.h"; done)
  | (apply LM.Same.rd; assumption; wtm_at "lm.h"; done)
  | (apply LM.Same.at; assumption; wtm_at "lm.h"; done))
local macro_rules | `(tactic| wtm_at "lm.e") => `(tactic| with_reducible first
  | (refine' LM.w_name (by assumption) ?k1 ?k2 ?_; (case k1 => wtm_at "lm.at"); (case k2 => wtm_at "lm.mem"))
  | refine LM.w_int ?_
  | refine LM.w_str ?_
  | (refine' LM.w_globR (by assumption) ?k1 ?k2 ?_; (case k2 => assumption); (case k1 => wtm_at "lm.mem"))
  | (refine' LM.w_globI (by assumption) ?k1 ?k2 ?_; (case k2 => assumption); (case k1 => wtm_at "lm.mem"))
  | (refine' LM.w_globS (by assumption) ?k1 ?k2 ?_; (case k2 => assumption); (case k1 => wtm_at "lm.mem"))
  | (refine' LM.w_dix (L2.hu_of (by assumption)) ?k1 ?_; (case k1 => with_unfolding_all (refine LM.noSl_str)))
  | (refine' LM.w_ix ?k1 ?_; (case k1 => with_unfolding_all (intro _ _; rfl)))
  | refine LM.w_op ?_
  | (refine LM.w_cmp (L2.nomark _) ?_)
  | (refine' LM.w_cmp ?k1 ?_; (case k1 => with_unfolding_all rfl))
  | refine LM.w_slice ?_
  | refine LM.w_tup ?_
  | refine LM.w_lst ?_
  | (refine' LM.w_call (by assumption) ?k1 (by assumption) ?k2 ?k3 ?_ ?k4 ?k5; (case k1 => assumption); (case k2 => (first | omega | decide)); (case k3 => wtm_at "lm.mem"); (case k4 => with_unfolding_all rfl); (case k5 => with_unfolding_all rfl))
  | (refine' LM.w_callB (by assumption) ?k1 ?k2 ?k3 ?_ ?k4 ?k5; (case k3 => first | exact PySem.boot_len | exact PyProof.Rows.boot_isinstance | exact LM.boot_max | exact LM.boot_min | exact PyProof.Rows.boot_sorted | exact LM.boot_all | exact LM.boot_sum); (case k1 => wtm_at "lm.mem"); (case k2 => assumption); (case k4 => with_unfolding_all rfl); (case k5 => with_unfolding_all rfl))
  | (refine' LM.w_callTy (by assumption) ?k1 ?k2 ?k3 ?_ ?k4 ?k5; (case k3 => first | exact PyProof.Rows.boot_int | exact PyProof.Rows.boot_str | exact PyProof.Rows.boot_list | exact PyProof.Rows.boot_dict); (case k1 => wtm_at "lm.mem"); (case k2 => assumption); (case k4 => with_unfolding_all rfl); (case k5 => with_unfolding_all rfl))
  | (refine' LM.w_append ?_ ?k1 ?k2 ?k3 ?k4 ?k5; (case k1 => with_unfolding_all rfl); (case k2 => with_unfolding_all rfl); (case k3 => with_unfolding_all rfl); (case k4 => with_unfolding_all rfl); (case k5 => with_unfolding_all rfl))
  | (refine' LM.w_extend ?_ ?k1 ?k2 ?k3 ?k4 ?k5; (case k1 => with_unfolding_all rfl); (case k2 => with_unfolding_all rfl); (case k3 => with_unfolding_all rfl); (case k4 => with_unfolding_all rfl); (case k5 => with_unfolding_all rfl))
  | (refine' LM.w_get2 (L2.hu_of (by assumption)) ?_ ?k1; (case k1 => with_unfolding_all exact ⟨rfl, rfl, rfl, rfl⟩))
  | (refine' LM.w_pop ?_ ?k1 ?k2; (case k1 => with_unfolding_all rfl); (case k2 => with_unfolding_all rfl))
  | (refine' LM.w_ty (by assumption) ?k1 ?k2 ?k3 ?_; (case k3 => first | exact PyProof.Rows.boot_int | exact PyProof.Rows.boot_str | exact PyProof.Rows.boot_list | exact PyProof.Rows.boot_tuple | exact PyProof.Rows.boot_bool | exact PyProof.Rows.boot_dict); (case k1 => wtm_at "lm.mem"); (case k2 => assumption))
  | refine LM.w_bl ?_
  | refine LM.w_non ?_
  | refine LM.w_dict0 ?_
  | refine LM.w_neg ?_
  | refine LM.w_not ?_
  | refine LM.w_and ?_
  | refine LM.w_or ?_
  | refine LM.w_one ?_
  | refine LM.w_ifExp ?_
  | (refine' LM.w_join ?_ ?k1 ?k2 ?k3; (case k1 => with_unfolding_all rfl); (case k2 => with_unfolding_all rfl); (case k3 => with_unfolding_all rfl))
)
local macro_rules | `(tactic| wtm_at "lm.t") => `(tactic| with_reducible first
  | (refine LM.t_cmp (L2.nomark _) ?_)
  | (refine' LM.t_cmp ?k1 ?_; (case k1 => with_unfolding_all rfl))
  | refine LM.t_not ?_
  | refine LM.t_bool ?_
  | (refine' LM.t_truth ?k1 ?_; (case k1 => with_unfolding_all (intro _; rfl)))
)
local macro_rules | `(tactic| wtm_at "lm.ww") => `(tactic| with_reducible first
  | refine LM.ww_and ?_
  | refine LM.ww_and1 ?_
  | refine LM.ww_or ?_
  | refine LM.ww_or1 ?_
)
local macro_rules | `(tactic| wtm_at "lm.b") => `(tactic| with_reducible first
  | refine LM.b_add ?_
  | refine LM.b_sub ?_
  | (refine LM.b_mod (by decide) ?_)
  | (refine' LM.b_div ?k1 ?_; (case k1 => with_unfolding_all exact ⟨by decide, by decide⟩))
  | (refine' LM.b_mul ?k1 ?_; (case k1 => with_unfolding_all first | exact .inl (by decide) | exact .inr (by decide)))
)
local macro_rules | `(tactic| wtm_at "lm.cm") => `(tactic| with_reducible first
  | refine LM.c_lt ?_
  | refine LM.c_gt ?_
  | refine LM.c_le ?_
  | refine LM.c_ge ?_
  | refine LM.c_eqI ?_
  | refine LM.c_neI ?_
  | refine LM.c_eqS ?_
  | refine LM.c_neS ?_
  | (refine' LM.c_inT ?k1 ?k2 ?k3 ?_; (case k1 => wtm_at "lm.h"); (case k2 => with_unfolding_all rfl); (case k3 => with_unfolding_all rfl))
)
local macro_rules | `(tactic| wtm_at "lm.ki") => `(tactic| with_reducible first
  | refine LM.ki_str_str ?_
  | refine LM.ki_str_int ?_
  | refine LM.ki_str_bool ?_
  | refine LM.ki_str_list ?_
  | refine LM.ki_str_tuple ?_
  | refine LM.ki_str_dict ?_
  | refine LM.ki_int_str ?_
  | refine LM.ki_int_int ?_
  | refine LM.ki_int_bool ?_
  | refine LM.ki_int_list ?_
  | refine LM.ki_int_tuple ?_
  | refine LM.ki_int_dict ?_
  | refine LM.ki_bool_str ?_
  | refine LM.ki_bool_int ?_
  | refine LM.ki_bool_bool ?_
  | refine LM.ki_bool_list ?_
  | refine LM.ki_bool_tuple ?_
  | refine LM.ki_bool_dict ?_
  | refine LM.ki_NoneType_str ?_
  | refine LM.ki_NoneType_int ?_
  | refine LM.ki_NoneType_bool ?_
  | refine LM.ki_NoneType_list ?_
  | refine LM.ki_NoneType_tuple ?_
  | refine LM.ki_NoneType_dict ?_
  | (refine' LM.ki_list_str ?k1 ?_; (case k1 => wtm_at "lm.h"))
  | (refine' LM.ki_list_int ?k1 ?_; (case k1 => wtm_at "lm.h"))
  | (refine' LM.ki_list_bool ?k1 ?_; (case k1 => wtm_at "lm.h"))
  | (refine' LM.ki_list_list ?k1 ?_; (case k1 => wtm_at "lm.h"))
  | (refine' LM.ki_list_tuple ?k1 ?_; (case k1 => wtm_at "lm.h"))
  | (refine' LM.ki_list_dict ?k1 ?_; (case k1 => wtm_at "lm.h"))
  | (refine' LM.ki_tuple_str ?k1 ?_; (case k1 => wtm_at "lm.h"))
  | (refine' LM.ki_tuple_int ?k1 ?_; (case k1 => wtm_at "lm.h"))
  | (refine' LM.ki_tuple_bool ?k1 ?_; (case k1 => wtm_at "lm.h"))
  | (refine' LM.ki_tuple_list ?k1 ?_; (case k1 => wtm_at "lm.h"))
  | (refine' LM.ki_tuple_tuple ?k1 ?_; (case k1 => wtm_at "lm.h"))
  | (refine' LM.ki_tuple_dict ?k1 ?_; (case k1 => wtm_at "lm.h"))
  | (refine' LM.ki_dict_str ?k1 ?_; (case k1 => wtm_at "lm.h"))
  | (refine' LM.ki_dict_int ?k1 ?_; (case k1 => wtm_at "lm.h"))
  | (refine' LM.ki_dict_bool ?k1 ?_; (case k1 => wtm_at "lm.h"))
  | (refine' LM.ki_dict_list ?k1 ?_; (case k1 => wtm_at "lm.h"))
  | (refine' LM.ki_dict_tuple ?k1 ?_; (case k1 => wtm_at "lm.h"))
  | (refine' LM.ki_dict_dict ?k1 ?_; (case k1 => wtm_at "lm.h"))
)
local macro_rules | `(tactic| wtm_at "lm.k") => `(tactic| with_reducible first
  | (refine' LM.k_lenL ?k1 ?_; (case k1 => wtm_at "lm.h"))
  | (refine' LM.k_lenT ?k1 ?_; (case k1 => wtm_at "lm.h"))
  | refine LM.k_intb ?_
  | (refine LM.k_max (by assumption) ?_)
  | (refine LM.k_min (by assumption) ?_)
)
local macro_rules | `(tactic| wtm_at "lm.a") => `(tactic| with_reducible first
  | refine LM.a_nil ?_
  | (refine' LM.a_cons ?_ ?k1; (case k1 => with_unfolding_all rfl))
)
local macro_rules | `(tactic| wtm_at "lm.x") => `(tactic| with_reducible first
  | (refine' LM.ex_put ?k1 ?_; (case k1 => wtm_at "lm.put"))
  | (refine' LM.ex_len ?k1 ?_; (case k1 => with_unfolding_all rfl))
  | (refine' LM.o_int ?_)
  | refine LM.x_bl ?_
  | refine LM.x_str ?_
  | refine LM.x_int ?_
  | refine LM.x_tbl ?_
  | (refine' LM.x_sq ?k1 ?_; (case k1 => wtm_at "lm.h"))
  | (refine' LM.x_st ?k1 ?_; (case k1 => wtm_at "lm.h"))
  | refine LM.ite_T ?_
  | refine LM.ite_F ?_
  | refine LM.ite_nT ?_
  | refine LM.ite_nF ?_
  | refine LM.nx_mk ?_
  | refine LM.rt_mk ?_
  | (refine' LM.ite_bT ?k1 ?_; (case k1 => first | exact LM.in_blocks _ | with_unfolding_all decide +kernel))
  | (refine' LM.ite_bF ?k1 ?_; (case k1 => first | exact LM.kd_let _ | exact LM.kd_say _ | with_unfolding_all decide +kernel))
  | (refine' LM.ite_lenT ?k1 ?_; (case k1 => with_unfolding_all rfl))
  | (refine' LM.ite_lenF ?k1 ?_; (case k1 => with_unfolding_all rfl))
  | (refine' LM.ite_nlT ?k1 ?_; (case k1 => with_unfolding_all rfl))
  | (refine' LM.ite_nlF ?k1 ?_; (case k1 => with_unfolding_all rfl))
)
local macro_rules | `(tactic| wtm_at "lm.ix") => `(tactic| with_reducible first
  | (refine' LM.i_tup ?k1 ?k2 ?_; (case k1 => wtm_at "lm.h"); (case k2 => with_unfolding_all rfl))
  | (refine' LM.i_lst ?k1 ?k2 ?_; (case k1 => wtm_at "lm.h"); (case k2 => with_unfolding_all rfl))
)
local macro_rules | `(tactic| wtm_at "lm.s") => `(tactic| with_reducible first
  | refine LM.s_if ?_
  | refine LM.s_ret ?_
  | (refine' LM.s_set (by assumption) ?k1 ?_ ?k2; (case k1 => wtm_at "lm.mem"); (case k2 => with_unfolding_all rfl))
  | (refine' LM.s_for (by assumption) ?k1 ?_ ?k2; (case k1 => wtm_at "lm.mem"); (case k2 => with_unfolding_all (intro _; rfl)))
  | (refine' LM.s_expr ?_ ?k1; (case k1 => with_unfolding_all rfl))
  | (refine' LM.s_sub ?_ ?k1 ?k2 ?k3 ?k4; (case k1 => with_unfolding_all (intro _; rfl)); (case k2 => with_unfolding_all rfl); (case k3 => with_unfolding_all rfl); (case k4 => with_unfolding_all rfl))
  | refine LM.s_pass ?_
  | refine LM.s_retN ?_
)
local macro_rules | `(tactic| wtm_at "lm.ss") => `(tactic| with_reducible first
  | refine LM.s_nil ?_
  | refine LM.s_one ?_
)
local macro_rules | `(tactic| wtm_at "lm.w") => `(tactic| with_reducible first
  | (refine' LM.wi_range (by assumption) ?k1 ?k2 ?_ ?k3; (case k1 => wtm_at "lm.mem"); (case k2 => assumption); (case k3 => with_unfolding_all rfl))
)
local macro_rules | `(tactic| wtm_at "lms") => `(tactic| (repeat (first
  | (guard_target = LM.WE _ _ _ _ _; wtm_at "lm.e")
  | (guard_target = LM.WA _ _ _ _ _; wtm_at "lm.a")
  | (guard_target = LM.WB _ _ _ _ _ _; wtm_at "lm.b")
  | (guard_target = LM.WC _ _ _ _ _ _; wtm_at "lm.cm")
  | (guard_target = LM.WS _ _ _ _ _; wtm_at "lm.s")
  | (guard_target = LM.WSs _ _ _ _ _; wtm_at "lm.ss")
  | (guard_target = LM.WT _ _ _ _ _; wtm_at "lm.t")
  | (guard_target = LM.WW _ _ _ _ _; wtm_at "lm.ww")
  | (guard_target = LM.WB1 _ (PySem.Value.builtin "isinstance") _ _ _; wtm_at "lm.ki")
  | (guard_target = LM.WB1 _ _ _ _ _; wtm_at "lm.k")
  | (guard_target = LM.WO _ _ _ _ _; with_reducible first | refine LM.o_none ?_ | refine LM.o_some ?_)
  | (guard_target = LM.WI _ _ _ _ _; wtm_at "lm.ix")
  | (guard_target = LM.WI1 _ _ _ _ _ _; wtm_at "lm.w")
  | wtm_at "lm.x")))
local macro_rules | `(tactic| wtm_at "lm") => `(tactic| (repeat (first
  | (guard_target = LM.WE _ _ _ _ _; wtm_at "lm.e")
  | (guard_target = LM.WA _ _ _ _ _; wtm_at "lm.a")
  | (guard_target = LM.WB _ _ _ _ _ _; wtm_at "lm.b")
  | (guard_target = LM.WC _ _ _ _ _ _; wtm_at "lm.cm")
  | (guard_target = LM.WS _ _ _ _ _; wtm_at "lm.s")
  | (guard_target = LM.WSs _ _ _ _ _; (first | wtm_at "lm.ss" | (with_reducible refine LM.s_cons ?_)))
  | (guard_target = LM.WT _ _ _ _ _; wtm_at "lm.t")
  | (guard_target = LM.WW _ _ _ _ _; wtm_at "lm.ww")
  | (guard_target = LM.WB1 _ (PySem.Value.builtin "isinstance") _ _ _; wtm_at "lm.ki")
  | (guard_target = LM.WB1 _ _ _ _ _; wtm_at "lm.k")
  | (guard_target = LM.WO _ _ _ _ _; with_reducible first | refine LM.o_none ?_ | refine LM.o_some ?_)
  | (guard_target = LM.WI _ _ _ _ _; wtm_at "lm.ix")
  | (guard_target = LM.WI1 _ _ _ _ _ _; wtm_at "lm.w")
  | wtm_at "lm.x")))
namespace LM
open PySem PySem.Spec PyProof.Rows L2
def top (i : Nat) : Stmt := PySem.Challenge.pw_loopmover_k08_one_loop_saves.main.body.getD i (.Pass ⟨0, 0, 0, 0⟩)
abbrev s_p_gathered : Stmt := top 2
abbrev s_p_operands : Stmt := top 3
abbrev s_p_reads : Stmt := top 4
abbrev s_p_sets : Stmt := top 5
abbrev s_p_may_fail : Stmt := top 6
abbrev s_p_speaks : Stmt := top 7
abbrev s_p_goes_ahead : Stmt := top 9
abbrev s_p_parted : Stmt := top 10
abbrev s_p_copied : Stmt := top 11
abbrev s_l_cell_at : Stmt := top 13
abbrev s_l_mixed : Stmt := top 14
abbrev s_l_names : Stmt := top 15
abbrev s_l_value : Stmt := top 16
abbrev s_l_let : Stmt := top 17
abbrev s_l_given : Stmt := top 18
abbrev s_l_whole : Stmt := top 19
abbrev s_l_copied : Stmt := top 21
abbrev s_l_sound_row : Stmt := top 22
abbrev s_l_sound : Stmt := top 23
abbrev s_l_value_of : Stmt := top 24
abbrev s_l_step : Stmt := top 25
abbrev s_l_let_done : Stmt := top 26
abbrev s_l_row_done : Stmt := top 27
abbrev s_l_done : Stmt := top 28
abbrev s_l_tale : Stmt := top 29
abbrev s_law : Stmt := top 30
/-- what the module holds: its defs, its constants; the built-in names that it leaves alone -/
structure Txt (K : PySem.W.Frag) (mg : Str → Option Value) : Prop where
  d_p_gathered : Def K mg "gathered" s_p_gathered ["rows", "found", "is_read"]
  d_p_operands : Def K mg "operands" s_p_operands ["row"]
  d_p_reads : Def K mg "reads" s_p_reads ["rows"]
  d_p_sets : Def K mg "sets" s_p_sets ["rows"]
  d_p_may_fail : Def K mg "may_fail" s_p_may_fail ["rows"]
  d_p_speaks : Def K mg "speaks" s_p_speaks ["rows"]
  d_p_goes_ahead : Def K mg "goes_ahead" s_p_goes_ahead ["row", "staying", "behind"]
  d_p_parted : Def K mg "parted" s_p_parted ["body"]
  d_p_copied : Def K mg "copied" s_p_copied ["rows"]
  d_l_cell_at : Def K mg "_law_cell_at" s_l_cell_at ["_law_script", "_law_k"]
  d_l_mixed : Def K mg "_law_mixed" s_l_mixed ["_law_cell", "_law_k"]
  d_l_names : Def K mg "_law_names" s_l_names ["_law_cell"]
  d_l_value : Def K mg "_law_value" s_l_value ["_law_kind", "_law_number", "_law_names_here"]
  d_l_let : Def K mg "_law_let" s_l_let ["_law_number", "_law_names_here"]
  d_l_given : Def K mg "_law_given" s_l_given ["_law_cell", "_law_names_here"]
  d_l_whole : Def K mg "_law_whole" s_l_whole ["_law_found"]
  d_l_copied : Def K mg "_law_copied" s_l_copied ["_law_rows"]
  d_l_sound_row : Def K mg "_law_sound_row" s_l_sound_row ["_law_row"]
  d_l_sound : Def K mg "_law_sound" s_l_sound ["_law_rows"]
  d_l_value_of : Def K mg "_law_value_of" s_l_value_of ["_law_thing", "_law_tale_here"]
  d_l_step : Def K mg "_law_step" s_l_step ["_law_tale_here"]
  d_l_let_done : Def K mg "_law_let_done" s_l_let_done ["_law_row", "_law_tale_here"]
  d_l_row_done : Def K mg "_law_row_done" s_l_row_done ["_law_row", "_law_tale_here"]
  d_l_done : Def K mg "_law_done" s_l_done ["_law_rows", "_law_tale_here"]
  d_l_tale : Def K mg "_law_tale" s_l_tale ["_law_rows", "_law_given_here", "_law_most"]
  b_all : mg "all" = none
  b_bool : mg "bool" = none
  b_dict : mg "dict" = none
  b_int : mg "int" = none
  b_isinstance : mg "isinstance" = none
  b_len : mg "len" = none
  b_list : mg "list" = none
  b_max : mg "max" = none
  b_min : mg "min" = none
  b_range : mg "range" = none
  b_sorted : mg "sorted" = none
  b_str : mg "str" = none
  b_tuple : mg "tuple" = none
  c_BLOCKS : ∃ a, mg "BLOCKS" = some (.ref a) ∧ ∀ H, SqT K H a [.str "when", .str "loop", .str "again"]
section
variable {P : Program} {w : World} {K : PySem.W.Frag} {mg : Str → Option Value} {base : Heap}
abbrev ps_p_gathered : List Str := ["rows", "found", "is_read"]
abbrev G_p_gathered : List Str := ["BLOCKS", "gathered", "operands", "isinstance", "str"]
theorem go_p_gathered {k : Nat} {sp : Sp} (F : Def K mg "gathered" s_p_gathered ["rows", "found", "is_read"]) (len : ∀ vs H Q E, sp vs H Q E → vs.length = 3)
    (hbody : ∀ X : Cx, X.prog = P → X.w = w → X.K = K → X.mg = mg → X.base = base → Fr X ["rows", "found", "is_read", "row", "thing"] ["rows", "found", "is_read", "row", "thing"] ["rows", "found", "is_read", "row", "thing"] ["BLOCKS", "gathered", "operands", "isinstance", "str"] → X.env.scope = defScope s_p_gathered → Room k X.A → ∀ (vs : List V) (H : Hp) (Q : VK) (E : XK), sp vs H Q E → WSs X (defBody s_p_gathered) { nx := fun _ H' => Q .non H', rt := Q } (start ["rows", "found", "is_read", "row", "thing"] vs) H) :
    CallOk P w K mg base (k + 1) "gathered" ["rows", "found", "is_read"] sp := F.ok ⟨rfl, rfl, rfl, by decide +kernel, rfl, by decide +kernel, by decide +kernel⟩ (by decide +kernel) len hbody
abbrev ps_p_operands : List Str := ["row"]
abbrev G_p_operands : List Str := []
theorem go_p_operands {k : Nat} {sp : Sp} (F : Def K mg "operands" s_p_operands ["row"]) (len : ∀ vs H Q E, sp vs H Q E → vs.length = 1)
    (hbody : ∀ X : Cx, X.prog = P → X.w = w → X.K = K → X.mg = mg → X.base = base → Fr X ["row"] ["row"] ["row"] [] → X.env.scope = defScope s_p_operands → Room k X.A → ∀ (vs : List V) (H : Hp) (Q : VK) (E : XK), sp vs H Q E → WSs X (defBody s_p_operands) { nx := fun _ H' => Q .non H', rt := Q } (start ["row"] vs) H) :
    CallOk P w K mg base (k + 1) "operands" ["row"] sp := F.ok ⟨rfl, rfl, rfl, by decide +kernel, rfl, by decide +kernel, by decide +kernel⟩ (by decide +kernel) len hbody
abbrev ps_p_reads : List Str := ["rows"]
abbrev G_p_reads : List Str := ["gathered", "sorted"]
theorem go_p_reads {k : Nat} {sp : Sp} (F : Def K mg "reads" s_p_reads ["rows"]) (len : ∀ vs H Q E, sp vs H Q E → vs.length = 1)
    (hbody : ∀ X : Cx, X.prog = P → X.w = w → X.K = K → X.mg = mg → X.base = base → Fr X ["rows", "found"] ["rows", "found"] ["rows", "found"] ["gathered", "sorted"] → X.env.scope = defScope s_p_reads → Room k X.A → ∀ (vs : List V) (H : Hp) (Q : VK) (E : XK), sp vs H Q E → WSs X (defBody s_p_reads) { nx := fun _ H' => Q .non H', rt := Q } (start ["rows", "found"] vs) H) :
    CallOk P w K mg base (k + 1) "reads" ["rows"] sp := F.ok ⟨rfl, rfl, rfl, by decide +kernel, rfl, by decide +kernel, by decide +kernel⟩ (by decide +kernel) len hbody
abbrev ps_p_sets : List Str := ["rows"]
abbrev G_p_sets : List Str := ["gathered", "sorted"]
theorem go_p_sets {k : Nat} {sp : Sp} (F : Def K mg "sets" s_p_sets ["rows"]) (len : ∀ vs H Q E, sp vs H Q E → vs.length = 1)
    (hbody : ∀ X : Cx, X.prog = P → X.w = w → X.K = K → X.mg = mg → X.base = base → Fr X ["rows", "found"] ["rows", "found"] ["rows", "found"] ["gathered", "sorted"] → X.env.scope = defScope s_p_sets → Room k X.A → ∀ (vs : List V) (H : Hp) (Q : VK) (E : XK), sp vs H Q E → WSs X (defBody s_p_sets) { nx := fun _ H' => Q .non H', rt := Q } (start ["rows", "found"] vs) H) :
    CallOk P w K mg base (k + 1) "sets" ["rows"] sp := F.ok ⟨rfl, rfl, rfl, by decide +kernel, rfl, by decide +kernel, by decide +kernel⟩ (by decide +kernel) len hbody
abbrev ps_p_may_fail : List Str := ["rows"]
abbrev G_p_may_fail : List Str := ["BLOCKS", "may_fail", "isinstance", "str"]
theorem go_p_may_fail {k : Nat} {sp : Sp} (F : Def K mg "may_fail" s_p_may_fail ["rows"]) (len : ∀ vs H Q E, sp vs H Q E → vs.length = 1)
    (hbody : ∀ X : Cx, X.prog = P → X.w = w → X.K = K → X.mg = mg → X.base = base → Fr X ["rows", "row"] ["rows", "row"] ["rows", "row"] ["BLOCKS", "may_fail", "isinstance", "str"] → X.env.scope = defScope s_p_may_fail → Room k X.A → ∀ (vs : List V) (H : Hp) (Q : VK) (E : XK), sp vs H Q E → WSs X (defBody s_p_may_fail) { nx := fun _ H' => Q .non H', rt := Q } (start ["rows", "row"] vs) H) :
    CallOk P w K mg base (k + 1) "may_fail" ["rows"] sp := F.ok ⟨rfl, rfl, rfl, by decide +kernel, rfl, by decide +kernel, by decide +kernel⟩ (by decide +kernel) len hbody
abbrev ps_p_speaks : List Str := ["rows"]
abbrev G_p_speaks : List Str := ["BLOCKS", "speaks"]
theorem go_p_speaks {k : Nat} {sp : Sp} (F : Def K mg "speaks" s_p_speaks ["rows"]) (len : ∀ vs H Q E, sp vs H Q E → vs.length = 1)
    (hbody : ∀ X : Cx, X.prog = P → X.w = w → X.K = K → X.mg = mg → X.base = base → Fr X ["rows", "row"] ["rows", "row"] ["rows", "row"] ["BLOCKS", "speaks"] → X.env.scope = defScope s_p_speaks → Room k X.A → ∀ (vs : List V) (H : Hp) (Q : VK) (E : XK), sp vs H Q E → WSs X (defBody s_p_speaks) { nx := fun _ H' => Q .non H', rt := Q } (start ["rows", "row"] vs) H) :
    CallOk P w K mg base (k + 1) "speaks" ["rows"] sp := F.ok ⟨rfl, rfl, rfl, by decide +kernel, rfl, by decide +kernel, by decide +kernel⟩ (by decide +kernel) len hbody
abbrev ps_p_goes_ahead : List Str := ["row", "staying", "behind"]
abbrev G_p_goes_ahead : List Str := ["sets", "isinstance", "str", "reads", "may_fail", "speaks"]
theorem go_p_goes_ahead {k : Nat} {sp : Sp} (F : Def K mg "goes_ahead" s_p_goes_ahead ["row", "staying", "behind"]) (len : ∀ vs H Q E, sp vs H Q E → vs.length = 3)
    (hbody : ∀ X : Cx, X.prog = P → X.w = w → X.K = K → X.mg = mg → X.base = base → Fr X ["row", "staying", "behind", "others", "thing"] ["row", "staying", "behind", "others", "thing"] ["row", "staying", "behind", "others", "thing"] ["sets", "isinstance", "str", "reads", "may_fail", "speaks"] → X.env.scope = defScope s_p_goes_ahead → Room k X.A → ∀ (vs : List V) (H : Hp) (Q : VK) (E : XK), sp vs H Q E → WSs X (defBody s_p_goes_ahead) { nx := fun _ H' => Q .non H', rt := Q } (start ["row", "staying", "behind", "others", "thing"] vs) H) :
    CallOk P w K mg base (k + 1) "goes_ahead" ["row", "staying", "behind"] sp := F.ok ⟨rfl, rfl, rfl, by decide +kernel, rfl, by decide +kernel, by decide +kernel⟩ (by decide +kernel) len hbody
abbrev ps_p_parted : List Str := ["body"]
abbrev G_p_parted : List Str := ["range", "len", "goes_ahead", "copied"]
theorem go_p_parted {k : Nat} {sp : Sp} (F : Def K mg "parted" s_p_parted ["body"]) (len : ∀ vs H Q E, sp vs H Q E → vs.length = 1)
    (hbody : ∀ X : Cx, X.prog = P → X.w = w → X.K = K → X.mg = mg → X.base = base → Fr X ["body", "ahead", "staying", "k"] ["body", "ahead", "staying", "k"] ["body", "ahead", "staying", "k"] ["range", "len", "goes_ahead", "copied"] → X.env.scope = defScope s_p_parted → Room k X.A → ∀ (vs : List V) (H : Hp) (Q : VK) (E : XK), sp vs H Q E → WSs X (defBody s_p_parted) { nx := fun _ H' => Q .non H', rt := Q } (start ["body", "ahead", "staying", "k"] vs) H) :
    CallOk P w K mg base (k + 1) "parted" ["body"] sp := F.ok ⟨rfl, rfl, rfl, by decide +kernel, rfl, by decide +kernel, by decide +kernel⟩ (by decide +kernel) len hbody
abbrev ps_p_copied : List Str := ["rows"]
abbrev G_p_copied : List Str := ["len", "copied"]
theorem go_p_copied {k : Nat} {sp : Sp} (F : Def K mg "copied" s_p_copied ["rows"]) (len : ∀ vs H Q E, sp vs H Q E → vs.length = 1)
    (hbody : ∀ X : Cx, X.prog = P → X.w = w → X.K = K → X.mg = mg → X.base = base → Fr X ["rows", "made", "row"] ["rows", "made", "row"] ["rows", "made", "row"] ["len", "copied"] → X.env.scope = defScope s_p_copied → Room k X.A → ∀ (vs : List V) (H : Hp) (Q : VK) (E : XK), sp vs H Q E → WSs X (defBody s_p_copied) { nx := fun _ H' => Q .non H', rt := Q } (start ["rows", "made", "row"] vs) H) :
    CallOk P w K mg base (k + 1) "copied" ["rows"] sp := F.ok ⟨rfl, rfl, rfl, by decide +kernel, rfl, by decide +kernel, by decide +kernel⟩ (by decide +kernel) len hbody
abbrev ps_l_cell_at : List Str := ["_law_script", "_law_k"]
abbrev G_l_cell_at : List Str := ["len"]
theorem go_l_cell_at {k : Nat} {sp : Sp} (F : Def K mg "_law_cell_at" s_l_cell_at ["_law_script", "_law_k"]) (len : ∀ vs H Q E, sp vs H Q E → vs.length = 2)
    (hbody : ∀ X : Cx, X.prog = P → X.w = w → X.K = K → X.mg = mg → X.base = base → Fr X ["_law_script", "_law_k"] ["_law_script", "_law_k"] ["_law_script", "_law_k"] ["len"] → X.env.scope = defScope s_l_cell_at → Room k X.A → ∀ (vs : List V) (H : Hp) (Q : VK) (E : XK), sp vs H Q E → WSs X (defBody s_l_cell_at) { nx := fun _ H' => Q .non H', rt := Q } (start ["_law_script", "_law_k"] vs) H) :
    CallOk P w K mg base (k + 1) "_law_cell_at" ["_law_script", "_law_k"] sp := F.ok ⟨rfl, rfl, rfl, by decide +kernel, rfl, by decide +kernel, by decide +kernel⟩ (by decide +kernel) len hbody
abbrev ps_l_mixed : List Str := ["_law_cell", "_law_k"]
abbrev G_l_mixed : List Str := []
theorem go_l_mixed {k : Nat} {sp : Sp} (F : Def K mg "_law_mixed" s_l_mixed ["_law_cell", "_law_k"]) (len : ∀ vs H Q E, sp vs H Q E → vs.length = 2)
    (hbody : ∀ X : Cx, X.prog = P → X.w = w → X.K = K → X.mg = mg → X.base = base → Fr X ["_law_cell", "_law_k", "_law_number"] ["_law_cell", "_law_k", "_law_number"] ["_law_cell", "_law_k", "_law_number"] [] → X.env.scope = defScope s_l_mixed → Room k X.A → ∀ (vs : List V) (H : Hp) (Q : VK) (E : XK), sp vs H Q E → WSs X (defBody s_l_mixed) { nx := fun _ H' => Q .non H', rt := Q } (start ["_law_cell", "_law_k", "_law_number"] vs) H) :
    CallOk P w K mg base (k + 1) "_law_mixed" ["_law_cell", "_law_k"] sp := F.ok ⟨rfl, rfl, rfl, by decide +kernel, rfl, by decide +kernel, by decide +kernel⟩ (by decide +kernel) len hbody
abbrev ps_l_names : List Str := ["_law_cell"]
abbrev G_l_names : List Str := ["range"]
theorem go_l_names {k : Nat} {sp : Sp} (F : Def K mg "_law_names" s_l_names ["_law_cell"]) (len : ∀ vs H Q E, sp vs H Q E → vs.length = 1)
    (hbody : ∀ X : Cx, X.prog = P → X.w = w → X.K = K → X.mg = mg → X.base = base → Fr X ["_law_cell", "_law_letters", "_law_some", "_law_size", "_law_j", "_law_tail", "_law_k", "_law_word", "_law_place", "_law_words"] ["_law_cell", "_law_letters", "_law_some", "_law_size", "_law_j", "_law_tail", "_law_k", "_law_word", "_law_place", "_law_words"] ["_law_cell", "_law_letters", "_law_some", "_law_size", "_law_j", "_law_tail", "_law_k", "_law_word", "_law_place", "_law_words"] ["range"] → X.env.scope = defScope s_l_names → Room k X.A → ∀ (vs : List V) (H : Hp) (Q : VK) (E : XK), sp vs H Q E → WSs X (defBody s_l_names) { nx := fun _ H' => Q .non H', rt := Q } (start ["_law_cell", "_law_letters", "_law_some", "_law_size", "_law_j", "_law_tail", "_law_k", "_law_word", "_law_place", "_law_words"] vs) H) :
    CallOk P w K mg base (k + 1) "_law_names" ["_law_cell"] sp := F.ok ⟨rfl, rfl, rfl, by decide +kernel, rfl, by decide +kernel, by decide +kernel⟩ (by decide +kernel) len hbody
abbrev ps_l_value : List Str := ["_law_kind", "_law_number", "_law_names_here"]
abbrev G_l_value : List Str := []
theorem go_l_value {k : Nat} {sp : Sp} (F : Def K mg "_law_value" s_l_value ["_law_kind", "_law_number", "_law_names_here"]) (len : ∀ vs H Q E, sp vs H Q E → vs.length = 3)
    (hbody : ∀ X : Cx, X.prog = P → X.w = w → X.K = K → X.mg = mg → X.base = base → Fr X ["_law_kind", "_law_number", "_law_names_here"] ["_law_kind", "_law_number", "_law_names_here"] ["_law_kind", "_law_number", "_law_names_here"] [] → X.env.scope = defScope s_l_value → Room k X.A → ∀ (vs : List V) (H : Hp) (Q : VK) (E : XK), sp vs H Q E → WSs X (defBody s_l_value) { nx := fun _ H' => Q .non H', rt := Q } (start ["_law_kind", "_law_number", "_law_names_here"] vs) H) :
    CallOk P w K mg base (k + 1) "_law_value" ["_law_kind", "_law_number", "_law_names_here"] sp := F.ok ⟨rfl, rfl, rfl, by decide +kernel, rfl, by decide +kernel, by decide +kernel⟩ (by decide +kernel) len hbody
abbrev ps_l_let : List Str := ["_law_number", "_law_names_here"]
abbrev G_l_let : List Str := ["_law_value"]
theorem go_l_let {k : Nat} {sp : Sp} (F : Def K mg "_law_let" s_l_let ["_law_number", "_law_names_here"]) (len : ∀ vs H Q E, sp vs H Q E → vs.length = 2)
    (hbody : ∀ X : Cx, X.prog = P → X.w = w → X.K = K → X.mg = mg → X.base = base → Fr X ["_law_number", "_law_names_here", "_law_one", "_law_other"] ["_law_number", "_law_names_here", "_law_one", "_law_other"] ["_law_number", "_law_names_here", "_law_one", "_law_other"] ["_law_value"] → X.env.scope = defScope s_l_let → Room k X.A → ∀ (vs : List V) (H : Hp) (Q : VK) (E : XK), sp vs H Q E → WSs X (defBody s_l_let) { nx := fun _ H' => Q .non H', rt := Q } (start ["_law_number", "_law_names_here", "_law_one", "_law_other"] vs) H) :
    CallOk P w K mg base (k + 1) "_law_let" ["_law_number", "_law_names_here"] sp := F.ok ⟨rfl, rfl, rfl, by decide +kernel, rfl, by decide +kernel, by decide +kernel⟩ (by decide +kernel) len hbody
abbrev ps_l_given : List Str := ["_law_cell", "_law_names_here"]
abbrev G_l_given : List Str := ["range", "_law_mixed"]
theorem go_l_given {k : Nat} {sp : Sp} (F : Def K mg "_law_given" s_l_given ["_law_cell", "_law_names_here"]) (len : ∀ vs H Q E, sp vs H Q E → vs.length = 2)
    (hbody : ∀ X : Cx, X.prog = P → X.w = w → X.K = K → X.mg = mg → X.base = base → Fr X ["_law_cell", "_law_names_here", "_law_given_here", "_law_k", "_law_number"] ["_law_cell", "_law_names_here", "_law_given_here", "_law_k", "_law_number"] ["_law_cell", "_law_names_here", "_law_given_here", "_law_k", "_law_number"] ["range", "_law_mixed"] → X.env.scope = defScope s_l_given → Room k X.A → ∀ (vs : List V) (H : Hp) (Q : VK) (E : XK), sp vs H Q E → WSs X (defBody s_l_given) { nx := fun _ H' => Q .non H', rt := Q } (start ["_law_cell", "_law_names_here", "_law_given_here", "_law_k", "_law_number"] vs) H) :
    CallOk P w K mg base (k + 1) "_law_given" ["_law_cell", "_law_names_here"] sp := F.ok ⟨rfl, rfl, rfl, by decide +kernel, rfl, by decide +kernel, by decide +kernel⟩ (by decide +kernel) len hbody
abbrev ps_l_whole : List Str := ["_law_found"]
abbrev G_l_whole : List Str := ["isinstance", "int", "bool"]
theorem go_l_whole {k : Nat} {sp : Sp} (F : Def K mg "_law_whole" s_l_whole ["_law_found"]) (len : ∀ vs H Q E, sp vs H Q E → vs.length = 1)
    (hbody : ∀ X : Cx, X.prog = P → X.w = w → X.K = K → X.mg = mg → X.base = base → Fr X ["_law_found"] ["_law_found"] ["_law_found"] ["isinstance", "int", "bool"] → X.env.scope = defScope s_l_whole → Room k X.A → ∀ (vs : List V) (H : Hp) (Q : VK) (E : XK), sp vs H Q E → WSs X (defBody s_l_whole) { nx := fun _ H' => Q .non H', rt := Q } (start ["_law_found"] vs) H) :
    CallOk P w K mg base (k + 1) "_law_whole" ["_law_found"] sp := F.ok ⟨rfl, rfl, rfl, by decide +kernel, rfl, by decide +kernel, by decide +kernel⟩ (by decide +kernel) len hbody
abbrev ps_l_copied : List Str := ["_law_rows"]
abbrev G_l_copied : List Str := ["len", "_law_copied"]
theorem go_l_copied {k : Nat} {sp : Sp} (F : Def K mg "_law_copied" s_l_copied ["_law_rows"]) (len : ∀ vs H Q E, sp vs H Q E → vs.length = 1)
    (hbody : ∀ X : Cx, X.prog = P → X.w = w → X.K = K → X.mg = mg → X.base = base → Fr X ["_law_rows", "_law_made", "_law_row"] ["_law_rows", "_law_made", "_law_row"] ["_law_rows", "_law_made", "_law_row"] ["len", "_law_copied"] → X.env.scope = defScope s_l_copied → Room k X.A → ∀ (vs : List V) (H : Hp) (Q : VK) (E : XK), sp vs H Q E → WSs X (defBody s_l_copied) { nx := fun _ H' => Q .non H', rt := Q } (start ["_law_rows", "_law_made", "_law_row"] vs) H) :
    CallOk P w K mg base (k + 1) "_law_copied" ["_law_rows"] sp := F.ok ⟨rfl, rfl, rfl, by decide +kernel, rfl, by decide +kernel, by decide +kernel⟩ (by decide +kernel) len hbody
abbrev ps_l_sound_row : List Str := ["_law_row"]
abbrev G_l_sound_row : List Str := ["isinstance", "tuple", "len", "str", "_law_sound", "int", "_law_whole"]
theorem go_l_sound_row {k : Nat} {sp : Sp} (F : Def K mg "_law_sound_row" s_l_sound_row ["_law_row"]) (len : ∀ vs H Q E, sp vs H Q E → vs.length = 1)
    (hbody : ∀ X : Cx, X.prog = P → X.w = w → X.K = K → X.mg = mg → X.base = base → Fr X ["_law_row", "_law_thing"] ["_law_row", "_law_thing"] ["_law_row", "_law_thing"] ["isinstance", "tuple", "len", "str", "_law_sound", "int", "_law_whole"] → X.env.scope = defScope s_l_sound_row → Room k X.A → ∀ (vs : List V) (H : Hp) (Q : VK) (E : XK), sp vs H Q E → WSs X (defBody s_l_sound_row) { nx := fun _ H' => Q .non H', rt := Q } (start ["_law_row", "_law_thing"] vs) H) :
    CallOk P w K mg base (k + 1) "_law_sound_row" ["_law_row"] sp := F.ok ⟨rfl, rfl, rfl, by decide +kernel, rfl, by decide +kernel, by decide +kernel⟩ (by decide +kernel) len hbody
abbrev ps_l_sound : List Str := ["_law_rows"]
abbrev G_l_sound : List Str := ["isinstance", "list", "all"]
theorem go_l_sound {k : Nat} {sp : Sp} (F : Def K mg "_law_sound" s_l_sound ["_law_rows"]) (len : ∀ vs H Q E, sp vs H Q E → vs.length = 1)
    (hbody : ∀ X : Cx, X.prog = P → X.w = w → X.K = K → X.mg = mg → X.base = base → Fr X ["_law_rows", "_law_row"] ["_law_rows"] ["_law_rows"] ["isinstance", "list", "all"] → X.env.scope = defScope s_l_sound → Room k X.A → ∀ (vs : List V) (H : Hp) (Q : VK) (E : XK), sp vs H Q E → WSs X (defBody s_l_sound) { nx := fun _ H' => Q .non H', rt := Q } (start ["_law_rows", "_law_row"] vs) H) :
    CallOk P w K mg base (k + 1) "_law_sound" ["_law_rows"] sp := F.ok ⟨rfl, rfl, rfl, by decide +kernel, rfl, by decide +kernel, by decide +kernel⟩ (by decide +kernel) len hbody
abbrev ps_l_value_of : List Str := ["_law_thing", "_law_tale_here"]
abbrev G_l_value_of : List Str := ["isinstance", "str"]
theorem go_l_value_of {k : Nat} {sp : Sp} (F : Def K mg "_law_value_of" s_l_value_of ["_law_thing", "_law_tale_here"]) (len : ∀ vs H Q E, sp vs H Q E → vs.length = 2)
    (hbody : ∀ X : Cx, X.prog = P → X.w = w → X.K = K → X.mg = mg → X.base = base → Fr X ["_law_thing", "_law_tale_here"] ["_law_thing", "_law_tale_here"] ["_law_thing", "_law_tale_here"] ["isinstance", "str"] → X.env.scope = defScope s_l_value_of → Room k X.A → ∀ (vs : List V) (H : Hp) (Q : VK) (E : XK), sp vs H Q E → WSs X (defBody s_l_value_of) { nx := fun _ H' => Q .non H', rt := Q } (start ["_law_thing", "_law_tale_here"] vs) H) :
    CallOk P w K mg base (k + 1) "_law_value_of" ["_law_thing", "_law_tale_here"] sp := F.ok ⟨rfl, rfl, rfl, by decide +kernel, rfl, by decide +kernel, by decide +kernel⟩ (by decide +kernel) len hbody
abbrev ps_l_step : List Str := ["_law_tale_here"]
abbrev G_l_step : List Str := []
theorem go_l_step {k : Nat} {sp : Sp} (F : Def K mg "_law_step" s_l_step ["_law_tale_here"]) (len : ∀ vs H Q E, sp vs H Q E → vs.length = 1)
    (hbody : ∀ X : Cx, X.prog = P → X.w = w → X.K = K → X.mg = mg → X.base = base → Fr X ["_law_tale_here"] ["_law_tale_here"] ["_law_tale_here"] [] → X.env.scope = defScope s_l_step → Room k X.A → ∀ (vs : List V) (H : Hp) (Q : VK) (E : XK), sp vs H Q E → WSs X (defBody s_l_step) { nx := fun _ H' => Q .non H', rt := Q } (start ["_law_tale_here"] vs) H) :
    CallOk P w K mg base (k + 1) "_law_step" ["_law_tale_here"] sp := F.ok ⟨rfl, rfl, rfl, by decide +kernel, rfl, by decide +kernel, by decide +kernel⟩ (by decide +kernel) len hbody
abbrev ps_l_let_done : List Str := ["_law_row", "_law_tale_here"]
abbrev G_l_let_done : List Str := ["_law_value_of", "int"]
theorem go_l_let_done {k : Nat} {sp : Sp} (F : Def K mg "_law_let_done" s_l_let_done ["_law_row", "_law_tale_here"]) (len : ∀ vs H Q E, sp vs H Q E → vs.length = 2)
    (hbody : ∀ X : Cx, X.prog = P → X.w = w → X.K = K → X.mg = mg → X.base = base → Fr X ["_law_row", "_law_tale_here", "_law_one", "_law_other", "_law_came"] ["_law_row", "_law_tale_here", "_law_one", "_law_other", "_law_came"] ["_law_row", "_law_tale_here", "_law_one", "_law_other", "_law_came"] ["_law_value_of", "int"] → X.env.scope = defScope s_l_let_done → Room k X.A → ∀ (vs : List V) (H : Hp) (Q : VK) (E : XK), sp vs H Q E → WSs X (defBody s_l_let_done) { nx := fun _ H' => Q .non H', rt := Q } (start ["_law_row", "_law_tale_here", "_law_one", "_law_other", "_law_came"] vs) H) :
    CallOk P w K mg base (k + 1) "_law_let_done" ["_law_row", "_law_tale_here"] sp := F.ok ⟨rfl, rfl, rfl, by decide +kernel, rfl, by decide +kernel, by decide +kernel⟩ (by decide +kernel) len hbody
abbrev ps_l_row_done : List Str := ["_law_row", "_law_tale_here"]
abbrev G_l_row_done : List Str := ["_law_step", "_law_let_done", "_law_value_of", "_law_done"]
theorem go_l_row_done {k : Nat} {sp : Sp} (F : Def K mg "_law_row_done" s_l_row_done ["_law_row", "_law_tale_here"]) (len : ∀ vs H Q E, sp vs H Q E → vs.length = 2)
    (hbody : ∀ X : Cx, X.prog = P → X.w = w → X.K = K → X.mg = mg → X.base = base → Fr X ["_law_row", "_law_tale_here"] ["_law_row", "_law_tale_here"] ["_law_row", "_law_tale_here"] ["_law_step", "_law_let_done", "_law_value_of", "_law_done"] → X.env.scope = defScope s_l_row_done → Room k X.A → ∀ (vs : List V) (H : Hp) (Q : VK) (E : XK), sp vs H Q E → WSs X (defBody s_l_row_done) { nx := fun _ H' => Q .non H', rt := Q } (start ["_law_row", "_law_tale_here"] vs) H) :
    CallOk P w K mg base (k + 1) "_law_row_done" ["_law_row", "_law_tale_here"] sp := F.ok ⟨rfl, rfl, rfl, by decide +kernel, rfl, by decide +kernel, by decide +kernel⟩ (by decide +kernel) len hbody
abbrev ps_l_done : List Str := ["_law_rows", "_law_tale_here"]
abbrev G_l_done : List Str := ["_law_row_done"]
theorem go_l_done {k : Nat} {sp : Sp} (F : Def K mg "_law_done" s_l_done ["_law_rows", "_law_tale_here"]) (len : ∀ vs H Q E, sp vs H Q E → vs.length = 2)
    (hbody : ∀ X : Cx, X.prog = P → X.w = w → X.K = K → X.mg = mg → X.base = base → Fr X ["_law_rows", "_law_tale_here", "_law_row"] ["_law_rows", "_law_tale_here", "_law_row"] ["_law_rows", "_law_tale_here", "_law_row"] ["_law_row_done"] → X.env.scope = defScope s_l_done → Room k X.A → ∀ (vs : List V) (H : Hp) (Q : VK) (E : XK), sp vs H Q E → WSs X (defBody s_l_done) { nx := fun _ H' => Q .non H', rt := Q } (start ["_law_rows", "_law_tale_here", "_law_row"] vs) H) :
    CallOk P w K mg base (k + 1) "_law_done" ["_law_rows", "_law_tale_here"] sp := F.ok ⟨rfl, rfl, rfl, by decide +kernel, rfl, by decide +kernel, by decide +kernel⟩ (by decide +kernel) len hbody
abbrev ps_l_tale : List Str := ["_law_rows", "_law_given_here", "_law_most"]
abbrev G_l_tale : List Str := ["dict", "_law_done"]
theorem go_l_tale {k : Nat} {sp : Sp} (F : Def K mg "_law_tale" s_l_tale ["_law_rows", "_law_given_here", "_law_most"]) (len : ∀ vs H Q E, sp vs H Q E → vs.length = 3)
    (hbody : ∀ X : Cx, X.prog = P → X.w = w → X.K = K → X.mg = mg → X.base = base → Fr X ["_law_rows", "_law_given_here", "_law_most", "_law_tale_here"] ["_law_rows", "_law_given_here", "_law_most", "_law_tale_here"] ["_law_rows", "_law_given_here", "_law_most", "_law_tale_here"] ["dict", "_law_done"] → X.env.scope = defScope s_l_tale → Room k X.A → ∀ (vs : List V) (H : Hp) (Q : VK) (E : XK), sp vs H Q E → WSs X (defBody s_l_tale) { nx := fun _ H' => Q .non H', rt := Q } (start ["_law_rows", "_law_given_here", "_law_most", "_law_tale_here"] vs) H) :
    CallOk P w K mg base (k + 1) "_law_tale" ["_law_rows", "_law_given_here", "_law_most"] sp := F.ok ⟨rfl, rfl, rfl, by decide +kernel, rfl, by decide +kernel, by decide +kernel⟩ (by decide +kernel) len hbody
abbrev ps_law : List Str := ["_law_script"]
abbrev G_law : List Str := ["_law_names", "_law_cell_at", "_law_given", "range", "min", "len", "_law_mixed", "_law_let", "_law_value", "parted", "_law_copied", "isinstance", "tuple", "_law_sound", "_law_tale", "max"]
theorem go_law {k : Nat} {sp : Sp} {f : Addr} {fd : FuncData} (F : Fun K "law" "law" s_law f fd) (len : ∀ vs H Q E, sp vs H Q E → vs.length = 1)
    (hbody : ∀ X : Cx, X.prog = P → X.w = w → X.K = K → X.mg = mg → X.base = base → Fr X ["_law_script", "_law_names_here", "_law_given_here", "_law_rounds", "_law_body", "_law_k", "_law_number", "_law_row", "_law_found", "_law_begin", "_law_one", "_law_other"] ["_law_script", "_law_names_here", "_law_given_here", "_law_rounds", "_law_body", "_law_k", "_law_number", "_law_row", "_law_found", "_law_begin", "_law_one", "_law_other"] ["_law_script", "_law_names_here", "_law_given_here", "_law_rounds", "_law_body", "_law_k", "_law_number", "_law_row", "_law_found", "_law_begin", "_law_one", "_law_other"] ["_law_names", "_law_cell_at", "_law_given", "range", "min", "len", "_law_mixed", "_law_let", "_law_value", "parted", "_law_copied", "isinstance", "tuple", "_law_sound", "_law_tale", "max"] → X.env.scope = defScope s_law → Room k X.A → ∀ (vs : List V) (H : Hp) (Q : VK) (E : XK), sp vs H Q E → WSs X (defBody s_law) { nx := fun _ H' => Q .non H', rt := Q } (start ["_law_script", "_law_names_here", "_law_given_here", "_law_rounds", "_law_body", "_law_k", "_law_number", "_law_row", "_law_found", "_law_begin", "_law_one", "_law_other"] vs) H) :
    FnOk P w K mg base CX0 (k + 1) f fd ["_law_script"] sp := LM.Fun.okW F ⟨rfl, rfl, rfl, by decide +kernel, rfl, by decide +kernel, by decide +kernel⟩ (by decide +kernel) len hbody
end
/-! ### texts by their codes; what is a name; _law_names -/
def tx (l : List Nat) : Str := ⟨l.toArray⟩
theorem tx_append (l m : List Nat) : tx l ++ tx m = tx (l ++ m) := by
  show (⟨l.toArray ++ m.toArray⟩ : Str) = ⟨(l ++ m).toArray⟩
  rw [List.append_toArray]
theorem tx_length (l : List Nat) : (tx l).length = l.length := List.size_toArray
theorem tx_inj {l m : List Nat} (h : tx l = tx m) : l = m := by
  have e : l.toArray = m.toArray := congrArg Str.cps h
  have := congrArg Array.toList e
  simpa using this
theorem tx_of (s : Str) : s = tx s.cps.toList := by
  show s = (⟨s.cps.toList.toArray⟩ : Str)
  rw [Array.toArray_toList]
theorem cut_to (l : List Nat) (n : Nat) : cutS (tx l) none (some (n : Int)) = tx (l.take n) := by
  unfold cutS
  have e : (tx l).cps.toList = l := by simp [tx]
  rw [e, tx_length, HT.sIx_none, HT.sIx_nat]
  show tx ((l.drop 0).take (min n l.length - 0)) = tx (l.take n)
  rw [List.drop_zero, Nat.sub_zero]
  congr 1
  by_cases h : n ≤ l.length
  · rw [Nat.min_eq_left h]
  · rw [Nat.min_eq_right (by omega), List.take_of_length_le (by omega), List.take_of_length_le (by omega)]
theorem cut_from_to (l : List Nat) (a b : Nat) (ha : a ≤ l.length) (hb : b ≤ l.length) : cutS (tx l) (some (a : Int)) (some (b : Int)) = tx ((l.drop a).take (b - a)) := by
  unfold cutS
  have e : (tx l).cps.toList = l := by simp [tx]
  rw [e, tx_length, HT.sIx_nat, HT.sIx_nat, Nat.min_eq_left ha, Nat.min_eq_left hb]
  rfl
/-- the words of the rows -/
def reserved : List (List Nat) := [[115, 97, 121], [119, 104, 101, 110], [108, 111, 111, 112], [97, 103, 97, 105, 110], [101, 110, 100]]
def nameL (l : List Nat) : Bool := Nat.ble 1 l.length && Nat.ble l.length 6 && l.all (fun c => Nat.ble 97 c && Nat.ble c 122) && !(reserved.any fun r => r == l)
def isName (s : Str) : Bool := nameL s.cps.toList
theorem isName_tx (l : List Nat) : isName (tx l) = nameL l := by
  unfold isName
  simp [tx]
def letter (i : Int) : Nat := 97 + (i % 26).toNat
theorem atI_letter (i : Int) : ∃ c, atI ("abcdefghijklmnopqrstuvwxyz" : Str).cps.toList (i % 26) = some c ∧ (⟨#[c]⟩ : Str) = tx [letter i] := by
  have e : ("abcdefghijklmnopqrstuvwxyz" : Str).cps.toList = (List.range 26).map (97 + ·) := by decide +kernel
  rw [e]
  have h0 : 0 ≤ i % 26 := Int.emod_nonneg _ (by decide)
  have h1 : i % 26 < 26 := Int.emod_lt_of_pos _ (by decide)
  obtain ⟨k, hk⟩ : ∃ k : Nat, i % 26 = k := ⟨(i % 26).toNat, by omega⟩
  have hk2 : k < 26 := by omega
  refine ⟨97 + k, ?_, ?_⟩
  · rw [hk]
    refine atI_nat ?_
    rw [List.getElem?_map, List.getElem?_range hk2]
    rfl
  · unfold letter
    rw [hk]
    rfl
theorem letter_lt (i : Int) : ∃ d : Nat, d < 26 ∧ letter i = 97 + d := ⟨(i % 26).toNat, by omega, rfl⟩
theorem join_empty : ∀ ls : List (List Nat), Txt.join ("" : Str) (ls.map tx) = tx ls.flatten := by
  have z : ("" : Str) = tx [] := by decide +kernel
  intro ls
  rw [show ∀ (y : Str) ps, Txt.join y ps = Str.join y ps from fun y ps => PySem.StrLaws.glued_eq_join y ps, z]
  induction ls with
  | nil => rfl
  | cons l r ih =>
    cases r with
    | nil =>
      show tx l = tx (l ++ [])
      rw [List.append_nil]
    | cons m r =>
      show tx l ++ tx [] ++ Str.join (tx []) (List.map tx (m :: r)) = tx (l ++ (m :: r).flatten)
      rw [ih, tx_append, tx_append, List.append_nil]
/-- the tail of letters that begins by d -/
def tailL (d : Nat) : List Nat := (List.range 6).map fun j => 97 + (d + 5 * j + 1) % 26
theorem nameL_of {l : List Nat} (h1 : 1 ≤ l.length) (h2 : l.length ≤ 6) (h3 : ∀ c ∈ l, 97 ≤ c ∧ c ≤ 122) (h4 : ∀ r ∈ reserved, r ≠ l) : nameL l = true := by
  unfold nameL
  rw [Bool.and_eq_true, Bool.and_eq_true, Bool.and_eq_true]
  refine ⟨⟨⟨Nat.ble_eq_true_of_le h1, Nat.ble_eq_true_of_le h2⟩, List.all_eq_true.mpr fun c hc => ?_⟩, ?_⟩
  · rw [Nat.ble_eq_true_of_le (h3 c hc).1, Nat.ble_eq_true_of_le (h3 c hc).2]
    rfl
  · have : reserved.any (fun r => r == l) = false := by
      rw [List.any_eq_false]
      intro r hr
      rw [beq_iff_eq]
      exact h4 r hr
    rw [this]
    rfl
theorem tail_rng (d : Nat) : ∀ c ∈ tailL d, 97 ≤ c ∧ c ≤ 122 := fun c hc => by
  obtain ⟨j, _, rfl⟩ := List.mem_map.mp hc
  constructor <;> omega
theorem tail_len (d : Nat) : (tailL d).length = 6 := rfl
/-- words of the three kinds are none of the rows' words -/
def okA : Bool := (List.range 26).all fun d => reserved.all fun r => (List.range r.length).all fun pl => !(((tailL d).take r.length).eraseIdx pl == r.eraseIdx pl)
def okB : Bool := (List.range 26).all fun d => reserved.all fun r => (List.range 6).all fun m => !((tailL d).take m == r.drop 1)
def okC : Bool := (List.range 26).all fun b => reserved.all fun r => (List.range 6).all fun m => !(((List.range m).map fun j => 97 + (b + 3 * j) % 26) == r.drop 1)
theorem okA_all : okA = true := by decide +kernel
theorem okB_all : okB = true := by decide +kernel
theorem okC_all : okC = true := by decide +kernel
theorem okA_at {d a sz pl : Nat} (h1 : d < 26) (h2 : a < 26) (h3 : sz < 7) (h4 : pl < sz) : nameL ((tailL d).take pl ++ [97 + a] ++ ((tailL d).drop (pl + 1)).take (sz - (pl + 1))) = true := by
  have hl := tail_len d
  have l1 : ((tailL d).take pl).length = pl := by rw [List.length_take]; omega
  have l2 : (((tailL d).drop (pl + 1)).take (sz - (pl + 1))).length = sz - (pl + 1) := by rw [List.length_take, List.length_drop]; omega
  have hlen : ((tailL d).take pl ++ [97 + a] ++ ((tailL d).drop (pl + 1)).take (sz - (pl + 1))).length = sz := by
    rw [List.length_append, List.length_append, l1, l2, List.length_singleton]; omega
  refine nameL_of (by omega) (by omega) (fun c hc => ?_) fun r hr e => ?_
  · rcases List.mem_append.mp hc with hc | hc
    · rcases List.mem_append.mp hc with hc | hc
      · exact tail_rng d c (List.mem_of_mem_take hc)
      · rw [List.mem_singleton] at hc
        omega
    · exact tail_rng d c (List.mem_of_mem_drop (List.mem_of_mem_take hc))
  · have hrl : r.length = sz := by rw [e, hlen]
    have h := okA_all
    unfold okA at h
    have h := List.all_eq_true.mp (List.all_eq_true.mp (List.all_eq_true.mp h d (List.mem_range.mpr h1)) r hr) pl (List.mem_range.mpr (by omega))
    have e1 : ((tailL d).take sz).eraseIdx pl = ((tailL d).take pl ++ [97 + a] ++ ((tailL d).drop (pl + 1)).take (sz - (pl + 1))).eraseIdx pl := by
      rw [List.eraseIdx_eq_take_drop_succ, List.eraseIdx_eq_take_drop_succ, List.take_take, Nat.min_eq_left (by omega), List.append_assoc, List.take_append_of_le_length (Nat.le_of_eq l1.symm), List.take_of_length_le (Nat.le_of_eq l1), List.drop_append, l1, List.drop_of_length_le (by omega : ((tailL d).take pl).length ≤ pl + 1),
        show pl + 1 - pl = 1 by omega, List.nil_append, List.drop_take]
      rfl
    rw [← e, ← hrl] at e1
    rw [e1] at h
    simp at h
theorem okB_at {d a m : Nat} (h1 : d < 26) (h2 : a < 26) (h3 : m < 6) : nameL ([97 + a] ++ (tailL d).take m) = true := by
  have hl := tail_len d
  refine nameL_of (by simp) (by rw [List.length_append, List.length_take, List.length_singleton]; omega) (fun c hc => ?_) fun r hr e => ?_
  · rcases List.mem_append.mp hc with hc | hc
    · rw [List.mem_singleton] at hc
      omega
    · exact tail_rng d c (List.mem_of_mem_take hc)
  · have h := okB_all
    unfold okB at h
    have h := List.all_eq_true.mp (List.all_eq_true.mp (List.all_eq_true.mp h d (List.mem_range.mpr h1)) r hr) m (List.mem_range.mpr h3)
    rw [e] at h
    simp at h
theorem okC_at {b a m : Nat} (h1 : b < 26) (h2 : a < 26) (h3 : m < 6) : nameL ((97 + a) :: (List.range m).map fun j => 97 + (b + 3 * j) % 26) = true := by
  refine nameL_of (by simp) (by rw [List.length_cons, List.length_map, List.length_range]; omega) (fun c hc => ?_) fun r hr e => ?_
  · rcases List.mem_cons.mp hc with hc | hc
    · omega
    · obtain ⟨j, _, rfl⟩ := List.mem_map.mp hc
      constructor <;> omega
  · have h := okC_all
    unfold okC at h
    have h := List.all_eq_true.mp (List.all_eq_true.mp (List.all_eq_true.mp h b (List.mem_range.mpr h1)) r hr) m (List.mem_range.mpr h3)
    rw [e] at h
    simp at h
theorem letter_add (i : Int) (j : Nat) : letter (i + j) = 97 + ((i % 26).toNat + j) % 26 := by
  unfold letter
  omega
/-! ### _law_cell_at, _law_mixed, _law_value, _law_let -/
section
variable {P : Program} {w : World} {K : PySem.W.Frag} {mg : Str → Option Value} {base : Heap}
theorem atI_map {ns : List Int} {k : Nat} (h : k < ns.length) : atI (ns.map V.int) (k : Int) = some (.int (ns.getD k 0)) := by
  refine atI_nat ?_
  rw [List.getElem?_map, List.getElem?_eq_getElem h]
  simp [List.getD, h]
theorem atI_strs {ns : List Str} {i : Int} (h0 : 0 ≤ i) (h : i < ns.length) : ∃ s, s ∈ ns ∧ atI (ns.map V.str) i = some (.str s) := by
  obtain ⟨k, rfl⟩ : ∃ k : Nat, i = k := ⟨i.toNat, by omega⟩
  have hk : k < ns.length := by omega
  refine ⟨ns[k], List.getElem_mem hk, atI_nat ?_⟩
  rw [List.getElem?_map, List.getElem?_eq_getElem hk]
  rfl
def spCellAt (K : PySem.W.Frag) : Sp := fun vs H Q _ => ∃ (a : Addr) (ns : List Int) (k : Nat), vs = [.ref a, .int k] ∧ SqL K H a (ns.map V.int) ∧ Q (.int (ns.getD k 0)) H
theorem ok_cell_at (T : Txt K mg) : CallOk P w K mg base 1 "_law_cell_at" ["_law_script", "_law_k"] (spCellAt K) := by
  refine go_l_cell_at T.d_l_cell_at (fun vs H Q E h => ?_) ?_
  · obtain ⟨a, ns, k, rfl, _⟩ := h
    rfl
  intro X e1 e2 e3 e4 e5 C sc hr vs H Q E h
  subst e1 e2 e3 e4 e5
  obtain ⟨a, ns, k, rfl, hS, q⟩ := h
  show WSs X _ _ [some (.ref a), some (.int k)] H
  refine s_cons ?_
  have b1 := T.b_len
  wtm_at "lm"
  refine ite_dec (fun c => ?_) (fun c => ?_)
  · wtm_at "lm"
    rw [List.length_map] at c
    exact i_lst hS (atI_map (by omega)) q
  · wtm_at "lm"
    rw [List.length_map] at c
    rw [List.getD_eq_getElem?_getD, List.getElem?_eq_none (by omega)] at q
    exact q
def mixed (c k : Int) : Int := ((c + 7 * k + 3) * 48271 % 2147483647) * ((c + 7 * k + 3) * 48271 % 2147483647) % 2147483647
theorem mixed_lo (c k : Int) : 0 ≤ mixed c k := Int.emod_nonneg _ (by decide)
theorem mixed_hi (c k : Int) : mixed c k < 2147483647 := Int.emod_lt_of_pos _ (by decide)
def spMixed : Sp := fun vs H Q _ => ∃ c k : Int, vs = [.int c, .int k] ∧ Q (.int (mixed c k)) H
theorem ok_mixed (T : Txt K mg) : CallOk P w K mg base 1 "_law_mixed" ["_law_cell", "_law_k"] spMixed := by
  refine go_l_mixed T.d_l_mixed (fun vs H Q E h => ?_) ?_
  · obtain ⟨c, k, rfl, _⟩ := h
    rfl
  intro X e1 e2 e3 e4 e5 C sc hr vs H Q E h
  subst e1 e2 e3 e4 e5
  obtain ⟨c, k, rfl, q⟩ := h
  show WSs X _ _ [some (.int c), some (.int k), none] H
  refine s_cons ?_
  wtm_at "lm"
  have h1 : 0 ≤ (c + 7 * k + 3) * 48271 % 2147483647 := Int.emod_nonneg _ (by decide)
  have h2 : (c + 7 * k + 3) * 48271 % 2147483647 < 2147483647 := Int.emod_lt_of_pos _ (by decide)
  refine b_mul (.inl ⟨by omega, by omega⟩) ?_
  wtm_at "lm"
  exact q
def spValue (K : PySem.W.Frag) : Sp := fun vs H Q _ => ∃ (kd n : Int) (a : Addr) (ns : List Str), vs = [.int kd, .int n, .ref a] ∧ 0 ≤ kd ∧ SqL K H a (ns.map V.str) ∧ ns.length = 16 ∧ kd < 16 ∧ ∀ k, KeyOk ns k → Q (kV k) H
theorem ok_value (T : Txt K mg) : CallOk P w K mg base 1 "_law_value" ["_law_kind", "_law_number", "_law_names_here"] (spValue K) := by
  refine go_l_value T.d_l_value (fun vs H Q E h => ?_) ?_
  · obtain ⟨kd, n, a, ns, rfl, _⟩ := h
    rfl
  intro X e1 e2 e3 e4 e5 C sc hr vs H Q E h
  subst e1 e2 e3 e4 e5
  obtain ⟨kd, n, a, ns, rfl, h0, hS, hl, hk, q⟩ := h
  show WSs X _ _ [some (.int kd), some (.int n), some (.ref a)] H
  refine s_cons ?_
  wtm_at "lm"
  refine ite_dec (fun c => ?_) (fun c => ?_)
  · wtm_at "lm"
    obtain ⟨s, hs, e⟩ := atI_strs (ns := ns) h0 (by omega)
    exact i_lst hS e (q (.inr s) hs)
  wtm_at "lm"
  refine ite_dec (fun c => ?_) (fun c => ?_)
  · wtm_at "lm"
    exact q (.inl (kd - 11)) ⟨by omega, by omega⟩
  wtm_at "lm"
  exact q (.inl (n % 1000000)) ⟨by omega, by omega⟩
theorem sg_of (i : Int) (h0 : 0 ≤ i) (h1 : i < 5) : ∃ sg : Sg, ∃ c, atI ("+-*</" : Str).cps.toList i = some c ∧ (⟨#[c]⟩ : Str) = sg.nm := by
  have : i = 0 ∨ i = 1 ∨ i = 2 ∨ i = 3 ∨ i = 4 := by omega
  rcases this with rfl | rfl | rfl | rfl | rfl
  · exact ⟨.add, 43, by decide +kernel, by decide +kernel⟩
  · exact ⟨.sub, 45, by decide +kernel, by decide +kernel⟩
  · exact ⟨.mul, 42, by decide +kernel, by decide +kernel⟩
  · exact ⟨.lss, 60, by decide +kernel, by decide +kernel⟩
  · exact ⟨.div, 47, by decide +kernel, by decide +kernel⟩
def spLet (K : PySem.W.Frag) : Sp := fun vs H Q _ => ∃ (n : Int) (a : Addr) (ns : List Str), vs = [.int n, .ref a] ∧ SqL K H a (ns.map V.str) ∧ ns.length = 16 ∧
  ∀ (t : Addr) (H' : Hp) (to : Str) (sg : Sg) (x y : Key), Same H H' → H' t = some (.tup [.str "let", .str to, .str sg.nm, kV x, kV y]) → to ∈ ns → KeyOk ns x → KeyOk ns y → Q (.ref t) H'
theorem ok_let (T : Txt K mg) : CallOk P w K mg base 2 "_law_let" ["_law_number", "_law_names_here"] (spLet K) := by
  have GV : CallOk P w K mg base 1 "_law_value" ["_law_kind", "_law_number", "_law_names_here"] (spValue K) := ok_value T
  refine go_l_let T.d_l_let (fun vs H Q E h => ?_) ?_
  · obtain ⟨n, a, ns, rfl, _⟩ := h
    rfl
  intro X e1 e2 e3 e4 e5 C sc hr vs H Q E h
  subst e1 e2 e3 e4 e5
  obtain ⟨n, a, ns, rfl, hS, hl, q⟩ := h
  show WSs X _ _ [some (.int n), some (.ref a), none, none] H
  refine s_cons ?_
  wtm_at "lm"
  refine ⟨_, _, a, ns, rfl, by omega, hS, hl, by omega, fun x hx => ?_⟩
  wtm_at "lm"
  refine ⟨_, _, a, ns, rfl, by omega, hS, hl, by omega, fun y hy => ?_⟩
  wtm_at "lm"
  obtain ⟨to, ht, e⟩ := atI_strs (ns := ns) (i := n % 8) (by omega) (by omega)
  refine i_lst hS e ?_
  wtm_at "lm"
  obtain ⟨sg, c, e1, e2⟩ := sg_of (n / 8 % 5) (by omega) (by omega)
  refine i_str (by decide +kernel) e1 ?_
  wtm_at "lm"
  intro t H' hn s h
  rw [e2] at h
  exact q t H' to sg x y s h ht hx hy
end
/-! ### the sixteen names, told: no two alike -/
/-- the k-th name of a cell, by its letters -/
def nameAt (c : Int) (k : Nat) : List Nat :=
  if c % 3 = 1 then (tailL (c / 72 % 26).toNat).take (c / 18 % (1 + c / 3 % 6)).toNat ++ [letter (c / 72 + 5 * k)] ++ ((tailL (c / 72 % 26).toNat).drop ((c / 18 % (1 + c / 3 % 6)).toNat + 1)).take ((1 + c / 3 % 6).toNat - ((c / 18 % (1 + c / 3 % 6)).toNat + 1))
  else if c % 3 = 2 then [letter (c / 72 + 7 * (k / 4 : Nat))] ++ (tailL (c / 72 % 26).toNat).take ((k : Int) % 4 + c / 18 % 3).toNat
  else letter (c / 72 + 5 * k) :: (List.range ((c / 26 + k) % 6).toNat).map fun j => 97 + (((c / 7 + k) % 26).toNat + 3 * j) % 26
theorem letter_rng (i : Int) : letter i = 97 + (i % 26).toNat := rfl
theorem letter_inj {i j : Int} (h : letter i = letter j) : i % 26 = j % 26 := by
  unfold letter at h
  omega
theorem nameAt_ok (c : Int) (k : Nat) : nameL (nameAt c k) = true := by
  unfold nameAt
  have hd : (c / 72 % 26).toNat < 26 := by omega
  split
  · have h1 : 0 ≤ c / 18 % (1 + c / 3 % 6) := Int.emod_nonneg _ (by omega)
    have h2 : c / 18 % (1 + c / 3 % 6) < 1 + c / 3 % 6 := Int.emod_lt_of_pos _ (by omega)
    rw [letter_rng]
    exact okA_at hd (by omega) (by omega) (by omega)
  · split
    · rw [letter_rng]
      exact okB_at hd (by omega) (by omega)
    · rw [letter_rng]
      exact okC_at (by omega) (by omega) (by omega)
theorem nameAt_inj {c : Int} {k l : Nat} (hk : k < 16) (hl : l < 16) (h : nameAt c k = nameAt c l) : k = l := by
  unfold nameAt at h
  split at h
  · rw [List.append_assoc, List.append_assoc] at h
    have h3 := List.append_cancel_left h
    simp only [List.cons_append, List.nil_append, List.cons.injEq] at h3
    have := letter_inj h3.1
    omega
  · split at h
    · rw [List.cons_append, List.cons_append, List.cons.injEq] at h
      have h1 := letter_inj h.1
      have h2 := congrArg List.length h.2
      rw [List.nil_append, List.nil_append, List.length_take, List.length_take, tail_len] at h2
      omega
    · rw [List.cons.injEq] at h
      have := letter_inj h.1
      omega
def words10 : List (List Nat) := [[119, 104, 101, 110, 115], [101, 115, 115, 97, 121], [114, 101, 108, 111, 111, 112], [108, 101, 116], [101, 110, 100, 115], [115, 97, 121, 101, 114], [108, 111, 111, 112, 115], [115, 101, 110, 100], [97, 103, 97, 105, 110, 115], [97, 119, 104, 101, 110]]
def noA : Bool := (List.range 26).all fun d => words10.all fun r => (List.range r.length).all fun pl => !(((tailL d).take r.length).eraseIdx pl == r.eraseIdx pl)
def noB : Bool := (List.range 26).all fun d => words10.all fun r => (List.range 6).all fun m => !((tailL d).take m == r.drop 1)
def noC : Bool := (List.range 26).all fun b => words10.all fun r => (List.range 6).all fun m => !(((List.range m).map fun j => 97 + (b + 3 * j) % 26) == r.drop 1)
theorem noA_all : noA = true := by decide +kernel
theorem noB_all : noB = true := by decide +kernel
theorem noC_all : noC = true := by decide +kernel
theorem noA_at {d a sz pl : Nat} {r : List Nat} (hr : r ∈ words10) (h1 : d < 26) (h3 : sz < 7) (h4 : pl < sz) : r ≠ (tailL d).take pl ++ [a] ++ ((tailL d).drop (pl + 1)).take (sz - (pl + 1)) := fun e => by
  have hl := tail_len d
  have l1 : ((tailL d).take pl).length = pl := by rw [List.length_take]; omega
  have l2 : (((tailL d).drop (pl + 1)).take (sz - (pl + 1))).length = sz - (pl + 1) := by rw [List.length_take, List.length_drop]; omega
  have hlen : ((tailL d).take pl ++ [a] ++ ((tailL d).drop (pl + 1)).take (sz - (pl + 1))).length = sz := by
    rw [List.length_append, List.length_append, l1, l2, List.length_singleton]; omega
  have hrl : r.length = sz := by rw [e, hlen]
  have h := noA_all
  unfold noA at h
  have h := List.all_eq_true.mp (List.all_eq_true.mp (List.all_eq_true.mp h d (List.mem_range.mpr h1)) r hr) pl (List.mem_range.mpr (by omega))
  have e1 : ((tailL d).take sz).eraseIdx pl = ((tailL d).take pl ++ [a] ++ ((tailL d).drop (pl + 1)).take (sz - (pl + 1))).eraseIdx pl := by
    rw [List.eraseIdx_eq_take_drop_succ, List.eraseIdx_eq_take_drop_succ, List.take_take, Nat.min_eq_left (by omega), List.append_assoc, List.take_append_of_le_length (Nat.le_of_eq l1.symm), List.take_of_length_le (Nat.le_of_eq l1), List.drop_append, l1, List.drop_of_length_le (by omega : ((tailL d).take pl).length ≤ pl + 1),
      show pl + 1 - pl = 1 by omega, List.nil_append, List.drop_take]
    rfl
  rw [← e, ← hrl] at e1
  rw [e1] at h
  simp at h
theorem nameAt_word {c : Int} {k : Nat} {r : List Nat} (hr : r ∈ words10) : r ≠ nameAt c k := by
  unfold nameAt
  have hd : (c / 72 % 26).toNat < 26 := by omega
  split
  · have h1 : 0 ≤ c / 18 % (1 + c / 3 % 6) := Int.emod_nonneg _ (by omega)
    have h2 : c / 18 % (1 + c / 3 % 6) < 1 + c / 3 % 6 := Int.emod_lt_of_pos _ (by omega)
    exact noA_at hr hd (by omega) (by omega)
  · split
    · intro e
      have h := noB_all
      unfold noB at h
      have h := List.all_eq_true.mp (List.all_eq_true.mp (List.all_eq_true.mp h _ (List.mem_range.mpr hd)) r hr) ((k : Int) % 4 + c / 18 % 3).toNat (List.mem_range.mpr (by omega))
      rw [e] at h
      simp at h
    · intro e
      have h := noC_all
      unfold noC at h
      have h := List.all_eq_true.mp (List.all_eq_true.mp (List.all_eq_true.mp h ((c / 7 + k) % 26).toNat (List.mem_range.mpr (by omega))) r hr) ((c / 26 + k) % 6).toNat (List.mem_range.mpr (by omega))
      rw [e] at h
      simp at h
theorem tail_at (d : Nat) {i : Nat} (h : i < 6) : (tailL d)[i]? = some (97 + (d + 5 * i + 1) % 26) := by
  unfold tailL
  rw [List.getElem?_map, List.getElem?_range h]
  rfl
/-- the last name does not end by zz as one of three letters -/
theorem nameAt_zz {c : Int} {x : Nat} : nameAt c 15 ≠ [x, 122, 122] := by
  unfold nameAt
  have hd : (c / 72 % 26).toNat < 26 := by omega
  split
  · have h1 : 0 ≤ c / 18 % (1 + c / 3 % 6) := Int.emod_nonneg _ (by omega)
    have h2 : c / 18 % (1 + c / 3 % 6) < 1 + c / 3 % 6 := Int.emod_lt_of_pos _ (by omega)
    intro e
    generalize hn : (1 + c / 3 % 6).toNat = n at e
    generalize hp : (c / 18 % (1 + c / 3 % 6)).toNat = pl at e
    have hl := tail_len (c / 72 % 26).toNat
    have l1 : ((tailL (c / 72 % 26).toNat).take pl).length = pl := by rw [List.length_take]; omega
    have l2 : (((tailL (c / 72 % 26).toNat).drop (pl + 1)).take (n - (pl + 1))).length = n - (pl + 1) := by rw [List.length_take, List.length_drop]; omega
    have hlen := congrArg List.length e
    rw [List.length_append, List.length_append, l1, l2, List.length_singleton] at hlen
    have hn3 : n = 3 := by
      have : ([x, 122, 122] : List Nat).length = 3 := rfl
      omega
    subst hn3
    have g1 := congrArg (fun l => l[1]?) e
    have g2 := congrArg (fun l => l[2]?) e
    have hpl : pl = 0 ∨ pl = 1 ∨ pl = 2 := by omega
    have t0 := tail_at (c / 72 % 26).toNat (i := 0) (by decide)
    have t1 := tail_at (c / 72 % 26).toNat (i := 1) (by decide)
    have t2 := tail_at (c / 72 % 26).toNat (i := 2) (by decide)
    rcases hpl with rfl | rfl | rfl
    · replace g1 : some (97 + ((c / 72 % 26).toNat + 5 * 1 + 1) % 26) = some 122 := g1
      replace g2 : some (97 + ((c / 72 % 26).toNat + 5 * 2 + 1) % 26) = some 122 := g2
      rw [Option.some.injEq] at g1 g2
      omega
    · replace g1 : some (letter (c / 72 + 5 * (15 : Nat))) = some 122 := g1
      replace g2 : some (97 + ((c / 72 % 26).toNat + 5 * 2 + 1) % 26) = some 122 := g2
      rw [Option.some.injEq] at g1 g2
      unfold letter at g1
      omega
    · replace g1 : some (97 + ((c / 72 % 26).toNat + 5 * 1 + 1) % 26) = some 122 := g1
      replace g2 : some (letter (c / 72 + 5 * (15 : Nat))) = some 122 := g2
      rw [Option.some.injEq] at g1 g2
      unfold letter at g2
      omega
  · split
    · intro e
      have := congrArg List.length e
      rw [List.length_append, List.length_take, tail_len] at this
      have h3 : ([x, 122, 122] : List Nat).length = 3 := rfl
      have h1 : ([letter (c / 72 + 7 * (15 / 4 : Nat))] : List Nat).length = 1 := rfl
      omega
    · intro e
      rw [List.cons.injEq] at e
      have e2 := e.2
      have hl := congrArg List.length e2
      rw [List.length_map, List.length_range] at hl
      replace hl : ((c / 26 + (15 : Nat)) % 6).toNat = 2 := hl
      rw [hl] at e2
      replace e2 : [97 + (((c / 7 + (15 : Nat)) % 26).toNat + 3 * 0) % 26, 97 + (((c / 7 + (15 : Nat)) % 26).toNat + 3 * 1) % 26] = [122, 122] := e2
      rw [List.cons.injEq, List.cons.injEq] at e2
      omega
/-- what is used of the names -/
structure NamesOk (ns : List Str) : Prop where
  nd : ns.Nodup
  zz : ∀ x, ns[15]? ≠ some (tx [x, 122, 122])
theorem words_tx : ∀ s ∈ (["whens", "essay", "reloop", "let", "ends", "sayer", "loops", "send", "agains", "awhen"] : List Str), ∃ r, r ∈ words10 ∧ s = tx r := fun s hs => by
  simp only [List.mem_cons, List.not_mem_nil, or_false] at hs
  rcases hs with rfl | rfl | rfl | rfl | rfl | rfl | rfl | rfl | rfl | rfl
  · exact ⟨[119, 104, 101, 110, 115], by decide, by decide +kernel⟩
  · exact ⟨[101, 115, 115, 97, 121], by decide, by decide +kernel⟩
  · exact ⟨[114, 101, 108, 111, 111, 112], by decide, by decide +kernel⟩
  · exact ⟨[108, 101, 116], by decide, by decide +kernel⟩
  · exact ⟨[101, 110, 100, 115], by decide, by decide +kernel⟩
  · exact ⟨[115, 97, 121, 101, 114], by decide, by decide +kernel⟩
  · exact ⟨[108, 111, 111, 112, 115], by decide, by decide +kernel⟩
  · exact ⟨[115, 101, 110, 100], by decide, by decide +kernel⟩
  · exact ⟨[97, 103, 97, 105, 110, 115], by decide, by decide +kernel⟩
  · exact ⟨[97, 119, 104, 101, 110], by decide, by decide +kernel⟩
theorem base_nd (c : Int) : ((List.range 16).map fun k => tx (nameAt c k)).Nodup := by
  rw [List.Nodup, List.pairwise_map]
  refine List.Pairwise.imp_of_mem (R := fun a b => a ≠ b) (fun {a b} ha hb h e => h ?_) List.nodup_range
  exact nameAt_inj (List.mem_range.mp ha) (List.mem_range.mp hb) (tx_inj e)
theorem base_ok (c : Int) : NamesOk ((List.range 16).map fun k => tx (nameAt c k)) := ⟨base_nd c, fun x e => by
  rw [List.getElem?_map, List.getElem?_range (by decide)] at e
  exact nameAt_zz (c := c) (tx_inj (Option.some.inj e))⟩
theorem set_nd {l : List Str} {k : Nat} {s : Str} (h : l.Nodup) (hs : s ∉ l) : (l.set k s).Nodup := by
  rw [List.Nodup, List.pairwise_iff_getElem] at h ⊢
  intro i j hi hj hij
  rw [List.length_set] at hi hj
  rw [List.getElem_set, List.getElem_set]
  split
  · split
    · omega
    · exact fun e => hs (e ▸ List.getElem_mem hj)
  · split
    · exact fun e => hs (e ▸ List.getElem_mem hi)
    · exact h i j hi hj hij
theorem set_ok (c : Int) {k : Nat} {s : Str} (hk : k < 8) (hs : s ∈ (["whens", "essay", "reloop", "let", "ends", "sayer", "loops", "send", "agains", "awhen"] : List Str)) : NamesOk (((List.range 16).map fun k => tx (nameAt c k)).set k s) := by
  obtain ⟨r, hr, rfl⟩ := words_tx s hs
  refine ⟨set_nd (base_nd c) fun hm => ?_, fun x e => ?_⟩
  · obtain ⟨k', _, e⟩ := List.mem_map.mp hm
    exact nameAt_word (c := c) (k := k') hr (tx_inj e.symm)
  · rw [List.getElem?_set_ne (by omega)] at e
    exact (base_ok c).zz x e
theorem base_is (c : Int) : ∀ s ∈ ((List.range 16).map fun k => tx (nameAt c k)), isName s = true := fun s hs => by
  obtain ⟨k, _, rfl⟩ := List.mem_map.mp hs
  rw [isName_tx]
  exact nameAt_ok c k
section
variable {P : Program} {w : World} {K : PySem.W.Frag} {mg : Str → Option Value} {base : Heap}
def spNames : Sp := fun vs H Q _ => ∃ c : Int, vs = [.int c] ∧ ∀ (p : Addr) (H' : Hp) (ns : List Str), Same H H' → H p = none → H' p = some (.lst (ns.map V.str)) → ns.length = 16 → (∀ s ∈ ns, isName s = true) → NamesOk ns → Q (.ref p) H'
theorem other_words : ∀ s ∈ (["whens", "essay", "reloop", "let", "ends", "sayer", "loops", "send", "agains", "awhen"] : List Str), isName s = true := by decide +kernel
theorem ok_names (T : Txt K mg) : CallOk P w K mg base 1 "_law_names" ["_law_cell"] spNames := by
  refine go_l_names T.d_l_names (fun vs H Q E h => ?_) ?_
  · obtain ⟨c, rfl, _⟩ := h
    rfl
  intro X e1 e2 e3 e4 e5 C sc hr vs H Q E h
  subst e1 e2 e3 e4 e5
  obtain ⟨c, rfl, q⟩ := h
  show WSs X _ _ [some (.int c), none, none, none, none, none, none, none, none, none] H
  have b1 := T.b_range
  refine s_cons ?_
  wtm_at "lm"
  intro p H1 hp s1 h1
  wtm_at "lm"
  refine w_lc (i := 4) C (by decide +kernel) (by rw [sc]; exact blkOk_by (by decide +kernel)) rfl (by wtm_at "lm.wip") (wi_range C (by wtm_at "lm.mem") b1 ?_)
  wtm_at "lm"
  refine ⟨by decide, by decide, ?_⟩
  refine lc_vals (f := fun i v => v = .int (0 + i)) (walk_range (lo := 0) (n := 6)) (fun j => .str (tx [letter (c / 72 + 5 * j + 1)])) (by decide) (fun _ _ => trivial) (fun j y H2 hj hy s2 => ?_) fun l H2 hl s2 h2 => ?_
  · subst hy
    rw [Int.zero_add]
    refine ⟨_, by wtm_at "lm.put", fun Y hY => ?_⟩
    have CY := hY.fr (L' := ["_law_j"]) (Vs' := ["_law_cell", "_law_letters", "_law_j"]) (G' := []) C (by decide +kernel)
    wtm_at "lm"
    obtain ⟨d, e1, e2⟩ := atI_letter (c / 72 + 5 * j + 1)
    exact i_str (by decide +kernel) e1 ⟨Same.refl _, by rw [e2]⟩
  have hm : (List.range 6).map (fun j : Nat => V.str (tx [letter (c / 72 + 5 * j + 1)])) = ((List.range 6).map fun j : Nat => tx [letter (c / 72 + 5 * j + 1)]).map V.str := by rw [List.map_map]; rfl
  rw [hm] at h2
  have ht : Txt.join ("" : Str) ((List.range 6).map fun j : Nat => tx [letter (c / 72 + 5 * j + 1)]) = tx (tailL (c / 72 % 26).toNat) := by
    have := join_empty ((List.range 6).map fun j : Nat => [letter (c / 72 + 5 * j + 1)])
    rw [List.map_map] at this
    refine this.trans ?_
    congr 1
    show [letter _, letter _, letter _, letter _, letter _, letter _] = [_, _, _, _, _, _]
    unfold letter
    simp only [List.cons.injEq, and_true]
    refine ⟨?_, ?_, ?_, ?_, ?_, ?_⟩ <;> (show 97 + _ = 97 + _; omega)
  refine ⟨l, _, rfl, SqL.of h2, by show 6 + 6 * 0 ≤ 16777216; decide, ?_⟩
  rw [ht]
  have hd : (c / 72 % 26).toNat < 26 := by omega
  generalize hdd : (c / 72 % 26).toNat = d at hd ⊢
  have p2 := s2 _ _ h1
  have tl := tail_len d
  obtain ⟨n, hsz, hn0, hn1⟩ : ∃ n : Nat, 1 + c / 3 % 6 = (n : Int) ∧ 0 < n ∧ n < 7 := ⟨(1 + c / 3 % 6).toNat, by omega, by omega, by omega⟩
  rw [hsz]
  wtm_at "lm"
  refine ⟨by decide, by decide, ?_⟩
  refine for_r (fun i σ H3 => ∃ (ns : List Str) (o4 o6 o7 o8 : Option V), σ = [some (.int c), some (.str "abcdefghijklmnopqrstuvwxyz"), some (.ref p), some (.int n), o4, some (.str (tx (tailL d))), o6, o7, o8, none] ∧
    ns = (List.range i).map (fun k => tx (nameAt c k)) ∧ Same H H3 ∧ H3 p = some (.lst (ns.map V.str))) ⟨[], _, _, _, _, rfl, rfl, s1.trans s2, p2⟩ ?_ ?_
  · rintro k σ H3 hk ⟨ns, o4, o6, o7, o8, rfl, hns, s3, p3⟩
    have hl3 : ns.length = k := by rw [hns, List.length_map, List.length_range]
    refine ⟨_, by wtm_at "lm.put", ?_⟩
    refine s_cons ?_
    wtm_at "lms"
    obtain ⟨a, e1, e2⟩ := atI_letter (c / 72 + 5 * k)
    refine i_str (by decide +kernel) e1 ?_
    rw [e2]
    wtm_at "lms"
    refine s_cut (fun σ' H' => ∃ (s : Str) (o4 o8 : Option V), σ' = [some (.int c), some (.str "abcdefghijklmnopqrstuvwxyz"), some (.ref p), some (.int n), o4, some (.str (tx (tailL d))), some (.int k), some (.str s), o8, none] ∧ s = tx (nameAt c k) ∧ H' = H3) ?_ ?_
    · wtm_at "lm"
      refine ite_dec (fun c1 => ?_) (fun c1 => ?_)
      · wtm_at "lm"
        refine b_mod (by omega) ?_
        obtain ⟨pl, hpl, hpl1⟩ : ∃ pl : Nat, c / 18 % (n : Int) = (pl : Int) ∧ pl < n := by
          have h1 : 0 ≤ c / 18 % (n : Int) := Int.emod_nonneg _ (by omega)
          have h2 : c / 18 % (n : Int) < n := Int.emod_lt_of_pos _ (by omega)
          exact ⟨(c / 18 % (n : Int)).toNat, by omega, by omega⟩
        rw [hpl]
        wtm_at "lm"
        refine l_str (by rw [tx_length, tl]; decide) ?_
        rw [cut_to]
        wtm_at "lm"
        refine b_adds (by rw [tx_length, tx_length, List.length_take, tl]; exact sz (by simp; omega)) ?_
        rw [tx_append]
        wtm_at "lm"
        rw [show (pl : Int) + 1 = ((pl + 1 : Nat) : Int) from rfl]
        refine l_str (by rw [tx_length, tl]; decide) ?_
        rw [cut_from_to _ _ _ (by omega) (by omega)]
        refine b_adds (by rw [tx_length, tx_length, List.length_append, List.length_take, List.length_take, List.length_drop, tl]; exact sz (by simp; omega)) ?_
        rw [tx_append]
        wtm_at "lm"
        exact ⟨_, _, _, rfl, by unfold nameAt; rw [if_pos c1, hdd, hsz, hpl]; rfl, rfl⟩
      · wtm_at "lm"
        refine ite_dec (fun c2 => ?_) (fun c2 => ?_)
        · wtm_at "lm"
          obtain ⟨b, e3, e4⟩ := atI_letter (c / 72 + 7 * (k / 4))
          refine i_str (by decide +kernel) e3 ?_
          rw [e4]
          wtm_at "lm"
          obtain ⟨m, hm1, hm2⟩ : ∃ m : Nat, (k : Int) % 4 + c / 18 % 3 = (m : Int) ∧ m < 6 := ⟨((k : Int) % 4 + c / 18 % 3).toNat, by omega, by omega⟩
          rw [hm1]
          refine l_str (by rw [tx_length, tl]; decide) ?_
          rw [cut_to]
          refine b_adds (by rw [tx_length, tx_length, List.length_take, tl]; exact sz (by simp; omega)) ?_
          rw [tx_append]
          wtm_at "lm"
          exact ⟨_, _, _, rfl, by unfold nameAt; rw [if_neg c1, if_pos c2, hdd, hm1]; rfl, rfl⟩
        · wtm_at "lm"
          obtain ⟨m, hm1, hm2⟩ : ∃ m : Nat, (c / 26 + (k : Int)) % 6 = (m : Int) ∧ m < 6 := ⟨((c / 26 + (k : Int)) % 6).toNat, by omega, by omega⟩
          rw [hm1]
          refine ⟨by omega, by omega, ?_⟩
          rw [Int.toNat_natCast]
          have hb1 : ((c / 7 + k) % 26).toNat < 26 := by omega
          refine for_r (fun i σ H' => ∃ o4 : Option V, i ≤ m ∧ σ = [some (.int c), some (.str "abcdefghijklmnopqrstuvwxyz"), some (.ref p), some (.int n), o4, some (.str (tx (tailL d))), some (.int k), some (.str (tx (letter (c / 72 + 5 * k) :: (List.range i).map fun j => 97 + (((c / 7 + k) % 26).toNat + 3 * j) % 26))), o8, none] ∧ H' = H3) ⟨_, Nat.zero_le _, rfl, rfl⟩ ?_ ?_
          · rintro j σ H' hj ⟨o4', hjm, rfl, rfl⟩
            refine ⟨_, by wtm_at "lm.put", ?_⟩
            wtm_at "lm"
            obtain ⟨b, e3, e4⟩ := atI_letter (c / 7 + 3 * j + k)
            refine i_str (by decide +kernel) e3 ?_
            rw [e4]
            refine b_adds (by rw [tx_length, tx_length]; exact sz (by simp; omega)) ?_
            rw [tx_append]
            wtm_at "lm"
            refine ⟨some (.int j), hj, ?_, rfl⟩
            have e5 : letter (c / 7 + 3 * j + k) = 97 + (((c / 7 + k) % 26).toNat + 3 * j) % 26 := by
              unfold letter
              omega
            rw [e5, List.range_succ, List.map_append]
            rfl
          · rintro σ H' ⟨o4', hjm, rfl, rfl⟩
            exact ⟨_, _, _, rfl, by unfold nameAt; rw [if_neg c1, if_neg c2, hm1]; rfl, rfl⟩
    · rintro σ' H' ⟨s, o4', o8', rfl, hs, rfl⟩
      wtm_at "lm"
      refine x_app p3 (by rw [List.length_map]; omega) ?_
      wtm_at "lm"
      refine ⟨ns ++ [s], _, _, _, _, rfl, by rw [List.range_succ, List.map_append, hns, hs]; rfl, Same.mut s3 hp, by rw [upd_same, List.map_append]; rfl⟩
  · rintro σ H3 ⟨ns, o4, o6, o7, o8, rfl, hns, s3, p3⟩
    have hl3 : ns.length = 16 := by rw [hns, List.length_map, List.length_range]; rfl
    have hn : ∀ s ∈ ns, isName s = true := by rw [hns]; exact base_is c
    wtm_at "lm"
    refine ite_dec (fun c1 => ?_) (fun c1 => ?_)
    · wtm_at "lm"
      intro u H4 hu s4 h4
      wtm_at "lm"
      obtain ⟨s, hs, e⟩ := atI_strs (ns := ["whens", "essay", "reloop", "let", "ends", "sayer", "loops", "send", "agains", "awhen"]) (i := c / 40 % 10) (by omega) (by show _ < (10 : Int); omega)
      refine i_lst (SqL.of h4) e ?_
      wtm_at "lm"
      have p4 := s4 _ _ p3
      obtain ⟨k, hk, hk1⟩ : ∃ k : Nat, c / 5 % 8 = (k : Int) ∧ k < 8 := ⟨(c / 5 % 8).toNat, by omega, by omega⟩
      rw [hk]
      refine p_lst p4 (Evl.ixN_nat (j := k) (by rw [List.length_map, hl3]; omega)) ?_
      wtm_at "lm"
      refine q p _ (ns.set k s) (Same.mut (s3.trans s4) hp) hp (by rw [upd_same, List.map_set]) (by rw [List.length_set]; exact hl3) (fun y hy => ?_) (by rw [hns]; exact set_ok c hk1 hs)
      rcases List.mem_or_eq_of_mem_set hy with hy | hy
      · exact hn y hy
      · exact hy ▸ other_words s hs
    · wtm_at "lm"
      exact q p H3 ns s3 hp p3 hl3 hn (by rw [hns]; exact base_ok c)
end
/-! ### _law_closed, _law_opened, _law_program -/
section
variable {P : Program} {w : World} {K : PySem.W.Frag} {mg : Str → Option Value} {base : Heap}
theorem Zip.size {F H : Hp} {ns : List Str} {S T a : Addr} {bs : List Addr} {vs : List V} {ts : List Str} {n : Nat} (z : Zip F H ns S T a bs vs ts n) : vs.length ≤ n := by
  obtain ⟨rs, f, ls, g, h1, h2, h3, h4, h5, h6, h7⟩ := z.ex
  have := len_cnts rs
  rw [h1.len]
  omega
theorem Zip.ne {F H : Hp} {ns : List Str} {S T a : Addr} {bs : List Addr} {vs : List V} {ts : List Str} {n : Nat} (z : Zip F H ns S T a bs vs ts n) : S ≠ T ∧ S ≠ a ∧ T ≠ a := by
  obtain ⟨rs, f, ls, g, h1, h2, h3, h4, h5, h6, h7⟩ := z.ex
  rw [List.nodup_cons, List.nodup_cons] at h3
  exact ⟨fun q => h3.1 (q ▸ List.mem_cons_self), fun q => h3.1 (q ▸ List.mem_cons_of_mem _ List.mem_cons_self), fun q => h3.2.1 (q ▸ List.mem_cons_self)⟩
theorem atI_top (a : Addr) (bs : List Addr) : atI ((a :: bs).reverse.map V.ref) (-1) = some (.ref a) := by
  rw [List.reverse_cons, List.map_append]
  exact atI_last _ _
theorem drop_top (a : Addr) (bs : List Addr) : ((a :: bs).reverse.map V.ref).dropLast = bs.reverse.map V.ref := by
  rw [List.reverse_cons, List.map_append]
  exact List.dropLast_concat
theorem last_top (a : Addr) (bs : List Addr) : ((a :: bs).reverse.map V.ref)[((a :: bs).reverse.map V.ref).length - 1]? = some (.ref a) := by
  rw [List.reverse_cons, List.map_append, List.length_append, List.getElem?_append_right (by show _ ≤ _ + 1 - 1; omega)]
  show [V.ref a][_]? = _
  simp
def spClosed : Sp := fun vs H Q _ => ∃ (F : Hp) (ns : List Str) (S T a b : Addr) (bs : List Addr) (us : List V) (ts : List Str) (n : Nat), vs = [.ref S, .ref T] ∧ n ≤ 100000 ∧ Zip F H ns S T a (b :: bs) us ts n ∧
  ∀ (H3 : Hp) (us' : List V), Zip F H3 ns S T b bs us' ts.dropLast (n + 1) → Q .non H3
theorem Zip.none {F H : Hp} {ns : List Str} {S T a : Addr} {bs : List Addr} {vs : List V} {ts : List Str} {n : Nat} (z : Zip F H ns S T a bs vs ts n) : F S = none ∧ F T = none ∧ F a = none := by
  obtain ⟨rs, f, ls, g, h1, h2, h3, h4, h5, h6, h7⟩ := z.ex
  exact ⟨h4 S (by simp), h4 T (by simp), h4 a (by simp)⟩
theorem kind_of (n : Int) : ∃ kd : Kd, atI ([.str "when", .str "loop", .str "again", .str "loop"] : List V) (n % 4) = some (.str kd.nm) := by
  have : n % 4 = 0 ∨ n % 4 = 1 ∨ n % 4 = 2 ∨ n % 4 = 3 := by omega
  rcases this with h | h | h | h <;> rw [h]
  · exact ⟨.whn, rfl⟩
  · exact ⟨.lop, rfl⟩
  · exact ⟨.agn, rfl⟩
  · exact ⟨.lop, rfl⟩
def spOpened (K : PySem.W.Frag) : Sp := fun vs H Q _ => ∃ (F : Hp) (ns : List Str) (nb : Int) (A S T a : Addr) (bs : List Addr) (us : List V) (ts : List Str) (n : Nat), vs = [.int nb, .ref A, .ref S, .ref T] ∧ SqL K F A (ns.map V.str) ∧ ns.length = 16 ∧ n ≤ 100000 ∧ bs.length < 3 ∧ Zip F H ns S T a bs us ts n ∧
  ∀ (H3 : Hp) (c : Addr) (ts' : List Str), Zip F H3 ns S T c (a :: bs) [] ts' (n + 2) → Q .non H3
def spProgram (K : PySem.W.Frag) : Sp := fun vs H Q _ => ∃ (cs : List Int) (ns : List Str) (Cc A : Addr), vs = [.ref Cc, .ref A] ∧ SqL K H Cc (cs.map V.int) ∧ cs.length ≤ 1000 ∧ SqL K H A (ns.map V.str) ∧ ns.length = 16 ∧
  ∀ (r : Addr) (H' : Hp) (rs : List Row) (fp : List Addr), Same H H' → RowsIn H' r rs fp → RowsOk ns rs → deps rs ≤ 3 → cnts rs ≤ 2 * cs.length + 3 → fp.Nodup → (∀ l ∈ fp, H l = none) → Q (.ref r) H'
end
/-! ### _law_whole, _law_alike, _law_copied, _law_nested -/
/-- data of whole numbers and texts, lists and tuples: n deep at most -/
inductive PlainD : Nat → PyData → Prop where
  | int {n : Nat} (i : Int) : PlainD n (.int i)
  | str {n : Nat} (x : Str) : PlainD n (.str x)
  | lst {n : Nat} {ds : List PyData} (h : ∀ d ∈ ds, PlainD n d) (hl : ds.length ≤ 100000) : PlainD (n + 1) (.list ds)
  | tup {n : Nat} {ds : List PyData} (h : ∀ d ∈ ds, PlainD n d) (hl : ds.length ≤ 100000) : PlainD (n + 1) (.tuple ds)
theorem PlainD.mono {n : Nat} {d : PyData} (h : PlainD n d) : ∀ {m : Nat}, n ≤ m → PlainD m d := by
  induction h with
  | int i => intro m _; exact .int i
  | str x => intro m _; exact .str x
  | lst h hl ih =>
    intro m hm
    obtain ⟨k, rfl⟩ : ∃ k, m = k + 1 := ⟨m - 1, by omega⟩
    exact .lst (fun d hd => ih d hd (by omega)) hl
  | tup h hl ih =>
    intro m hm
    obtain ⟨k, rfl⟩ : ∃ k, m = k + 1 := ⟨m - 1, by omega⟩
    exact .tup (fun d hd => ih d hd (by omega)) hl
theorem DpAll.get {K : PySem.W.Frag} {H : Hp} : ∀ {vs : List V} {ds : List PyData} {i : Nat} {v : V}, DpAll K H vs ds → vs[i]? = some v → ∃ d, ds[i]? = some d ∧ Dp K H v d
  | _, _, i, v, .nil, h => by simp at h
  | _, _, 0, v, .cons h _, e => by
    simp at e
    subst e
    exact ⟨_, rfl, h⟩
  | _, _, i + 1, v, .cons _ h, e => by
    obtain ⟨d, h1, h2⟩ := DpAll.get (i := i) h (by simpa using e)
    exact ⟨d, by simpa using h1, h2⟩
theorem DpAll.len {K : PySem.W.Frag} {H : Hp} : ∀ {vs : List V} {ds : List PyData}, DpAll K H vs ds → vs.length = ds.length
  | _, _, .nil => rfl
  | _, _, .cons _ h => by rw [List.length_cons, List.length_cons, DpAll.len h]
mutual
theorem Dp.mono {K : PySem.W.Frag} {H H' : Hp} (e : Same H H') : ∀ {d : PyData} {v : V}, Dp K H v d → Dp K H' v d
  | .none, _, .non => .non
  | .bool _, _, .bl b => .bl b
  | .int _, _, .int i => .int i
  | .str _, _, .str x => .str x
  | .list ds, _, .lst h ha => .lst (e.seq h) (DpAll.mono e (ds := ds) ha)
  | .tuple ds, _, .tup h ha => .tup (Same.sqt e h) (DpAll.mono e (ds := ds) ha)
  | .dict _, _, h => nomatch h
theorem DpAll.mono {K : PySem.W.Frag} {H H' : Hp} (e : Same H H') : ∀ {ds : List PyData} {vs : List V}, DpAll K H vs ds → DpAll K H' vs ds
  | [], _, .nil => .nil
  | d :: ds, _, .cons h ha => .cons (Dp.mono e (d := d) h) (DpAll.mono e (ds := ds) ha)
end
section
variable {P : Program} {w : World} {K : PySem.W.Frag} {mg : Str → Option Value} {base : Heap}
def spWhole : Sp := fun vs H Q _ => ∃ i : Int, vs = [.int i] ∧ Q (.bl true) H
theorem ok_whole (T : Txt K mg) : CallOk P w K mg base 1 "_law_whole" ["_law_found"] spWhole := by
  refine go_l_whole T.d_l_whole (fun vs H Q E h => ?_) ?_
  · obtain ⟨i, rfl, _⟩ := h
    rfl
  intro X e1 e2 e3 e4 e5 C sc hr vs H Q E h
  subst e1 e2 e3 e4 e5
  obtain ⟨i, rfl, q⟩ := h
  show WSs X _ _ [some (.int i)] H
  have b1 := T.b_isinstance
  have b2 := T.b_int
  have b3 := T.b_bool
  refine s_one ?_
  wtm_at "lm"
  exact q
def spAlike (K : PySem.W.Frag) (n : Nat) : Sp := fun vs H Q _ => ∃ (x y : V) (d : PyData), vs = [x, y] ∧ Dp K H x d ∧ Dp K H y d ∧ PlainD n d ∧ ∀ H', Same H H' → Q (.bl true) H'
theorem all_true (n : Nat) : ((List.range n).map fun _ => true).all _root_.id = true := by
  rw [List.all_eq_true]
  intro b hb
  obtain ⟨_, _, rfl⟩ := List.mem_map.mp hb
  rfl
/-- count blocks, each about the next, the last about the list a -/
inductive NestIn (H : Hp) (ns : List Str) : Addr → Nat → Addr → Prop where
  | zero {a : Addr} : NestIn H ns a 0 a
  | succ {r t r1 a : Addr} {k : Nat} {kd : Kd} {s : Str} (h : H r = some (.lst [.ref t])) (ht : H t = some (.tup [.str kd.nm, .str s, .ref r1])) (hs : s ∈ ns) (hn : NestIn H ns r1 k a) : NestIn H ns r (k + 1) a
theorem NestIn.mono {H H' : Hp} {ns : List Str} {r a : Addr} {k : Nat} (h : NestIn H ns r k a) (e : Same H H') : NestIn H' ns r k a := by
  induction h with
  | zero => exact .zero
  | succ h ht hs _ ih => exact .succ (e _ _ h) (e _ _ ht) hs ih
theorem NestIn.rows {H : Hp} {ns : List Str} {r a : Addr} {k : Nat} (h : NestIn H ns r k a) : ∀ {rs : List Row} {fp : List Addr}, RowsIn H a rs fp → RowsOk ns rs → ∃ rs' fp', RowsIn H r rs' fp' ∧ RowsOk ns rs' ∧ deps rs' = deps rs + k ∧ cnts rs' = cnts rs + k := by
  induction h with
  | zero => intro rs fp h1 h2; exact ⟨rs, fp, h1, h2, rfl, rfl⟩
  | @succ r t r1 a k kd s h ht hs _ ih =>
    intro rs fp h1 h2
    obtain ⟨rs', fp', q1, q2, q3, q4⟩ := ih h1 h2
    refine ⟨[.blk kd s rs'], r :: (fp' ++ []), .mk h (.cons (.blk ht q1) .nil), RowsOk_one (by rw [RowOk]; exact ⟨hs, q2⟩), ?_, ?_⟩
    · rw [deps, deps, Row.dep, q3]
      simp
      omega
    · rw [cnts, cnts, Row.cnt, q4]
      omega
def spNested (K : PySem.W.Frag) : Sp := fun vs H Q _ => ∃ (ns : List Str) (a A : Addr) (m : Nat) (c : Int), vs = [.ref a, .int m, .ref A, .int c] ∧ m ≤ 1000 ∧ SqL K H A (ns.map V.str) ∧ ns.length = 16 ∧
  ∀ (r : Addr) (H' : Hp), Same H H' → NestIn H' ns r m a → Q (.ref r) H'
theorem kind3_of (n : Int) : ∃ kd : Kd, atI ([.str "when", .str "loop", .str "again"] : List V) (n % 3) = some (.str kd.nm) := by
  have : n % 3 = 0 ∨ n % 3 = 1 ∨ n % 3 = 2 := by omega
  rcases this with h | h | h <;> rw [h]
  · exact ⟨.whn, rfl⟩
  · exact ⟨.lop, rfl⟩
  · exact ⟨.agn, rfl⟩
/-- a program is copied: lists of its own -/
def spCopied (n : Nat) : Sp := fun vs H Q _ => ∃ (a : Addr) (rs : List Row) (fp : List Addr), vs = [.ref a] ∧ RowsIn H a rs fp ∧ deps rs ≤ n ∧ cnts rs ≤ 100000 ∧
  ∀ (r : Addr) (H' : Hp) (fp' : List Addr), Same H H' → RowsIn H' r rs fp' → (∀ l ∈ fp', H l = none) → fp'.Nodup → Q (.ref r) H'
/-- a part of a copy that is under way: D is the list that is made, its rows have lists fp, all new, none twice -/
structure Made (H H' : Hp) (D : Addr) (rs : List Row) : Prop where
  same : Same H H'
  ex : ∃ vs fp, H' D = some (.lst vs) ∧ AllIn H' vs rs fp ∧ (D :: fp).Nodup ∧ ∀ l ∈ D :: fp, H l = none
theorem Made.put {H H' H2 : Hp} {D : Addr} {rs : List Row} (m : Made H H' D rs) {v : V} {r : Row} {g : List Addr} (s : Same H' H2) (h : RowIn H2 v r g) (hg : ∀ l ∈ g, H' l = none) (nd : g.Nodup) : ∃ vs, H2 D = some (.lst vs) ∧ vs.length = rs.length ∧ Made H (upd H2 D (.lst (vs ++ [v]))) D (rs ++ [r]) := by
  obtain ⟨vs, fp, h1, h2, h3, h4⟩ := m.ex
  have hD := s _ _ h1
  have nf := h3
  rw [List.nodup_cons] at nf
  have gD : D ∉ g := fun z => by rw [hg D z] at h1; cases h1
  refine ⟨vs, hD, h2.len, Same.mut (m.same.trans s) (h4 D List.mem_cons_self), vs ++ [v], fp ++ g, upd_same, ((h2.mono s).snoc h).keep (Kept.upd hD fun z => (List.mem_append.mp z).elim nf.1 gD), ?_, fun l hl => ?_⟩
  · rw [← List.cons_append]
    refine List.nodup_append.mpr ⟨h3, nd, fun x hx y hy e => ?_⟩
    subst e
    have hn := hg x hy
    rcases List.mem_cons.mp hx with rfl | hx
    · exact gD hy
    · obtain ⟨xs, e⟩ := h2.at x hx
      rw [e] at hn
      cases hn
  · rw [← List.cons_append] at hl
    rcases List.mem_append.mp hl with hl | hl
    · exact h4 l hl
    · exact m.same.free (hg l hl)
theorem Made.new {H H' : Hp} {D : Addr} (s : Same H H') (hD : H D = none) (h : H' D = some (.lst [])) : Made H H' D [] := ⟨s, [], [], h, .nil, by simp, fun l hl => by rw [List.mem_singleton.mp hl]; exact hD⟩
theorem Made.done {H H' : Hp} {D : Addr} {rs : List Row} (m : Made H H' D rs) : ∃ fp, RowsIn H' D rs fp ∧ (∀ l ∈ fp, H l = none) ∧ fp.Nodup := by
  obtain ⟨vs, fp, h1, h2, h3, h4⟩ := m.ex
  exact ⟨D :: fp, .mk h1 h2, h4, h3⟩
theorem ok_copied (T : Txt K mg) (n : Nat) : CallOk P w K mg base (n + 1) "_law_copied" ["_law_rows"] (spCopied n) := by
  induction n using Nat.strongRecOn with
  | ind n ih =>
    refine go_l_copied T.d_l_copied (fun vs H Q E h => ?_) ?_
    · obtain ⟨a, rs, fp, rfl, _⟩ := h
      rfl
    intro X e1 e2 e3 e4 e5 C sc hr vs H Q E h
    subst e1 e2 e3 e4 e5
    obtain ⟨a, rs, fp, rfl, hR, hd, hc, q⟩ := h
    show WSs X _ _ [some (.ref a), none, none] H
    have b1 := T.b_len
    cases hR with
    | @mk _ vs _ fp h ha =>
    have vl := ha.len
    have lc := len_cnts rs
    refine s_cons ?_
    wtm_at "lm"
    intro D H1 hD s1 h1
    have h11 := s1 _ _ h
    wtm_at "lm"
    refine wi_list ?_
    wtm_at "lm"
    refine for_l (fun i σ' H' => i ≤ vs.length ∧ ∃ (o : Option V), σ' = [some (.ref a), some (.ref D), o] ∧ Made H H' D (rs.take i)) ⟨Nat.zero_le _, none, rfl, .new s1 hD h1⟩ (fun i σ' H' _ ⟨_, o, _, m⟩ => SqL.of (m.same _ _ h)) ?_ ?_
    · rintro i v σ' H' hi ⟨_, o, rfl, m⟩
      refine ⟨_, by wtm_at "lm.put", ?_⟩
      obtain ⟨r, f, hr1, hr2, _⟩ := ha.get hi
      have hr3 := hr2.mono m.same
      have hil : i < vs.length := (List.getElem?_eq_some_iff.mp hi).1
      have rl : (rs.take i).length = i := by rw [List.length_take]; omega
      obtain ⟨ws, _, m1, _, _⟩ := m.ex
      have tk := take_succ hr1
      refine s_one ?_
      cases hr3 with
      | @lt t to sg x y ht =>
        wtm_at "lm"
        obtain ⟨us, e1, e2, m2⟩ := m.put (Same.refl _) (RowIn.lt ht) (fun l hl => nomatch hl) .nil
        refine x_app e1 (by omega) ?_
        wtm_at "lm"
        exact ⟨hil, _, rfl, by rw [tk]; exact m2⟩
      | @say t x ht =>
        wtm_at "lm"
        obtain ⟨us, e1, e2, m2⟩ := m.put (Same.refl _) (RowIn.say ht) (fun l hl => nomatch hl) .nil
        refine x_app e1 (by omega) ?_
        wtm_at "lm"
        exact ⟨hil, _, rfl, by rw [tk]; exact m2⟩
      | @blk t b kd s rs' g ht hb =>
        have mem := List.mem_of_getElem? hr1
        have d1 := deps_mem mem
        have c1 := cnts_mem mem
        rw [Row.dep] at d1
        rw [Row.cnt] at c1
        obtain ⟨k, rfl⟩ : ∃ k, n = k + 1 := ⟨n - 1, by omega⟩
        have G := ih k (Nat.lt_succ_self k)
        wtm_at "lm"
        refine ⟨b, rs', _, rfl, hb, by omega, by omega, fun r H2 fp' s2 k1 k2 k3 => ?_⟩
        wtm_at "lm"
        intro t' H3 ht' s3 h3
        obtain ⟨us, e1, e2, m2⟩ := m.put (s2.trans s3) (RowIn.blk (kd := kd) (s := s) h3 (k1.mono s3)) k2 k3
        refine x_app e1 (by omega) ?_
        wtm_at "lm"
        exact ⟨hil, _, rfl, by rw [tk]; exact m2⟩
    · rintro σ' H' ⟨_, o, rfl, m⟩
      wtm_at "lm"
      rw [take_all (by omega)] at m
      obtain ⟨fp', k1, k2, k3⟩ := m.done
      exact q D H' fp' m.same k1 k2 k3
end
/-! ### a dict whose keys are what counts -/
def putAll (kvs : List (Key × V)) (ks : List Key) : List (Key × V) := ks.foldl (fun a k => putK a k (.bl true)) kvs
theorem putAll_append (kvs : List (Key × V)) (ks ls : List Key) : putAll kvs (ks ++ ls) = putAll (putAll kvs ks) ls := List.foldl_append
theorem putAll_one (kvs : List (Key × V)) (k : Key) : putAll kvs [k] = putK kvs k (.bl true) := rfl
theorem putAll_len : ∀ (ks : List Key) (kvs : List (Key × V)), (putAll kvs ks).length ≤ kvs.length + ks.length
  | [], kvs => Nat.le_refl _
  | k :: ks, kvs => by
    have h1 := putAll_len ks (putK kvs k (.bl true))
    have h2 := length_putK kvs k (.bl true)
    show (putAll (putK kvs k (.bl true)) ks).length ≤ _
    rw [List.length_cons]
    omega
theorem valV_none_iff {kvs : List (Key × V)} {k : Key} : valV kvs k = none ↔ k ∉ kvs.map (·.1) := by
  have h := valV_any k kvs
  constructor
  · intro e hm
    rw [e] at h
    obtain ⟨kv, h1, h2⟩ := List.mem_map.mp hm
    have : (kvs.any fun kv => decide (kv.1 = k)) = true := List.any_eq_true.mpr ⟨kv, h1, by simp [h2]⟩
    rw [this] at h
    cases h
  · intro hm
    cases e : valV kvs k with
    | none => rfl
    | some v =>
      rw [e] at h
      obtain ⟨kv, h1, h2⟩ := List.any_eq_true.mp (show (kvs.any fun kv => decide (kv.1 = k)) = true from h)
      exact absurd (List.mem_map.mpr ⟨kv, h1, of_decide_eq_true h2⟩) hm
theorem keys_putK_in (kvs : List (Key × V)) (k : Key) (v : V) (h : k ∈ kvs.map (·.1)) : (putK kvs k v).map (·.1) = kvs.map (·.1) := by
  have a : (kvs.any fun kv => decide (kv.1 = k)) = true := by
    obtain ⟨kv, h1, h2⟩ := List.mem_map.mp h
    exact List.any_eq_true.mpr ⟨kv, h1, by simp [h2]⟩
  unfold putK
  rw [if_pos a, List.map_map]
  refine List.map_congr_left fun kv _ => ?_
  show (if kv.1 = k then (kv.1, v) else kv).1 = kv.1
  split <;> rfl
theorem keys_putK_new (kvs : List (Key × V)) (k : Key) (v : V) (h : k ∉ kvs.map (·.1)) : (putK kvs k v).map (·.1) = kvs.map (·.1) ++ [k] := by
  rw [putK_new v (valV_none_iff.mpr h), List.map_append]
  rfl
theorem putAll_nd : ∀ (ks : List Key) (kvs : List (Key × V)), (kvs.map (·.1)).Nodup → ((putAll kvs ks).map (·.1)).Nodup
  | [], _, h => h
  | k :: ks, kvs, h => by
    refine putAll_nd ks (putK kvs k (.bl true)) ?_
    by_cases hm : k ∈ kvs.map (·.1)
    · rw [keys_putK_in _ _ _ hm]
      exact h
    · rw [keys_putK_new _ _ _ hm]
      exact List.nodup_append.mpr ⟨h, by simp, fun a ha b hb e => hm (by rw [List.mem_singleton.mp hb] at e; exact e ▸ ha)⟩
theorem putAll_mem (x : Key) : ∀ (ks : List Key) (kvs : List (Key × V)), x ∈ (putAll kvs ks).map (·.1) ↔ x ∈ kvs.map (·.1) ∨ x ∈ ks
  | [], kvs => by simp [putAll]
  | k :: ks, kvs => by
    show x ∈ (putAll (putK kvs k (.bl true)) ks).map (·.1) ↔ _
    rw [putAll_mem x ks]
    by_cases hm : k ∈ kvs.map (·.1)
    · rw [keys_putK_in _ _ _ hm]
      constructor
      · rintro (h | h)
        · exact .inl h
        · exact .inr (List.mem_cons_of_mem _ h)
      · rintro (h | h)
        · exact .inl h
        · rcases List.mem_cons.mp h with rfl | h
          · exact .inl hm
          · exact .inr h
    · rw [keys_putK_new _ _ _ hm, List.mem_append, List.mem_singleton, List.mem_cons, or_assoc]
/-- texts in order, none twice, the same ones: the same list -/
theorem rising_ge : ∀ (l : List Str) (p : Str), risingS p l = true → (p :: l).Pairwise fun a b => ¬ b.cps.toList < a.cps.toList
  | [], p, _ => by simp
  | x :: r, p, h => by
    have h1 : (!Spec.ltCps x.cps.toList p.cps.toList && risingS x r) = true := h
    rw [Bool.and_eq_true, ltCps_eq, Bool.not_eq_true', decide_eq_false_iff_not] at h1
    have ih := rising_ge r x h1.2
    refine List.pairwise_cons.mpr ⟨fun y hy => ?_, ih⟩
    rcases List.mem_cons.mp hy with rfl | hy
    · exact h1.1
    · have h2 := (List.pairwise_cons.mp ih).1 y hy
      exact fun z => List.not_lt.mpr (List.le_trans (List.not_lt.mp h1.1) (List.not_lt.mp h2)) z
theorem sorted_ge {l : List Str} (h : sortedS l = true) : l.Pairwise fun a b => ¬ b.cps.toList < a.cps.toList := by
  cases l with
  | nil => exact .nil
  | cons p r => exact rising_ge r p h
theorem sorted_one {l m : List Str} (h1 : sortedS l = true) (h2 : sortedS m = true) (n1 : l.Nodup) (n2 : m.Nodup) (h : ∀ s, s ∈ l ↔ s ∈ m) : l = m := by
  refine List.Perm.eq_of_pairwise (fun a b _ _ p q => ?_) (sorted_ge h1) (sorted_ge h2) ((List.perm_ext_iff_of_nodup n1 n2).mpr h)
  have e : a.cps.toList = b.cps.toList := List.le_antisymm (List.not_lt.mp p) (List.not_lt.mp q)
  rw [tx_of a, tx_of b, e]
/-- from H to H' nothing changed but what stands at d -/
def But1 (d : Addr) (H H' : Hp) : Prop := ∀ l o, l ≠ d → H l = some o → H' l = some o
theorem But1.refl {d : Addr} {H : Hp} : But1 d H H := fun _ _ _ h => h
theorem But1.trans {d : Addr} {H H1 H2 : Hp} (a : But1 d H H1) (b : But1 d H1 H2) : But1 d H H2 := fun l o h q => b l o h (a l o h q)
theorem But1.same {d : Addr} {H H1 H2 : Hp} (a : But1 d H H1) (s : Same H1 H2) : But1 d H H2 := fun l o h q => s l o (a l o h q)
theorem But1.upd {d : Addr} {H H1 : Hp} {o : HO} (a : But1 d H H1) : But1 d H (upd H1 d o) := fun l u h q => by rw [upd_ne h]; exact a l u h q
theorem But1.kept {d : Addr} {H H' : Hp} {fp : List Addr} {kvs : List (Key × V)} (k : But1 d H H') (hd : H d = some (.dK kvs)) (h : ∀ l ∈ fp, ∃ xs, H l = some (.lst xs)) : Kept fp H H' :=
  ⟨fun t xs q => k t _ (ne_of q hd fun z => nomatch z) q, fun l hl => by obtain ⟨xs, q⟩ := h l hl; rw [q]; exact k l _ (ne_of q hd fun z => nomatch z) q⟩
/-- what was not there before may change -/
theorem But1.new {d : Addr} {H H1 H2 : Hp} (s : Same H H1) (hd : H d = none) (k : But1 d H1 H2) : Same H H2 := fun l o q => k l o (ne_of_none q hd) (s l o q)
/-! ### what rows read and set, whether they fail, whether they speak -/
mutual
def Row.rd : Row → List Key
  | .lt _ _ x y => [x, y]
  | .say x => [x]
  | .blk _ s rs => .inr s :: rds rs
def rds : List Row → List Key
  | [] => []
  | r :: rs => r.rd ++ rds rs
end
mutual
def Row.st : Row → List Key
  | .lt to _ _ _ => [.inr to]
  | .say _ => []
  | .blk _ _ rs => sts rs
def sts : List Row → List Key
  | [] => []
  | r :: rs => r.st ++ sts rs
end
def divs (sg : Sg) (y : Key) : Bool := decide (sg = .div) && (match y with | .inl i => decide (i = 0) | .inr _ => true)
mutual
def Row.mf : Row → Bool
  | .lt _ sg _ y => divs sg y
  | .say _ => false
  | .blk _ _ rs => mfs rs
def mfs : List Row → Bool
  | [] => false
  | r :: rs => r.mf || mfs rs
end
mutual
def Row.sp : Row → Bool
  | .lt _ _ _ _ => false
  | .say _ => true
  | .blk _ _ rs => sps rs
def sps : List Row → Bool
  | [] => false
  | r :: rs => r.sp || sps rs
end
theorem rds_append : ∀ rs ss : List Row, rds (rs ++ ss) = rds rs ++ rds ss
  | [], ss => rfl
  | r :: rs, ss => by rw [List.cons_append, rds, rds, rds_append rs ss, List.append_assoc]
theorem sts_append : ∀ rs ss : List Row, sts (rs ++ ss) = sts rs ++ sts ss
  | [], ss => rfl
  | r :: rs, ss => by rw [List.cons_append, sts, sts, sts_append rs ss, List.append_assoc]
theorem mfs_append : ∀ rs ss : List Row, mfs (rs ++ ss) = (mfs rs || mfs ss)
  | [], ss => rfl
  | r :: rs, ss => by rw [List.cons_append, mfs, mfs, mfs_append rs ss, Bool.or_assoc]
theorem sps_append : ∀ rs ss : List Row, sps (rs ++ ss) = (sps rs || sps ss)
  | [], ss => rfl
  | r :: rs, ss => by rw [List.cons_append, sps, sps, sps_append rs ss, Bool.or_assoc]
theorem rds_one (r : Row) : rds [r] = r.rd := by rw [rds, rds, List.append_nil]
theorem sts_one (r : Row) : sts [r] = r.st := by rw [sts, sts, List.append_nil]
theorem mfs_one (r : Row) : mfs [r] = r.mf := by rw [mfs, mfs, Bool.or_false]
theorem sps_one (r : Row) : sps [r] = r.sp := by rw [sps, sps, Bool.or_false]
mutual
theorem Row.rd_len : ∀ r : Row, r.rd.length ≤ 2 * r.cnt
  | .lt _ _ _ _ => by rw [Row.rd, Row.cnt]; exact Nat.le_refl _
  | .say _ => by rw [Row.rd, Row.cnt]; exact Nat.le_succ _
  | .blk _ _ rs => by rw [Row.rd, Row.cnt, List.length_cons]; have := rds_len rs; omega
theorem rds_len : ∀ rs : List Row, (rds rs).length ≤ 2 * cnts rs
  | [] => by rw [rds, cnts]; decide
  | r :: rs => by rw [rds, cnts, List.length_append]; have := Row.rd_len r; have := rds_len rs; omega
end
mutual
theorem Row.st_len : ∀ r : Row, r.st.length ≤ r.cnt
  | .lt _ _ _ _ => by rw [Row.st, Row.cnt]; exact Nat.le_refl _
  | .say _ => by rw [Row.st, Row.cnt]; decide
  | .blk _ _ rs => by rw [Row.st, Row.cnt]; have := sts_len rs; omega
theorem sts_len : ∀ rs : List Row, (sts rs).length ≤ cnts rs
  | [] => by rw [sts, cnts]; decide
  | r :: rs => by rw [sts, cnts, List.length_append]; have := Row.st_len r; have := sts_len rs; omega
end
/-- the names among keys -/
def isS : Key → Bool
  | .inl _ => false
  | .inr _ => true
def onlyS (ks : List Key) : List Key := ks.filter isS
theorem onlyS_append (ks ls : List Key) : onlyS (ks ++ ls) = onlyS ks ++ onlyS ls := List.filter_append _ _
theorem onlyS_len (ks : List Key) : (onlyS ks).length ≤ ks.length := List.length_filter_le _ _
section
variable {P : Program} {w : World} {K : PySem.W.Frag} {mg : Str → Option Value} {base : Heap}
/-- the names that gathered puts -/
def names (b : Bool) (rs : List Row) : List Key := if b = true then onlyS (rds rs) else sts rs
theorem names_append (b : Bool) (rs ss : List Row) : names b (rs ++ ss) = names b rs ++ names b ss := by
  unfold names
  split
  · rw [rds_append, onlyS_append]
  · rw [sts_append]
theorem names_len (b : Bool) (rs : List Row) : (names b rs).length ≤ 2 * cnts rs := by
  unfold names
  have h1 := rds_len rs
  have h2 := onlyS_len (rds rs)
  have h3 := sts_len rs
  split <;> omega
def spOperands : Sp := fun vs H Q _ => ∃ (t : Addr) (r : Row), vs = [.ref t] ∧ RowIn H (.ref t) r [] ∧ r.dep = 0 ∧ ∀ (p : Addr) (H' : Hp), Same H H' → H' p = some (.tup (r.rd.map kV)) → Q (.ref p) H'
theorem ok_operands (T : Txt K mg) : CallOk P w K mg base 1 "operands" ["row"] spOperands := by
  refine go_p_operands T.d_p_operands (fun vs H Q E h => ?_) ?_
  · obtain ⟨t, r, rfl, _⟩ := h
    rfl
  intro X e1 e2 e3 e4 e5 C sc hr vs H Q E h
  subst e1 e2 e3 e4 e5
  obtain ⟨t, r, rfl, hR, hd, q⟩ := h
  show WSs X _ _ [some (.ref t)] H
  refine s_cons ?_
  cases hR with
  | @lt _ to sg x y ht =>
    wtm_at "lm"
    refine l_tup (SqT.of ht) (by show ¬ (HT.sIx 5 0 (some 3) = 0 ∧ HT.sIx 5 5 none = 5); decide) ?_
    intro p H' hp s h'
    exact q p H' s h'
  | @say _ x ht =>
    wtm_at "lm"
    refine l_tup (SqT.of ht) (by show ¬ (HT.sIx 2 0 (some 1) = 0 ∧ HT.sIx 2 2 none = 2); decide) ?_
    intro p H' hp s h'
    exact q p H' s h'
  | blk _ _ => cases hd
/-- names are put into the dict at d -/
def spGathered (n : Nat) : Sp := fun vs H Q _ => ∃ (a d : Addr) (b : Bool) (rs : List Row) (fp : List Addr) (kvs : List (Key × V)), vs = [.ref a, .ref d, .bl b] ∧ RowsIn H a rs fp ∧ deps rs ≤ n ∧ H d = some (.dK kvs) ∧ kvs.length + 2 * cnts rs ≤ 200000 ∧
  ∀ H', But1 d H H' → H' d = some (.dK (putAll kvs (names b rs))) → Q .non H'
theorem RowIn.flat {H : Hp} {v : V} {r : Row} {f : List Addr} (h : RowIn H v r f) (hd : r.dep = 0) : f = [] := by
  cases h with
  | lt _ => rfl
  | say _ => rfl
  | blk _ _ => cases hd
theorem ok_gathered (T : Txt K mg) (n : Nat) : CallOk P w K mg base (n + 2) "gathered" ["rows", "found", "is_read"] (spGathered n) := by
  have G1 : CallOk P w K mg base 1 "operands" ["row"] spOperands := ok_operands T
  induction n using Nat.strongRecOn with
  | ind n ih =>
    refine go_p_gathered T.d_p_gathered (fun vs H Q E h => ?_) ?_
    · obtain ⟨a, d, b, rs, fp, kvs, rfl, _⟩ := h
      rfl
    intro X e1 e2 e3 e4 e5 C sc hr vs H Q E h
    subst e1 e2 e3 e4 e5
    obtain ⟨a, d, b, rs, fp, kvs, rfl, hR, hd, hD, hc, q⟩ := h
    show WSs X _ _ [some (.ref a), some (.ref d), some (.bl b), none, none] H
    obtain ⟨aB, mB, hB⟩ := T.c_BLOCKS
    have b1 := T.b_isinstance
    have b2 := T.b_str
    have at1 := hR.at
    cases hR with
    | @mk _ vs _ fp h ha =>
    have vl := ha.len
    have hu := hu_of hr
    refine s_one ?_
    wtm_at "lm"
    refine wi_list ?_
    wtm_at "lm"
    refine for_l (fun i σ' H' => i ≤ vs.length ∧ ∃ (o1 o2 : Option V), σ' = [some (.ref a), some (.ref d), some (.bl b), o1, o2] ∧ But1 d H H' ∧ H' d = some (.dK (putAll kvs (names b (rs.take i))))) ⟨Nat.zero_le _, _, _, rfl, But1.refl, by rw [List.take_zero]; cases b <;> exact hD⟩ (fun i σ' H' _ ⟨_, o1, o2, _, m, _⟩ => SqL.of (m _ _ (ne_of h hD fun z => nomatch z) h)) ?_ ?_
    · rintro i v σ' H' hi ⟨_, o1, o2, rfl, m, hD'⟩
      refine ⟨_, by wtm_at "lm.put", ?_⟩
      obtain ⟨r, f, hr1, hr2, hf⟩ := ha.get hi
      have hr3 := hr2.keep (m.kept hD fun l hl => at1 l (List.mem_cons_of_mem _ (hf l hl)))
      have hil : i < vs.length := (List.getElem?_eq_some_iff.mp hi).1
      have tk := take_succ hr1
      have mem := List.mem_of_getElem? hr1
      have d1 := deps_mem mem
      have ct : cnts (rs.take i) + r.cnt ≤ cnts rs := by
        have e := List.take_append_drop (i + 1) rs
        have := congrArg cnts e
        rw [cnts_append, tk, cnts_append, cnts, cnts] at this
        omega
      have nl := names_len b (rs.take i)
      have pl := putAll_len (names b (rs.take i)) kvs
      have step : ∀ H2, But1 d H H2 → H2 d = some (.dK (putAll (putAll kvs (names b (rs.take i))) (names b [r]))) → i + 1 ≤ vs.length ∧ ∃ (o1' o2' : Option V), [some (V.ref a), some (.ref d), some (.bl b), some v, o2] = [some (.ref a), some (.ref d), some (.bl b), o1', o2'] ∧ But1 d H H2 ∧ H2 d = some (.dK (putAll kvs (names b (rs.take (i + 1))))) :=
        fun H2 k1 k2 => ⟨hil, _, _, rfl, k1, by rw [tk, names_append, putAll_append]; exact k2⟩
      refine s_one ?_
      cases hr3 with
      | @lt t to sg x y ht =>
        cases b with
        | false =>
          wtm_at "lm"
          refine p_dS hu hD' (szl (by rw [Row.cnt] at ct; omega)) ?_
          wtm_at "lm"
          exact step _ m.upd (by rw [upd_same]; rfl)
        | true =>
          wtm_at "lm"
          refine wi_tup ?_
          wtm_at "lm"
          refine ⟨t, _, rfl, .lt ht, rfl, fun p H2 s2 h2 => ?_⟩
          wtm_at "lm"
          refine for_t (fun j σ2 H3 => ∃ o2' : Option V, σ2 = [some (.ref a), some (.ref d), some (.bl true), some (.ref t), o2'] ∧ But1 d H H3 ∧ H3 p = some (.tup ([x, y].map kV)) ∧ H3 d = some (.dK (putAll (putAll kvs (names true (rs.take i))) (onlyS ([x, y].take j))))) ⟨_, rfl, m.same s2, h2, s2 _ _ hD'⟩ (fun j σ2 H3 _ ⟨_, _, _, k3, _⟩ => SqT.of k3) ?_ ?_
          · rintro j v2 σ2 H3 hj ⟨o2', rfl, k1, k2, k3⟩
            refine ⟨_, by wtm_at "lm.put", ?_⟩
            rw [List.getElem?_map] at hj
            obtain ⟨key, hk, rfl⟩ := Option.map_eq_some_iff.mp hj
            have tk2 := take_succ hk
            have l2 := putAll_len (onlyS ([x, y].take j)) (putAll kvs (names true (rs.take i)))
            have l3 := onlyS_len ([x, y].take j)
            have l4 : ([x, y].take j).length ≤ 2 := Nat.le_trans (List.length_take_le' _ _) (by first | exact Nat.le_refl _ | exact Nat.le_succ _)
            have pd : p ≠ d := ne_of k2 k3 fun z => nomatch z
            rw [Row.cnt] at ct
            cases key with
            | inl z =>
              show WSs X _ _ [_, _, _, _, some (.int z)] _
              wtm_at "lm"
              refine ⟨_, rfl, k1, k2, ?_⟩
              rw [tk2, onlyS_append]
              show _ = some (HO.dK (putAll _ (_ ++ [])))
              rw [List.append_nil]
              exact k3
            | inr z =>
              show WSs X _ _ [_, _, _, _, some (.str z)] _
              wtm_at "lm"
              refine p_dS hu k3 (szl (by omega)) ?_
              wtm_at "lm"
              refine ⟨_, rfl, k1.upd, by rw [upd_ne pd]; exact k2, ?_⟩
              rw [upd_same, tk2, onlyS_append, putAll_append]
              rfl
          · rintro σ2 H3 ⟨o2', rfl, k1, k2, k3⟩
            rw [show ([x, y] : List Key).take (([x, y] : List Key).map kV).length = [x, y] from rfl] at k3
            obtain ⟨g1, _, _, _, g3⟩ := step H3 k1 (by unfold names; rw [if_pos rfl, rds_one]; exact k3)
            refine ⟨g1, _, _, rfl, g3⟩
      | @say t x ht =>
        cases b with
        | false =>
          wtm_at "lm"
          exact step _ m hD'
        | true =>
          wtm_at "lm"
          refine wi_tup ?_
          wtm_at "lm"
          refine ⟨t, _, rfl, .say ht, rfl, fun p H2 s2 h2 => ?_⟩
          wtm_at "lm"
          refine for_t (fun j σ2 H3 => ∃ o2' : Option V, σ2 = [some (.ref a), some (.ref d), some (.bl true), some (.ref t), o2'] ∧ But1 d H H3 ∧ H3 p = some (.tup ([x].map kV)) ∧ H3 d = some (.dK (putAll (putAll kvs (names true (rs.take i))) (onlyS ([x].take j))))) ⟨_, rfl, m.same s2, h2, s2 _ _ hD'⟩ (fun j σ2 H3 _ ⟨_, _, _, k3, _⟩ => SqT.of k3) ?_ ?_
          · rintro j v2 σ2 H3 hj ⟨o2', rfl, k1, k2, k3⟩
            refine ⟨_, by wtm_at "lm.put", ?_⟩
            rw [List.getElem?_map] at hj
            obtain ⟨key, hk, rfl⟩ := Option.map_eq_some_iff.mp hj
            have tk2 := take_succ hk
            have l2 := putAll_len (onlyS ([x].take j)) (putAll kvs (names true (rs.take i)))
            have l3 := onlyS_len ([x].take j)
            have l4 : ([x].take j).length ≤ 2 := Nat.le_trans (List.length_take_le' _ _) (by first | exact Nat.le_refl _ | exact Nat.le_succ _)
            have pd : p ≠ d := ne_of k2 k3 fun z => nomatch z
            rw [Row.cnt] at ct
            cases key with
            | inl z =>
              show WSs X _ _ [_, _, _, _, some (.int z)] _
              wtm_at "lm"
              refine ⟨_, rfl, k1, k2, ?_⟩
              rw [tk2, onlyS_append]
              show _ = some (HO.dK (putAll _ (_ ++ [])))
              rw [List.append_nil]
              exact k3
            | inr z =>
              show WSs X _ _ [_, _, _, _, some (.str z)] _
              wtm_at "lm"
              refine p_dS hu k3 (szl (by omega)) ?_
              wtm_at "lm"
              refine ⟨_, rfl, k1.upd, by rw [upd_ne pd]; exact k2, ?_⟩
              rw [upd_same, tk2, onlyS_append, putAll_append]
              rfl
          · rintro σ2 H3 ⟨o2', rfl, k1, k2, k3⟩
            rw [show ([x] : List Key).take (([x] : List Key).map kV).length = [x] from rfl] at k3
            obtain ⟨g1, _, _, _, g3⟩ := step H3 k1 (by unfold names; rw [if_pos rfl, rds_one]; exact k3)
            refine ⟨g1, _, _, rfl, g3⟩
      | @blk t c kd s rs' g ht hb =>
        rw [Row.dep] at d1
        rw [Row.cnt] at ct
        obtain ⟨k, rfl⟩ : ∃ k, n = k + 1 := ⟨n - 1, by omega⟩
        have G := ih k (Nat.lt_succ_self k)
        cases b with
        | false =>
          wtm_at "lm"
          refine ⟨c, d, false, rs', _, _, rfl, hb, by omega, hD', by omega, fun H2 k1 k2 => ?_⟩
          wtm_at "lm"
          exact step _ (m.trans k1) (by rw [k2]; show some (HO.dK (putAll _ (sts rs'))) = some (HO.dK (putAll _ (sts [_]))); rw [sts_one, Row.st])
        | true =>
          wtm_at "lm"
          refine p_dS hu hD' (szl (by omega)) ?_
          have ht2 : upd H' d (.dK (putK (putAll kvs (names true (rs.take i))) (.inr s) (.bl true))) t = some (.tup [.str kd.nm, .str s, .ref c]) := by rw [upd_ne (ne_of ht hD' fun z => nomatch z)]; exact ht
          wtm_at "lm"
          have hb2 : RowsIn (upd H' d (.dK (putK (putAll kvs (names true (rs.take i))) (.inr s) (.bl true)))) c rs' _ := hb.keep ((But1.refl (d := d)).upd.kept hD' hb.at)
          have lk := length_putK (putAll kvs (names true (rs.take i))) (.inr s) (.bl true)
          refine ⟨c, d, true, rs', _, _, rfl, hb2, by omega, upd_same, by omega, fun H2 k1 k2 => ?_⟩
          wtm_at "lm"
          exact step _ (m.upd.trans k1) (by rw [k2]; unfold names; rw [if_pos rfl, if_pos rfl, rds_one, Row.rd]; rfl)
    · rintro σ' H' ⟨_, o1, o2, rfl, m, hD'⟩
      rw [take_all (by omega)] at hD'
      exact q H' m hD'
end
theorem sg_div (sg : Sg) : sg.nm = ("/" : Str) ↔ sg = .div := by
  cases sg
  all_goals (constructor <;> intro h <;> first | rfl | exact absurd h (by decide +kernel) | cases h)
theorem take_ct {rs : List Row} {i : Nat} {r : Row} (h : rs[i]? = some r) : cnts (rs.take i) + r.cnt ≤ cnts rs := by
  have e := List.take_append_drop (i + 1) rs
  have := congrArg cnts e
  rw [cnts_append, take_succ h, cnts_append, cnts, cnts] at this
  omega
section
variable {P : Program} {w : World} {K : PySem.W.Frag} {mg : Str → Option Value} {base : Heap}
/-- a search down the rows: f of the rows, true where some row is so -/
def spFind (n : Nat) (f : List Row → Bool) : Sp := fun vs H Q _ => ∃ (a : Addr) (rs : List Row) (fp : List Addr), vs = [.ref a] ∧ RowsIn H a rs fp ∧ deps rs ≤ n ∧ ∀ H', Same H H' → Q (.bl (f rs)) H'
theorem mfs_at {rs : List Row} {i : Nat} {r : Row} (h : rs[i]? = some r) (hr : r.mf = true) : mfs rs = true := by
  have e := List.take_append_drop (i + 1) rs
  rw [← e, mfs_append, take_succ h, mfs_append, mfs_one, hr]
  simp
theorem sps_at {rs : List Row} {i : Nat} {r : Row} (h : rs[i]? = some r) (hr : r.sp = true) : sps rs = true := by
  have e := List.take_append_drop (i + 1) rs
  rw [← e, sps_append, take_succ h, sps_append, sps_one, hr]
  simp
theorem mfs_no {rs : List Row} {i : Nat} {r : Row} (h : rs[i]? = some r) (h0 : mfs (rs.take i) = false) (hr : r.mf = false) : mfs (rs.take (i + 1)) = false := by
  rw [take_succ h, mfs_append, mfs_one, h0, hr]
  rfl
theorem sps_no {rs : List Row} {i : Nat} {r : Row} (h : rs[i]? = some r) (h0 : sps (rs.take i) = false) (hr : r.sp = false) : sps (rs.take (i + 1)) = false := by
  rw [take_succ h, sps_append, sps_one, h0, hr]
  rfl
theorem divs_no {sg : Sg} {y : Key} (h : ¬ sg = .div) : divs sg y = false := by
  unfold divs
  rw [decide_eq_false h]
  rfl
theorem ok_may_fail (T : Txt K mg) (n : Nat) : CallOk P w K mg base (n + 1) "may_fail" ["rows"] (spFind n mfs) := by
  induction n using Nat.strongRecOn with
  | ind n ih =>
    refine go_p_may_fail T.d_p_may_fail (fun vs H Q E h => ?_) ?_
    · obtain ⟨a, rs, fp, rfl, _⟩ := h
      rfl
    intro X e1 e2 e3 e4 e5 C sc hr vs H Q E h
    subst e1 e2 e3 e4 e5
    obtain ⟨a, rs, fp, rfl, hR, hd, q⟩ := h
    show WSs X _ _ [some (.ref a), none] H
    obtain ⟨aB, mB, hB⟩ := T.c_BLOCKS
    have b1 := T.b_isinstance
    have b2 := T.b_str
    cases hR with
    | @mk _ vs _ fp h ha =>
    have vl := ha.len
    refine s_cons ?_
    wtm_at "lm"
    refine wi_list ?_
    wtm_at "lm"
    refine for_l (fun i σ' H' => i ≤ vs.length ∧ ∃ (o : Option V), σ' = [some (.ref a), o] ∧ Same H H' ∧ mfs (rs.take i) = false) ⟨Nat.zero_le _, _, rfl, Same.refl H, by rw [List.take_zero]; rfl⟩ (fun i σ' H' _ ⟨_, o, _, m, _⟩ => SqL.of (m _ _ h)) ?_ ?_
    · rintro i v σ' H' hi ⟨_, o, rfl, m, hm⟩
      refine ⟨_, by wtm_at "lm.put", ?_⟩
      obtain ⟨r, f, hr1, hr2, hf⟩ := ha.get hi
      have hr3 := hr2.mono m
      have hil : i < vs.length := (List.getElem?_eq_some_iff.mp hi).1
      have d1 := deps_mem (List.mem_of_getElem? hr1)
      have go : ∀ H2, Same H' H2 → r.mf = false → i + 1 ≤ vs.length ∧ ∃ (o' : Option V), [some (V.ref a), some v] = [some (.ref a), o'] ∧ Same H H2 ∧ mfs (rs.take (i + 1)) = false := fun H2 s hf => ⟨hil, _, rfl, m.trans s, mfs_no hr1 hm hf⟩
      have stop : r.mf = true → ∀ H2, Same H' H2 → Q (.bl true) H2 := fun e H2 s => by
        have := q H2 (m.trans s)
        rw [mfs_at hr1 e] at this
        exact this
      refine s_cons ?_
      cases hr3 with
      | @lt t to sg x y ht =>
        wtm_at "lm"
        refine ite_dec (fun c => ?_) (fun c => ?_)
        · have c' := (sg_div sg).mp c
          subst c'
          cases y with
          | inl z =>
            replace ht : H' t = some (.tup [.str "let", .str to, .str (Sg.nm .div), kV x, .int z]) := ht
            wtm_at "lm"
            refine ite_dec (fun e => ?_) (fun e => ?_)
            · wtm_at "lm"
              exact stop (by subst e; rfl) _ (Same.refl _)
            · wtm_at "lm"
              exact go _ (Same.refl _) (by rw [Row.mf]; unfold divs; show (true && decide (z = 0)) = false; rw [decide_eq_false e]; rfl)
          | inr z =>
            replace ht : H' t = some (.tup [.str "let", .str to, .str (Sg.nm .div), kV x, .str z]) := ht
            wtm_at "lm"
            exact stop rfl _ (Same.refl _)
        · wtm_at "lm"
          exact go _ (Same.refl _) (divs_no fun e => c ((sg_div sg).mpr e))
      | @say t x ht =>
        wtm_at "lm"
        exact go _ (Same.refl _) rfl
      | @blk t c kd s rs' g ht hb =>
        rw [Row.dep] at d1
        obtain ⟨k, rfl⟩ : ∃ k, n = k + 1 := ⟨n - 1, by omega⟩
        have G := ih k (Nat.lt_succ_self k)
        wtm_at "lm"
        refine ⟨c, rs', _, rfl, hb, by omega, fun H2 s2 => ?_⟩
        have ht2 := s2 _ _ ht
        wtm_at "lm"
        refine ite_b (fun e => ?_) (fun e => ?_)
        · wtm_at "lm"
          exact stop (by rw [Row.mf]; exact e) _ s2
        · wtm_at "lm"
          exact go _ s2 (by rw [Row.mf]; exact e)
    · rintro σ' H' ⟨_, o, rfl, m, hm⟩
      rw [take_all (by omega)] at hm
      wtm_at "lm"
      have := q H' m
      rw [hm] at this
      exact this
theorem ok_speaks (T : Txt K mg) (n : Nat) : CallOk P w K mg base (n + 1) "speaks" ["rows"] (spFind n sps) := by
  induction n using Nat.strongRecOn with
  | ind n ih =>
    refine go_p_speaks T.d_p_speaks (fun vs H Q E h => ?_) ?_
    · obtain ⟨a, rs, fp, rfl, _⟩ := h
      rfl
    intro X e1 e2 e3 e4 e5 C sc hr vs H Q E h
    subst e1 e2 e3 e4 e5
    obtain ⟨a, rs, fp, rfl, hR, hd, q⟩ := h
    show WSs X _ _ [some (.ref a), none] H
    obtain ⟨aB, mB, hB⟩ := T.c_BLOCKS
    cases hR with
    | @mk _ vs _ fp h ha =>
    have vl := ha.len
    refine s_cons ?_
    wtm_at "lm"
    refine wi_list ?_
    wtm_at "lm"
    refine for_l (fun i σ' H' => i ≤ vs.length ∧ ∃ (o : Option V), σ' = [some (.ref a), o] ∧ Same H H' ∧ sps (rs.take i) = false) ⟨Nat.zero_le _, _, rfl, Same.refl H, by rw [List.take_zero]; rfl⟩ (fun i σ' H' _ ⟨_, o, _, m, _⟩ => SqL.of (m _ _ h)) ?_ ?_
    · rintro i v σ' H' hi ⟨_, o, rfl, m, hm⟩
      refine ⟨_, by wtm_at "lm.put", ?_⟩
      obtain ⟨r, f, hr1, hr2, hf⟩ := ha.get hi
      have hr3 := hr2.mono m
      have hil : i < vs.length := (List.getElem?_eq_some_iff.mp hi).1
      have d1 := deps_mem (List.mem_of_getElem? hr1)
      have go : ∀ H2, Same H' H2 → r.sp = false → i + 1 ≤ vs.length ∧ ∃ (o' : Option V), [some (V.ref a), some v] = [some (.ref a), o'] ∧ Same H H2 ∧ sps (rs.take (i + 1)) = false := fun H2 s hf => ⟨hil, _, rfl, m.trans s, sps_no hr1 hm hf⟩
      have stop : r.sp = true → ∀ H2, Same H' H2 → Q (.bl true) H2 := fun e H2 s => by
        have := q H2 (m.trans s)
        rw [sps_at hr1 e] at this
        exact this
      refine s_one ?_
      cases hr3 with
      | @lt t to sg x y ht =>
        wtm_at "lm"
        exact go _ (Same.refl _) rfl
      | @say t x ht =>
        wtm_at "lm"
        exact stop rfl _ (Same.refl _)
      | @blk t c kd s rs' g ht hb =>
        rw [Row.dep] at d1
        obtain ⟨k, rfl⟩ : ∃ k, n = k + 1 := ⟨n - 1, by omega⟩
        have G := ih k (Nat.lt_succ_self k)
        wtm_at "lm"
        refine ⟨c, rs', _, rfl, hb, by omega, fun H2 s2 => ?_⟩
        wtm_at "lm"
        refine ite_b (fun e => ?_) (fun e => ?_)
        · wtm_at "lm"
          exact stop (by rw [Row.sp]; exact e) _ s2
        · wtm_at "lm"
          exact go _ s2 (by rw [Row.sp]; exact e)
    · rintro σ' H' ⟨_, o, rfl, m, hm⟩
      rw [take_all (by omega)] at hm
      wtm_at "lm"
      have := q H' m
      rw [hm] at this
      exact this
end
theorem keyOk_all {ns : List Str} : True := trivial
mutual
theorem Row.rd_ok {ns : List Str} : ∀ {r : Row}, RowOk ns r → ∀ k ∈ r.rd, KeyOk ns k
  | .lt _ _ x y, h, k, hk => by
    rw [RowOk] at h
    rw [Row.rd] at hk
    rcases List.mem_cons.mp hk with rfl | hk
    · exact h.2.1
    · rw [List.mem_singleton] at hk
      exact hk ▸ h.2.2
  | .say x, h, k, hk => by
    rw [RowOk] at h
    rw [Row.rd, List.mem_singleton] at hk
    exact hk ▸ h
  | .blk _ s rs, h, k, hk => by
    rw [RowOk] at h
    rw [Row.rd] at hk
    rcases List.mem_cons.mp hk with rfl | hk
    · exact h.1
    · exact rds_ok h.2 k hk
theorem rds_ok {ns : List Str} : ∀ {rs : List Row}, RowsOk ns rs → ∀ k ∈ rds rs, KeyOk ns k
  | [], _, k, hk => by rw [rds] at hk; exact nomatch hk
  | r :: rs, h, k, hk => by
    rw [RowsOk] at h
    rw [rds] at hk
    rcases List.mem_append.mp hk with hk | hk
    · exact Row.rd_ok h.1 k hk
    · exact rds_ok h.2 k hk
end
mutual
theorem Row.st_ok {ns : List Str} : ∀ {r : Row}, RowOk ns r → ∀ k ∈ r.st, KeyOk ns k ∧ isS k = true
  | .lt to _ x y, h, k, hk => by
    rw [RowOk] at h
    rw [Row.st, List.mem_singleton] at hk
    subst hk
    exact ⟨h.1, rfl⟩
  | .say x, h, k, hk => by rw [Row.st] at hk; exact nomatch hk
  | .blk _ s rs, h, k, hk => by
    rw [RowOk] at h
    rw [Row.st] at hk
    exact sts_ok h.2 k hk
theorem sts_ok {ns : List Str} : ∀ {rs : List Row}, RowsOk ns rs → ∀ k ∈ sts rs, KeyOk ns k ∧ isS k = true
  | [], _, k, hk => by rw [sts] at hk; exact nomatch hk
  | r :: rs, h, k, hk => by
    rw [RowsOk] at h
    rw [sts] at hk
    rcases List.mem_append.mp hk with hk | hk
    · exact Row.st_ok h.1 k hk
    · exact sts_ok h.2 k hk
end
theorem names_ok {ns : List Str} {b : Bool} {rs : List Row} (h : RowsOk ns rs) : ∀ k ∈ names b rs, ∃ s ∈ ns, k = .inr s := by
  intro k hk
  have e : KeyOk ns k ∧ isS k = true := by
    unfold names at hk
    split at hk
    · obtain ⟨h1, h2⟩ := List.mem_filter.mp hk
      exact ⟨rds_ok h k h1, h2⟩
    · exact sts_ok h k hk
  cases k with
  | inl i => cases e.2
  | inr s => exact ⟨s, e.1, rfl⟩
theorem strs_of : ∀ {l : List Key}, (∀ k ∈ l, isS k = true) → ∃ ks : List Str, l = ks.map Sum.inr
  | [], _ => ⟨[], rfl⟩
  | .inl i :: r, h => by cases h (.inl i) List.mem_cons_self
  | .inr s :: r, h => by
    obtain ⟨ks, e⟩ := strs_of (l := r) fun k hk => h k (List.mem_cons_of_mem _ hk)
    exact ⟨s :: ks, by rw [e]; rfl⟩
theorem nodup_inr {ks : List Str} (h : (ks.map (Sum.inr : Str → Key)).Nodup) : ks.Nodup := by
  rw [List.Nodup, List.pairwise_map] at h
  exact h.imp fun n e => n (congrArg _ e)
/-- the sorted list of the names in a dict's keys -/
theorem sorted_names {ns : List Str} {ks : List Key} (h : ∀ k ∈ ks, ∃ s ∈ ns, k = .inr s) (hn : ns.length ≤ 60) : ∃ xs : List Str, (putAll [] ks).map (·.1) = xs.map Sum.inr ∧ xs.length < 64 ∧ xs.Nodup ∧ ∀ s, s ∈ xs ↔ .inr s ∈ ks := by
  have hm : ∀ k, k ∈ (putAll [] ks).map (·.1) ↔ k ∈ ks := fun k => by rw [putAll_mem]; simp
  obtain ⟨xs, e⟩ := strs_of (l := (putAll [] ks).map (·.1)) fun k hk => by
    obtain ⟨s, _, rfl⟩ := h k ((hm k).mp hk)
    rfl
  have nd : xs.Nodup := nodup_inr (e ▸ putAll_nd ks [] .nil)
  have ms : ∀ s, s ∈ xs ↔ .inr s ∈ ks := fun s => by
    rw [← hm, e]
    simp
  refine ⟨xs, e, ?_, nd, ms⟩
  have := List.Nodup.length_le_of_subset nd (l₂ := ns) fun s hs => by
    obtain ⟨s', h1, h2⟩ := h _ ((ms s).mp hs)
    exact (Sum.inr.inj h2) ▸ h1
  omega
section
variable {P : Program} {w : World} {K : PySem.W.Frag} {mg : Str → Option Value} {base : Heap}
/-- reads, sets: the sorted list of the names -/
def spNamesOf (n : Nat) (b : Bool) : Sp := fun vs H Q _ => ∃ (a : Addr) (ns : List Str) (rs : List Row) (fp : List Addr), vs = [.ref a] ∧ RowsIn H a rs fp ∧ deps rs ≤ n ∧ cnts rs ≤ 100000 ∧ RowsOk ns rs ∧ ns.length ≤ 60 ∧
  ∀ (p : Addr) (H' : Hp) (ys : List Str), Same H H' → H p = none → H' p = some (.lst (ys.map V.str)) → sortedS ys = true → ys.Nodup → (∀ s, s ∈ ys ↔ .inr s ∈ names b rs) → Q (.ref p) H'
theorem ok_reads (T : Txt K mg) (n : Nat) : CallOk P w K mg base (n + 3) "reads" ["rows"] (spNamesOf n true) := by
  have G1 : CallOk P w K mg base (n + 2) "gathered" ["rows", "found", "is_read"] (spGathered n) := ok_gathered T n
  refine go_p_reads T.d_p_reads (fun vs H Q E h => ?_) ?_
  · obtain ⟨a, ns, rs, fp, rfl, _⟩ := h
    rfl
  intro X e1 e2 e3 e4 e5 C sc hr vs H Q E h
  subst e1 e2 e3 e4 e5
  obtain ⟨a, ns, rs, fp, rfl, hR, hd, hc, ok, hn, q⟩ := h
  show WSs X _ _ [some (.ref a), none] H
  have b1 := T.b_sorted
  refine s_cons ?_
  wtm_at "lm"
  intro d H1 hd1 s1 h1
  wtm_at "lm"
  refine ⟨a, d, true, rs, fp, [], rfl, hR.mono s1, hd, h1, by rw [List.length_nil]; omega, fun H2 k1 k2 => ?_⟩
  have s2 : Same H H2 := But1.new s1 hd1 k1
  obtain ⟨xs, x1, x2, x3, x4⟩ := sorted_names (names_ok (b := true) ok) hn
  wtm_at "lm"
  refine k_sortedD C (Rd.of k2) x1 x2 fun ys p H3 p1 p2 p3 s3 h3 => ?_
  exact q p H3 ys (s2.trans s3) (s2.free p3) h3 p2 (p1.nodup_iff.mpr x3) fun s => (p1.mem_iff).trans (x4 s)
theorem ok_sets (T : Txt K mg) (n : Nat) : CallOk P w K mg base (n + 3) "sets" ["rows"] (spNamesOf n false) := by
  have G1 : CallOk P w K mg base (n + 2) "gathered" ["rows", "found", "is_read"] (spGathered n) := ok_gathered T n
  refine go_p_sets T.d_p_sets (fun vs H Q E h => ?_) ?_
  · obtain ⟨a, ns, rs, fp, rfl, _⟩ := h
    rfl
  intro X e1 e2 e3 e4 e5 C sc hr vs H Q E h
  subst e1 e2 e3 e4 e5
  obtain ⟨a, ns, rs, fp, rfl, hR, hd, hc, ok, hn, q⟩ := h
  show WSs X _ _ [some (.ref a), none] H
  have b1 := T.b_sorted
  refine s_cons ?_
  wtm_at "lm"
  intro d H1 hd1 s1 h1
  wtm_at "lm"
  refine ⟨a, d, false, rs, fp, [], rfl, hR.mono s1, hd, h1, by rw [List.length_nil]; omega, fun H2 k1 k2 => ?_⟩
  have s2 : Same H H2 := But1.new s1 hd1 k1
  obtain ⟨xs, x1, x2, x3, x4⟩ := sorted_names (names_ok (b := false) ok) hn
  wtm_at "lm"
  refine k_sortedD C (Rd.of k2) x1 x2 fun ys p H3 p1 p2 p3 s3 h3 => ?_
  exact q p H3 ys (s2.trans s3) (s2.free p3) h3 p2 (p1.nodup_iff.mpr x3) fun s => (p1.mem_iff).trans (x4 s)
/-- the law's own walks: keys are put into the dict at d, which is handed back -/
def spPuts (n : Nat) (f : List Row → List Key) : Sp := fun vs H Q _ => ∃ (a d : Addr) (rs : List Row) (fp : List Addr) (kvs : List (Key × V)), vs = [.ref a, .ref d] ∧ RowsIn H a rs fp ∧ deps rs ≤ n ∧ H d = some (.dK kvs) ∧ kvs.length + 2 * cnts rs ≤ 200000 ∧
  ∀ H', But1 d H H' → H' d = some (.dK (putAll kvs (f rs))) → Q (.ref d) H'
end
/-! ### the law itself -/
theorem cut_from (xs : List V) (k : Nat) : cutV xs (some (k : Int)) none = xs.drop k := by
  unfold cutV
  rw [HT.sIx_nat, HT.sIx_none]
  by_cases h : k ≤ xs.length
  · rw [Nat.min_eq_left h, List.take_of_length_le (by rw [List.length_drop]; omega)]
  · rw [Nat.min_eq_right (by omega), List.drop_of_length_le (Nat.le_refl _), List.drop_of_length_le (by omega), List.take_nil]
theorem drop_ints (ns : List Int) (k : Nat) : cutV (ns.map V.int) (some (k : Int)) none = (ns.drop k).map V.int := by rw [cut_from, List.map_drop]
theorem cut_to_n (xs : List V) (k : Nat) : cutV xs none (some (k : Int)) = xs.take k := by
  unfold cutV
  rw [HT.sIx_nat, HT.sIx_none, List.drop_zero, Nat.sub_zero]
  by_cases h : k ≤ xs.length
  · rw [Nat.min_eq_left h]
  · rw [Nat.min_eq_right (by omega), List.take_of_length_le (by omega), List.take_of_length_le (by omega)]
theorem cut_ints (ns : List Int) (lo hi : Option Int) : ∃ ms : List Int, cutV (ns.map V.int) lo hi = ms.map V.int ∧ ms.length ≤ ns.length := by
  unfold cutV
  refine ⟨_, by rw [← List.map_drop, ← List.map_take], ?_⟩
  rw [List.length_take, List.length_drop]
  omega
/-- rows as data -/
def kD : Key → PyData
  | .inl i => .int i
  | .inr s => .str s
mutual
def Row.d : Row → PyData
  | .lt to sg x y => .tuple [.str "let", .str to, .str sg.nm, kD x, kD y]
  | .say x => .tuple [.str "say", kD x]
  | .blk kd s rs => .tuple [.str kd.nm, .str s, .list (rowsD rs)]
def rowsD : List Row → List PyData
  | [] => []
  | r :: rs => r.d :: rowsD rs
end
theorem rowsD_len : ∀ rs : List Row, (rowsD rs).length = rs.length
  | [] => rfl
  | r :: rs => by rw [rowsD, List.length_cons, List.length_cons, rowsD_len rs]
theorem kD_dp {K : PySem.W.Frag} {H : Hp} (k : Key) : Dp K H (kV k) (kD k) := by
  cases k with
  | inl i => exact .int i
  | inr s => exact .str s
mutual
theorem RowIn.dp {K : PySem.W.Frag} {H : Hp} : ∀ {r : Row} {v : V} {f : List Addr}, RowIn H v r f → Dp K H v r.d
  | .lt _ _ x y, _, _, .lt h => by
    rw [Row.d]
    exact .tup (SqT.of h) (.cons (.str _) (.cons (.str _) (.cons (.str _) (.cons (kD_dp x) (.cons (kD_dp y) .nil)))))
  | .say x, _, _, .say h => by
    rw [Row.d]
    exact .tup (SqT.of h) (.cons (.str _) (.cons (kD_dp x) .nil))
  | .blk _ _ rs, _, _, .blk h hr => by
    rw [Row.d]
    exact .tup (SqT.of h) (.cons (.str _) (.cons (.str _) (.cons (RowsIn.dp (rs := rs) hr) .nil)))
theorem RowsIn.dp {K : PySem.W.Frag} {H : Hp} : ∀ {rs : List Row} {a : Addr} {f : List Addr}, RowsIn H a rs f → Dp K H (.ref a) (.list (rowsD rs))
  | rs, _, _, .mk h ha => .lst (SqL.of h) (AllIn.dp (rs := rs) ha)
theorem AllIn.dp {K : PySem.W.Frag} {H : Hp} : ∀ {rs : List Row} {vs : List V} {f : List Addr}, AllIn H vs rs f → DpAll K H vs (rowsD rs)
  | [], _, _, .nil => .nil
  | r :: rs, _, _, .cons h ha => by
    rw [rowsD]
    exact .cons (RowIn.dp (r := r) h) (AllIn.dp (rs := rs) ha)
end
theorem kD_plain (k : Key) (n : Nat) : PlainD n (kD k) := by
  cases k with
  | inl i => exact .int i
  | inr s => exact .str s
mutual
theorem Row.plain : ∀ {r : Row} {n : Nat}, r.dep ≤ n → r.cnt ≤ 100000 → PlainD (2 * n + 1) r.d
  | .lt _ _ x y, n, _, _ => by
    rw [Row.d]
    refine .tup (fun d hd => ?_) (by show 5 ≤ 100000; decide)
    simp only [List.mem_cons, List.not_mem_nil, or_false] at hd
    rcases hd with rfl | rfl | rfl | rfl | rfl
    · exact .str _
    · exact .str _
    · exact .str _
    · exact kD_plain x _
    · exact kD_plain y _
  | .say x, n, _, _ => by
    rw [Row.d]
    refine .tup (fun d hd => ?_) (by show 2 ≤ 100000; decide)
    simp only [List.mem_cons, List.not_mem_nil, or_false] at hd
    rcases hd with rfl | rfl
    · exact .str _
    · exact kD_plain x _
  | .blk _ _ rs, n, h, hc => by
    rw [Row.dep] at h
    rw [Row.cnt] at hc
    rw [Row.d]
    refine .tup (fun d hd => ?_) (by show 3 ≤ 100000; decide)
    simp only [List.mem_cons, List.not_mem_nil, or_false] at hd
    rcases hd with rfl | rfl | rfl
    · exact .str _
    · exact .str _
    · obtain ⟨m, rfl⟩ : ∃ m, n = m + 1 := ⟨n - 1, by omega⟩
      refine .lst (fun d hd => ?_) (by rw [rowsD_len]; have := len_cnts rs; omega)
      exact (rows_plain (rs := rs) (n := m) (by omega) (by omega) d hd).mono (Nat.le_refl _)
theorem rows_plain : ∀ {rs : List Row} {n : Nat}, deps rs ≤ n → cnts rs ≤ 100000 → ∀ d ∈ rowsD rs, PlainD (2 * n + 1) d
  | [], n, _, _, d, hd => by rw [rowsD] at hd; exact nomatch hd
  | r :: rs, n, h, hc, d, hd => by
    rw [deps] at h
    rw [cnts] at hc
    rw [rowsD] at hd
    rcases List.mem_cons.mp hd with rfl | hd
    · exact Row.plain (r := r) (by omega) (by omega)
    · exact rows_plain (rs := rs) (by omega) (by omega) d hd
end
theorem rowsD_plain {rs : List Row} {n : Nat} (h : deps rs ≤ n) (hc : cnts rs ≤ 100000) : PlainD (2 * n + 2) (.list (rowsD rs)) :=
  .lst (rows_plain h hc) (by rw [rowsD_len]; have := len_cnts rs; omega)
theorem strs_dp {K : PySem.W.Frag} {H : Hp} {a : Addr} {ys : List Str} (h : SqL K H a (ys.map V.str)) : Dp K H (.ref a) (.list (ys.map .str)) := by
  refine .lst h ?_
  clear h
  induction ys with
  | nil => exact .nil
  | cons y r ih => exact .cons (.str y) ih
theorem strs_plain {ys : List Str} (h : ys.length ≤ 100000) : PlainD 1 (.list (ys.map .str)) := .lst (fun d hd => by obtain ⟨y, _, rfl⟩ := List.mem_map.mp hd; exact .str y) (by rw [List.length_map]; exact h)
/-! ### goes_ahead, _law_goes -/
def memK (ks : List Key) (k : Key) : Bool := ks.any fun l => decide (l = k)
theorem memK_iff {ks : List Key} {k : Key} : memK ks k = true ↔ k ∈ ks := by
  unfold memK
  rw [List.any_eq_true]
  exact ⟨fun ⟨l, h1, h2⟩ => of_decide_eq_true h2 ▸ h1, fun h => ⟨k, h, decide_eq_true rfl⟩⟩
theorem memK_not {ks : List Key} {k : Key} (h : ¬ k ∈ ks) : memK ks k = false := by
  cases e : memK ks k with
  | false => rfl
  | true => exact absurd (memK_iff.mp e) h
def hit (to : Str) (ks : List Key) : Key → Bool
  | .inl _ => false
  | .inr s => decide (s = to) || memK ks (.inr s)
theorem hit_inr {to z : Str} {ks : List Key} : hit to ks (.inr z) = (decide (z = to) || memK ks (.inr z)) := rfl
/-- a row goes ahead of those that stay ahead of it and those behind it -/
def goes : Row → List Row → List Row → Bool
  | .lt to sg x y, st, be => !(hit to (sts (st ++ be)) x) && !(hit to (sts (st ++ be)) y) && !(memK (sts (st ++ be)) (.inr to)) && !(memK (rds st) (.inr to)) && !(mfs st) && (!(divs sg y) || !(sps st))
  | .say _, _, _ => false
  | .blk _ _ _, _, _ => false
theorem inV_strs (s : Str) : ∀ ys : List Str, inV (.str s) (ys.map V.str) = decide (s ∈ ys)
  | [] => rfl
  | y :: ys => by
    have h := inV_strs s ys
    unfold inV at h ⊢
    rw [List.map_cons, List.any_cons, h]
    show (y == s || decide (s ∈ ys)) = _
    rw [Bool.eq_iff_iff]
    simp only [Bool.or_eq_true, decide_eq_true_eq, List.mem_cons, beq_iff_eq]
    exact or_congr_left eq_comm
theorem flat_strs (ys : List Str) : (ys.map V.str).all flatV = true := by
  rw [List.all_eq_true]
  intro v hv
  obtain ⟨y, _, rfl⟩ := List.mem_map.mp hv
  rfl
theorem valV_some (ks : List Key) (k : Key) : (valV (putAll [] ks) k).isSome = memK ks k := by
  have h := @valV_none_iff (putAll [] ks) k
  rw [putAll_mem] at h
  cases e : valV (putAll [] ks) k with
  | none =>
    have := h.mp e
    exact (memK_not fun n => this (.inr n)).symm
  | some v =>
    cases f : memK ks k with
    | true => rfl
    | false =>
      have : valV (putAll [] ks) k = none := h.mpr fun n => by
        rcases n with n | n
        · cases n
        · rw [memK_iff.mpr n] at f; cases f
      rw [this] at e
      cases e
section
variable {X : Cx} {H : Hp} {Q : VK}
theorem dec_key (k : Key) (s : Str) : decide (kV k = V.str s) = decide (k = .inr s) := by
  cases k with
  | inl i => exact (decide_eq_false (by intro h; cases h)).trans (decide_eq_false (by intro h; cases h)).symm
  | inr t => exact (dec_str t s).trans (by rw [decide_eq_decide]; exact ⟨fun h => h ▸ rfl, fun h => Sum.inr.inj h⟩)
theorem flat_key (k : Key) : flatV (kV k) = true := by cases k <;> rfl
theorem c_eqKS {k : Key} {s : Str} (q : Q (.bl (decide (k = .inr s))) H) : WC X .Eq (kV k) (.str s) H Q := ⟨_, op_eq, by cases k <;> rfl, by rw [dec_key]; exact q⟩
end
section
variable {P : Program} {w : World} {K : PySem.W.Frag} {mg : Str → Option Value} {base : Heap}
def spGoes (n : Nat) : Sp := fun vs H Q _ => ∃ (v : V) (S B : Addr) (r : Row) (st be : List Row) (f fs fb : List Addr) (ns : List Str), vs = [v, .ref S, .ref B] ∧ RowIn H v r f ∧ RowsIn H S st fs ∧ RowsIn H B be fb ∧ deps st ≤ n ∧ deps be ≤ n ∧ cnts st + cnts be ≤ 50000 ∧
  RowOk ns r ∧ RowsOk ns st ∧ RowsOk ns be ∧ ns.length ≤ 60 ∧ ∀ H', Same H H' → Q (.bl (goes r st be)) H'
theorem goes_hx {to : Str} {sg : Sg} {x y : Key} {st be : List Row} (h : hit to (sts (st ++ be)) x = true) : goes (.lt to sg x y) st be = false := by simp [goes, h]
theorem goes_hy {to : Str} {sg : Sg} {x y : Key} {st be : List Row} (h : hit to (sts (st ++ be)) y = true) : goes (.lt to sg x y) st be = false := by simp [goes, h]
theorem goes_at {to : Str} {sg : Sg} {x y : Key} {st be : List Row} {j : Nat} {k : Key} (hk : [x, y][j]? = some k) (h : hit to (sts (st ++ be)) k = true) : goes (.lt to sg x y) st be = false := by
  match j, hk with
  | 0, e => cases e; exact goes_hx h
  | 1, e => cases e; exact goes_hy h
theorem ok_goes_ahead (T : Txt K mg) (n : Nat) : CallOk P w K mg base (n + 4) "goes_ahead" ["row", "staying", "behind"] (spGoes n) := by
  have G1 : CallOk P w K mg base (n + 3) "sets" ["rows"] (spNamesOf n false) := ok_sets T n
  have G2 : CallOk P w K mg base (n + 3) "reads" ["rows"] (spNamesOf n true) := ok_reads T n
  have G3 : CallOk P w K mg base (n + 1) "may_fail" ["rows"] (spFind n mfs) := ok_may_fail T n
  have G4 : CallOk P w K mg base (n + 1) "speaks" ["rows"] (spFind n sps) := ok_speaks T n
  refine go_p_goes_ahead T.d_p_goes_ahead (fun vs H Q E h => ?_) ?_
  · obtain ⟨v, S, B, r, st, be, f, fs, fb, ns, rfl, _⟩ := h
    rfl
  intro X e1 e2 e3 e4 e5 C sc hr vs H Q E h
  subst e1 e2 e3 e4 e5
  obtain ⟨v, S, B, r, st, be, f, fs, fb, ns, rfl, hr0, hS, hB, d1, d2, hc, o1, o2, o3, hn, q⟩ := h
  show WSs X _ _ [some v, some (.ref S), some (.ref B), none, none] H
  have b1 := T.b_isinstance
  have b2 := T.b_str
  refine s_cons ?_
  cases hr0 with
  | @say t x ht =>
    wtm_at "lm"
    exact q H (Same.refl H)
  | @blk t c kd s rs' g ht hb =>
    wtm_at "lm"
    refine ite_nb (fun _ => ?_) (fun c => absurd c (by cases kd <;> decide +kernel))
    wtm_at "lm"
    exact q H (Same.refl H)
  | @lt t to sg x y ht =>
    cases hS with
    | @mk _ vs1 _ f1 g1 ga1 =>
    cases hB with
    | @mk _ vs2 _ f2 g2 ga2 =>
    have l1 := ga1.len
    have l2 := ga2.len
    have l3 := len_cnts st
    have l4 := len_cnts be
    wtm_at "lm"
    refine b_cat g1 g2 (sz (by omega)) fun r3 H1 hr3 s1 h1 => ?_
    have R : RowsIn H1 r3 (st ++ be) (r3 :: (f1 ++ f2)) := .mk h1 ((ga1.mono s1).append (ga2.mono s1))
    wtm_at "lm"
    refine ⟨r3, ns, st ++ be, _, rfl, R, by rw [deps_append]; omega, by rw [cnts_append]; omega, RowsOk_append o2 o3, hn, fun p H2 ys s2 hp h2 so nd mm => ?_⟩
    replace mm : ∀ s, s ∈ ys ↔ (.inr s : Key) ∈ sts (st ++ be) := mm
    have ht2 := s2 _ _ (s1 _ _ ht)
    wtm_at "lm"
    refine wi_tup ?_
    wtm_at "lm"
    refine l_tup (SqT.of ht2) (by show ¬ (HT.sIx 5 0 (some 3) = 0 ∧ HT.sIx 5 5 none = 5); decide) ?_
    intro u H3 hu s3 h3
    wtm_at "lm"
    replace h3 : H3 u = some (.tup ([x, y].map kV)) := h3
    have s13 : Same H H3 := (s1.trans s2).trans s3
    refine for_t (fun j σ' H' => ∃ o : Option V, σ' = [some (.ref t), some (.ref S), some (.ref B), some (.ref p), o] ∧ Same H3 H' ∧ ∀ i k, i < j → [x, y][i]? = some k → hit to (sts (st ++ be)) k = false) ⟨_, rfl, Same.refl _, fun i k hi _ => absurd hi (Nat.not_lt_zero _)⟩ (fun j σ' H' _ ⟨_, _, m, _⟩ => SqT.of (m _ _ h3)) ?_ ?_
    · rintro j v σ' H' hj ⟨o, rfl, m, hm⟩
      refine ⟨_, by wtm_at "lm.put", ?_⟩
      rw [List.getElem?_map] at hj
      obtain ⟨key, hk, rfl⟩ := Option.map_eq_some_iff.mp hj
      have ht3 := m _ _ (s3 _ _ ht2)
      have h23 := m _ _ (s3 _ _ h2)
      have go : hit to (sts (st ++ be)) key = false → ∀ i k, i < j + 1 → [x, y][i]? = some k → hit to (sts (st ++ be)) k = false := fun e i k hi hik => by
        rcases Nat.lt_succ_iff_lt_or_eq.mp hi with h | rfl
        · exact hm i k h hik
        · rw [hk] at hik; cases hik; exact e
      refine s_one ?_
      cases key with
      | inl z =>
        show WS X _ _ [_, _, _, _, some (.int z)] _
        wtm_at "lm"
        exact ⟨_, rfl, m, go rfl⟩
      | inr z =>
        show WS X _ _ [_, _, _, _, some (.str z)] _
        have stop : hit to (sts (st ++ be)) (.inr z) = true → Q (.bl false) H' := fun e => by
          have := q H' (s13.trans m)
          rw [goes_at hk e] at this
          exact this
        wtm_at "lm"
        refine ite_dec (fun c => ?_) (fun c => ?_)
        · wtm_at "lm"
          exact stop (by unfold hit; simp [c])
        · wtm_at "lm"
          refine c_inL (SqL.of h23) rfl (flat_strs ys) ?_
          rw [inV_strs]
          wtm_at "lm"
          refine ite_dec (fun e => ?_) (fun e => ?_)
          · wtm_at "lm"
            exact stop (by rw [hit_inr, memK_iff.mpr ((mm z).mp e), Bool.or_true])
          · wtm_at "lm"
            exact ⟨_, rfl, m, go (by rw [hit_inr, memK_not fun a => e ((mm z).mpr a), decide_eq_false c]; rfl)⟩
    · rintro σ' H' ⟨o, rfl, m, hm⟩
      have hx := hm 0 x (by show 0 < 2; decide) rfl
      have hy := hm 1 y (by show 1 < 2; decide) rfl
      have s14 := s13.trans m
      have ht3 := s14 _ _ ht
      have h23 := m _ _ (s3 _ _ h2)
      have RS : RowsIn H' S st (S :: f1) := (RowsIn.mk g1 ga1).mono s14
      wtm_at "lm"
      refine c_inL (SqL.of h23) rfl (flat_strs ys) ?_
      rw [inV_strs]
      wtm_at "lm"
      refine ite_dec (fun e => ?_) (fun e => ?_)
      · wtm_at "lm"
        have := q H' s14
        rw [show goes (.lt to sg x y) st be = false by simp [goes, memK_iff.mpr ((mm to).mp e)]] at this
        exact this
      · replace e : memK (sts (st ++ be)) (.inr to) = false := memK_not fun a => e ((mm to).mpr a)
        wtm_at "lm"
        refine ⟨S, ns, st, _, rfl, RS, d1, by omega, o2, hn, fun p2 H4 ys2 s4 hp2 h4 so2 nd2 mm2 => ?_⟩
        replace mm2 : ∀ s, s ∈ ys2 ↔ (.inr s : Key) ∈ rds st := fun s => (mm2 s).trans (by unfold names; rw [if_pos rfl]; exact ⟨fun h => (List.mem_filter.mp h).1, fun h => List.mem_filter.mpr ⟨h, rfl⟩⟩)
        refine c_inL (SqL.of h4) rfl (flat_strs ys2) ?_
        rw [inV_strs]
        wtm_at "lm"
        refine ite_dec (fun e2 => ?_) (fun e2 => ?_)
        · wtm_at "lm"
          have := q H4 (s14.trans s4)
          rw [show goes (.lt to sg x y) st be = false by simp [goes, memK_iff.mpr ((mm2 to).mp e2)]] at this
          exact this
        · replace e2 : memK (rds st) (.inr to) = false := memK_not fun a => e2 ((mm2 to).mpr a)
          wtm_at "lm"
          refine ⟨S, st, _, rfl, RS.mono s4, d1, fun H5 s5 => ?_⟩
          wtm_at "lm"
          refine ite_b (fun e3 => ?_) (fun e3 => ?_)
          · wtm_at "lm"
            have := q H5 ((s14.trans s4).trans s5)
            rw [show goes (.lt to sg x y) st be = false by simp [goes, e3]] at this
            exact this
          · wtm_at "lm"
            intro l6 H6 hl6 s6 h6
            wtm_at "lm"
            refine ⟨l6, [.lt to sg x y], _, rfl, .mk h6 (.cons (.lt (s6 _ _ (s5 _ _ (s4 _ _ ht3)))) .nil), Nat.zero_le _, fun H7 s7 => ?_⟩
            rw [mfs_one]
            wtm_at "lm"
            have s17 := ((((s14.trans s4).trans s5).trans s6).trans s7)
            refine ite_nb (fun e4 => ?_) (fun e4 => ?_)
            · wtm_at "lm"
              have := q H7 s17
              replace e4 : divs sg y = false := e4
              rw [show goes (.lt to sg x y) st be = true by simp [goes, hx, hy, e, e2, e3, e4]] at this
              exact this
            · wtm_at "lm"
              refine ⟨S, st, _, rfl, (((RS.mono s4).mono s5).mono s6).mono s7, d1, fun H8 s8 => ?_⟩
              wtm_at "lm"
              have := q H8 (s17.trans s8)
              replace e4 : divs sg y = true := e4
              rw [show goes (.lt to sg x y) st be = !sps st by simp [goes, hx, hy, e, e2, e3, e4]] at this
              exact this
theorem hit_key {to : Str} {ks : List Key} (h : ∀ k ∈ ks, isS k = true) (k : Key) : hit to ks k = (decide (k = .inr to) || memK ks k) := by
  cases k with
  | inl i =>
    rw [memK_not (fun m => by cases h _ m), decide_eq_false (fun e => by cases e)]
    rfl
  | inr z =>
    rw [hit_inr, show decide (z = to) = decide ((.inr z : Key) = .inr to) by rw [decide_eq_decide]; exact ⟨fun e => e ▸ rfl, fun e => Sum.inr.inj e⟩]
theorem sts_S : ∀ {ns : List Str} {rs : List Row}, RowsOk ns rs → ∀ k ∈ sts rs, isS k = true := fun h k hk => (sts_ok h k hk).2
end
/-! ### parted, _law_parted -/
def pst (A S : List Row) : List Row → List Row × List Row
  | [] => (A, S)
  | r :: rs => if goes r S rs = true then pst (A ++ [r]) S rs else pst A (S ++ [r]) rs
/-- the rows that go ahead, those that stay -/
def parts (rs : List Row) : List Row × List Row := pst [] [] rs
theorem RowsOk_drop {ns : List Str} : ∀ {rs : List Row} (_ : RowsOk ns rs) (i : Nat), RowsOk ns (rs.drop i)
  | rs, h, 0 => h
  | [], h, i + 1 => h
  | r :: rs, h, i + 1 => by
    rw [RowsOk] at h
    exact RowsOk_drop (rs := rs) h.2 i
theorem deps_drop : ∀ (rs : List Row) (i : Nat), deps (rs.drop i) ≤ deps rs
  | rs, 0 => Nat.le_refl _
  | [], i + 1 => Nat.le_refl _
  | r :: rs, i + 1 => Nat.le_trans (deps_drop rs i) (by rw [deps]; exact Nat.le_max_right _ _)
theorem cnts_drop : ∀ (rs : List Row) (i : Nat), cnts (rs.drop i) ≤ cnts rs
  | rs, 0 => Nat.le_refl _
  | [], i + 1 => Nat.le_refl _
  | r :: rs, i + 1 => Nat.le_trans (cnts_drop rs i) (by rw [cnts]; exact Nat.le_add_left _ _)
theorem AllIn.drop {H : Hp} : ∀ {rs : List Row} {vs : List V} {f : List Addr}, AllIn H vs rs f → ∀ i, ∃ g, AllIn H (vs.drop i) (rs.drop i) g
  | _, _, f, h, 0 => ⟨f, h⟩
  | [], _, _, .nil, i + 1 => ⟨[], .nil⟩
  | r :: rs, _, _, .cons _ h, i + 1 => AllIn.drop (rs := rs) h i
/-- AllIn, and all its lists are among fp -/
def AllF (fp : List Addr) (H : Hp) (vs : List V) (rs : List Row) (f : List Addr) : Prop := AllIn H vs rs f ∧ ∀ l ∈ f, l ∈ fp
theorem AllF.len {fp : List Addr} {H : Hp} {vs : List V} {rs : List Row} {f : List Addr} (h : AllF fp H vs rs f) : vs.length = rs.length := h.1.len
theorem AllF.mono {fp : List Addr} {H H' : Hp} {vs : List V} {rs : List Row} {f : List Addr} (h : AllF fp H vs rs f) (s : Same H H') : AllIn H' vs rs f := h.1.mono s
/-- the loop of parted: D1 the rows ahead so far, D2 those that stay, rest: those that are not looked at -/
def HalfAt (fp : List Addr) (H : Hp) (ns : List Str) (D1 D2 : Addr) (rs rest : List Row) (A S : List Row) (vs1 vs2 : List V) (f1 f2 : List Addr) : Prop :=
  H D1 = some (.lst vs1) ∧ H D2 = some (.lst vs2) ∧ AllF fp H vs1 A f1 ∧ AllF fp H vs2 S f2 ∧ (deps A ≤ deps rs ∧ deps S ≤ deps rs) ∧ cnts A + cnts S + cnts rest = cnts rs ∧ RowsOk ns A ∧ RowsOk ns S ∧ pst A S rest = parts rs
structure Half (F H : Hp) (fp : List Addr) (ns : List Str) (D1 D2 : Addr) (rs rest : List Row) : Prop where
  ex : ∃ A S vs1 vs2 f1 f2, HalfAt fp H ns D1 D2 rs rest A S vs1 vs2 f1 f2
  at' : ∀ l ∈ fp, ∃ xs, F l = some (.lst xs)
  n1 : F D1 = none
  n2 : F D2 = none
  ne : D1 ≠ D2
  dr : ∀ r ∈ rest, r.dep ≤ deps rs
theorem Half.ahead {F H H2 : Hp} {fp : List Addr} {ns : List Str} {D1 D2 : Addr} {rs rest : List Row} {r : Row} (z : Half F H fp ns D1 D2 rs (r :: rest)) {A S : List Row} {vs1 vs2 : List V} {f1 f2 : List Addr} (a : HalfAt fp H ns D1 D2 rs (r :: rest) A S vs1 vs2 f1 f2) (s : Same H H2) (fs : Same F H) {v : V} {f : List Addr} (h : RowIn F v r f) (hf : ∀ l ∈ f, l ∈ fp)
    (ok : RowOk ns r) (e : goes r S rest = true) : Half F (upd H2 D1 (.lst (vs1 ++ [v]))) fp ns D1 D2 rs rest := by
  obtain ⟨k1, k2, a1, a2, kd, kc, o1, o2, kp⟩ := a
  have nf : ∀ {g : List Addr}, (∀ l ∈ g, l ∈ fp) → ∀ {D}, F D = none → D ∉ g := fun hg _ hD m => by obtain ⟨xs, e⟩ := z.at' _ (hg _ m); rw [hD] at e; cases e
  have dr := z.dr r List.mem_cons_self
  refine ⟨⟨A ++ [r], S, vs1 ++ [v], vs2, f1 ++ f, f2, upd_same, by rw [upd_ne z.ne.symm]; exact s _ _ k2, ⟨((a1.mono s).snoc ((h.mono fs).mono s)).keep (Kept.upd (s _ _ k1) ?_), ?_⟩, ⟨(a2.mono s).keep (Kept.upd (s _ _ k1) (nf a2.2 z.n1)), a2.2⟩, ⟨by rw [deps_append, deps, deps]; simp; omega, kd.2⟩, by rw [cnts_append, cnts, cnts]; rw [cnts] at kc; omega, RowsOk_append o1 (RowsOk_one ok), o2, ?_⟩, z.at', z.n1, z.n2, z.ne, fun t ht => z.dr t (List.mem_cons_of_mem _ ht)⟩
  · exact fun m => (List.mem_append.mp m).elim (nf a1.2 z.n1) (nf hf z.n1)
  · exact fun l hl => (List.mem_append.mp hl).elim (a1.2 l) (hf l)
  · rw [← kp, pst, if_pos e]
theorem Half.stay {F H H2 : Hp} {fp : List Addr} {ns : List Str} {D1 D2 : Addr} {rs rest : List Row} {r : Row} (z : Half F H fp ns D1 D2 rs (r :: rest)) {A S : List Row} {vs1 vs2 : List V} {f1 f2 : List Addr} (a : HalfAt fp H ns D1 D2 rs (r :: rest) A S vs1 vs2 f1 f2) (s : Same H H2) (fs : Same F H) {v : V} {f : List Addr} (h : RowIn F v r f) (hf : ∀ l ∈ f, l ∈ fp)
    (ok : RowOk ns r) (e : goes r S rest = false) : Half F (upd H2 D2 (.lst (vs2 ++ [v]))) fp ns D1 D2 rs rest := by
  obtain ⟨k1, k2, a1, a2, kd, kc, o1, o2, kp⟩ := a
  have nf : ∀ {g : List Addr}, (∀ l ∈ g, l ∈ fp) → ∀ {D}, F D = none → D ∉ g := fun hg _ hD m => by obtain ⟨xs, e⟩ := z.at' _ (hg _ m); rw [hD] at e; cases e
  have dr := z.dr r List.mem_cons_self
  refine ⟨⟨A, S ++ [r], vs1, vs2 ++ [v], f1, f2 ++ f, by rw [upd_ne z.ne]; exact s _ _ k1, upd_same, ⟨(a1.mono s).keep (Kept.upd (s _ _ k2) (nf a1.2 z.n2)), a1.2⟩, ⟨((a2.mono s).snoc ((h.mono fs).mono s)).keep (Kept.upd (s _ _ k2) ?_), ?_⟩, ⟨kd.1, by rw [deps_append, deps, deps]; simp; omega⟩, by rw [cnts_append, cnts, cnts]; rw [cnts] at kc; omega, o1, RowsOk_append o2 (RowsOk_one ok), ?_⟩, z.at', z.n1, z.n2, z.ne, fun t ht => z.dr t (List.mem_cons_of_mem _ ht)⟩
  · exact fun m => (List.mem_append.mp m).elim (nf a2.2 z.n2) (nf hf z.n2)
  · exact fun l hl => (List.mem_append.mp hl).elim (a2.2 l) (hf l)
  · rw [← kp, pst, if_neg (by rw [e]; exact Bool.false_ne_true)]
theorem Half.new {F H : Hp} {fp : List Addr} {ns : List Str} {D1 D2 a : Addr} {vs : List V} {rs : List Row} {n m : Nat} (_ : F a = some (.lst vs)) (hat : ∀ l ∈ fp, ∃ xs, F l = some (.lst xs)) (h1 : H D1 = some (.lst [])) (h2 : H D2 = some (.lst [])) (n1 : F D1 = none) (n2 : F D2 = none) (ne : D1 ≠ D2) (_ : deps rs ≤ n) (_ : cnts rs ≤ m) (_ : RowsOk ns rs) : Half F H fp ns D1 D2 rs (rs.drop 0) :=
  ⟨⟨[], [], [], [], [], [], h1, h2, ⟨.nil, fun _ h => nomatch h⟩, ⟨.nil, fun _ h => nomatch h⟩, ⟨Nat.zero_le _, Nat.zero_le _⟩, by show 0 + 0 + cnts rs = cnts rs; omega, by rw [RowsOk]; trivial, by rw [RowsOk]; trivial, rfl⟩, hat, n1, n2, ne, fun r hr => deps_mem hr⟩
section
variable {P : Program} {w : World} {K : PySem.W.Frag} {mg : Str → Option Value} {base : Heap}
def spLParted (n : Nat) : Sp := fun vs H Q _ => ∃ (a : Addr) (rs : List Row) (fp : List Addr) (ns : List Str), vs = [.ref a] ∧ RowsIn H a rs fp ∧ deps rs ≤ n ∧ cnts rs ≤ 20000 ∧ RowsOk ns rs ∧ ns.length ≤ 60 ∧
  ∀ (p u1 u2 : Addr) (H' : Hp) (g1 g2 : List Addr), Same H H' → H p = none → H' p = some (.lst [.ref u1, .ref u2]) → RowsIn H' u1 (parts rs).1 g1 → RowsIn H' u2 (parts rs).2 g2 → (∀ l ∈ g1 ++ g2, H l = none ∨ l ∈ fp) → Q (.ref p) H'
def spParted (n : Nat) : Sp := fun vs H Q _ => ∃ (a : Addr) (rs : List Row) (fp : List Addr) (ns : List Str), vs = [.ref a] ∧ RowsIn H a rs fp ∧ deps rs ≤ n ∧ cnts rs ≤ 20000 ∧ RowsOk ns rs ∧ ns.length ≤ 60 ∧
  ∀ (p u1 u2 : Addr) (H' : Hp) (g1 g2 : List Addr), Same H H' → H' p = some (.tup [.ref u1, .ref u2]) → RowsIn H' u1 (parts rs).1 g1 → RowsIn H' u2 (parts rs).2 g2 → (g1 ++ g2).Nodup → (∀ l ∈ g1 ++ g2, H l = none) → Q (.ref p) H'
theorem ok_pcopied (T : Txt K mg) (n : Nat) : CallOk P w K mg base (n + 1) "copied" ["rows"] (spCopied n) := by
  induction n using Nat.strongRecOn with
  | ind n ih =>
    refine go_p_copied T.d_p_copied (fun vs H Q E h => ?_) ?_
    · obtain ⟨a, rs, fp, rfl, _⟩ := h
      rfl
    intro X e1 e2 e3 e4 e5 C sc hr vs H Q E h
    subst e1 e2 e3 e4 e5
    obtain ⟨a, rs, fp, rfl, hR, hd, hc, q⟩ := h
    show WSs X _ _ [some (.ref a), none, none] H
    have b1 := T.b_len
    cases hR with
    | @mk _ vs _ fp h ha =>
    have vl := ha.len
    have lc := len_cnts rs
    refine s_cons ?_
    wtm_at "lm"
    intro D H1 hD s1 h1
    have h11 := s1 _ _ h
    wtm_at "lm"
    refine wi_list ?_
    wtm_at "lm"
    refine for_l (fun i σ' H' => i ≤ vs.length ∧ ∃ (o : Option V), σ' = [some (.ref a), some (.ref D), o] ∧ Made H H' D (rs.take i)) ⟨Nat.zero_le _, none, rfl, .new s1 hD h1⟩ (fun i σ' H' _ ⟨_, o, _, m⟩ => SqL.of (m.same _ _ h)) ?_ ?_
    · rintro i v σ' H' hi ⟨_, o, rfl, m⟩
      refine ⟨_, by wtm_at "lm.put", ?_⟩
      obtain ⟨r, f, hr1, hr2, _⟩ := ha.get hi
      have hr3 := hr2.mono m.same
      have hil : i < vs.length := (List.getElem?_eq_some_iff.mp hi).1
      have rl : (rs.take i).length = i := by rw [List.length_take]; omega
      obtain ⟨ws, _, m1, _, _⟩ := m.ex
      have tk := take_succ hr1
      refine s_one ?_
      cases hr3 with
      | @lt t to sg x y ht =>
        wtm_at "lm"
        obtain ⟨us, e1, e2, m2⟩ := m.put (Same.refl _) (RowIn.lt ht) (fun l hl => nomatch hl) .nil
        refine x_app e1 (by omega) ?_
        wtm_at "lm"
        exact ⟨hil, _, rfl, by rw [tk]; exact m2⟩
      | @say t x ht =>
        wtm_at "lm"
        obtain ⟨us, e1, e2, m2⟩ := m.put (Same.refl _) (RowIn.say ht) (fun l hl => nomatch hl) .nil
        refine x_app e1 (by omega) ?_
        wtm_at "lm"
        exact ⟨hil, _, rfl, by rw [tk]; exact m2⟩
      | @blk t b kd s rs' g ht hb =>
        have mem := List.mem_of_getElem? hr1
        have d1 := deps_mem mem
        have c1 := cnts_mem mem
        rw [Row.dep] at d1
        rw [Row.cnt] at c1
        obtain ⟨k, rfl⟩ : ∃ k, n = k + 1 := ⟨n - 1, by omega⟩
        have G := ih k (Nat.lt_succ_self k)
        wtm_at "lm"
        refine ⟨b, rs', _, rfl, hb, by omega, by omega, fun r H2 fp' s2 k1 k2 k3 => ?_⟩
        wtm_at "lm"
        intro t' H3 ht' s3 h3
        obtain ⟨us, e1, e2, m2⟩ := m.put (s2.trans s3) (RowIn.blk (kd := kd) (s := s) h3 (k1.mono s3)) k2 k3
        refine x_app e1 (by omega) ?_
        wtm_at "lm"
        exact ⟨hil, _, rfl, by rw [tk]; exact m2⟩
    · rintro σ' H' ⟨_, o, rfl, m⟩
      wtm_at "lm"
      rw [take_all (by omega)] at m
      obtain ⟨fp', k1, k2, k3⟩ := m.done
      exact q D H' fp' m.same k1 k2 k3
theorem ok_parted (T : Txt K mg) (n : Nat) : CallOk P w K mg base (n + 4 + 1) "parted" ["body"] (spParted n) := by
  have G1 : CallOk P w K mg base (n + 4) "goes_ahead" ["row", "staying", "behind"] (spGoes n) := ok_goes_ahead T n
  have G2 : CallOk P w K mg base (n + 1) "copied" ["rows"] (spCopied n) := ok_pcopied T n
  refine go_p_parted T.d_p_parted (fun vs H Q E h => ?_) ?_
  · obtain ⟨a, rs, fp, ns, rfl, _⟩ := h
    rfl
  intro X e1 e2 e3 e4 e5 C sc hr vs H Q E h
  subst e1 e2 e3 e4 e5
  obtain ⟨a, rs, fp, ns, rfl, hR, hd, hc, ok, hn, q⟩ := h
  show WSs X _ _ [some (.ref a), none, none, none] H
  have b1 := T.b_len
  have b2 := T.b_range
  cases hR with
  | @mk _ vs _ fp h ha =>
  have vl := ha.len
  have lc := len_cnts rs
  refine s_cons ?_
  wtm_at "lm"
  intro D1 H1 hD1 s1 h1
  wtm_at "lm"
  intro D2 H2 hD2 s2 h2
  have s12 := s1.trans s2
  have h22 := s12 _ _ h
  have n2 : H D2 = none := s1.free hD2
  wtm_at "lm"
  rw [vl]
  refine ⟨by omega, by omega, ?_⟩
  rw [Int.toNat_natCast]
  refine for_r (fun i σ' H' => ∃ o, σ' = [some (.ref a), some (.ref D1), some (.ref D2), o] ∧ Same H H' ∧ Half H H' fp ns D1 D2 rs (rs.drop i)) ⟨none, rfl, s12, .new h (fun l hl => (RowsIn.mk h ha).at l (List.mem_cons_of_mem _ hl)) (s2 _ _ h1) h2 hD1 n2 (fun e => by rw [e, hD2] at h1; cases h1) hd hc ok⟩ ?_ ?_
  · rintro i σ' H' hi ⟨o, rfl, s, z⟩
    refine ⟨_, by wtm_at "lm.put", ?_⟩
    have hv : vs[i]? = some vs[i] := List.getElem?_eq_getElem (show i < vs.length by omega)
    obtain ⟨r, f, hr1, hr2, hf⟩ := ha.get hv
    have ed : rs.drop i = r :: rs.drop (i + 1) := by
      have := List.drop_eq_getElem_cons (show i < rs.length by omega)
      rw [List.getElem?_eq_getElem (show i < rs.length by omega)] at hr1
      rw [this, Option.some.inj hr1]
    rw [ed] at z
    have at1 := (RowsIn.mk h ha).at
    have hS := s _ _ h
    have hr3 := hr2.mono s
    obtain ⟨A, S, vs1, vs2, f1, f2, z1⟩ := z.ex
    obtain ⟨k1, k2, a1, a2, kd, kc, o1, o2, kp⟩ := z1
    have ll := a1.len
    have lm := a2.len
    have lA := len_cnts A
    have lS := len_cnts S
    have or : RowOk ns r := RowsOk_mem ok (List.mem_of_getElem? hr1)
    have od : RowsOk ns (rs.drop (i + 1)) := RowsOk_drop ok (i + 1)
    have dd : deps (rs.drop (i + 1)) ≤ deps rs := deps_drop rs (i + 1)
    have cd : cnts (rs.drop (i + 1)) ≤ cnts rs := cnts_drop rs (i + 1)
    rw [cnts] at kc
    wtm_at "lm"
    refine i_lst (SqL.of hS) (atI_nat hv) ?_
    wtm_at "lm"
    refine l_lst (SqL.of hS) fun p H3 hp s3 h3 => ?_
    rw [show cutV vs (some ((i : Int) + 1)) none = vs.drop (i + 1) from cut_from vs (i + 1)] at h3
    obtain ⟨fb, hfb⟩ := AllIn.drop (ha.mono (s.trans s3)) (i + 1)
    wtm_at "lm"
    refine ⟨vs[i], D2, p, r, S, rs.drop (i + 1), f, D2 :: f2, p :: fb, ns, rfl, hr3.mono s3, .mk (s3 _ _ k2) (a2.mono s3), .mk h3 hfb, by omega, by omega, by omega, or, o2, od, hn, fun H4 s4 => ?_⟩
    have s34 := s3.trans s4
    have hS4 := s34 _ _ hS
    wtm_at "lm"
    refine ite_b (fun e => ?_) (fun e => ?_)
    · wtm_at "lm"
      refine i_lst (SqL.of hS4) (atI_nat hv) ?_
      refine x_app (s34 _ _ k1) (by omega) ?_
      wtm_at "lm"
      exact ⟨_, rfl, Same.mut (s.trans s34) z.n1, z.ahead ⟨k1, k2, a1, a2, kd, by rw [cnts]; exact kc, o1, o2, kp⟩ s34 (fun b o q => s b o q) hr2 hf or e⟩
    · wtm_at "lm"
      refine i_lst (SqL.of hS4) (atI_nat hv) ?_
      refine x_app (s34 _ _ k2) (by omega) ?_
      wtm_at "lm"
      exact ⟨_, rfl, Same.mut (s.trans s34) z.n2, z.stay ⟨k1, k2, a1, a2, kd, by rw [cnts]; exact kc, o1, o2, kp⟩ s34 (fun b o q => s b o q) hr2 hf or e⟩
  · rintro σ' H' ⟨o, rfl, s, z⟩
    rw [List.drop_length] at z
    obtain ⟨A, S, vs1, vs2, f1, f2, k1, k2, a1, a2, kd, kc, o1, o2, kp⟩ := z.ex
    replace kp : (A, S) = parts rs := kp
    wtm_at "lm"
    refine ⟨D1, A, _, rfl, .mk k1 a1.1, by omega, by rw [cnts] at kc; omega, fun u1 H3 g1 s3 r1 x1 y1 => ?_⟩
    wtm_at "lm"
    refine ⟨D2, S, _, rfl, (RowsIn.mk k2 a2.1).mono s3, by omega, by rw [cnts] at kc; omega, fun u2 H4 g2 s4 r2 x2 y2 => ?_⟩
    wtm_at "lm"
    intro p H5 hp s5 h5
    have s35 := (s3.trans s4).trans s5
    refine q p u1 u2 H5 g1 g2 (s.trans s35) h5 ?_ ?_ ?_ ?_
    · rw [← kp]
      exact r1.mono (s4.trans s5)
    · rw [← kp]
      exact r2.mono s5
    · refine List.nodup_append.mpr ⟨y1, y2, fun x hx y hy e => ?_⟩
      subst e
      obtain ⟨xs, e⟩ := r1.at x hx
      rw [x2 x hy] at e
      cases e
    · intro l hl
      rcases List.mem_append.mp hl with hl | hl
      · exact s.free (x1 l hl)
      · exact s.free (s3.free (x2 l hl))
/-- lists are changed, at any depth -/
def spSpoilt (n : Nat) : Sp := fun vs H Q _ => ∃ (a : Addr) (rs : List Row) (fp : List Addr), vs = [.ref a] ∧ RowsIn H a rs fp ∧ fp.Nodup ∧ deps rs ≤ n ∧ cnts rs ≤ 100000 ∧
  ∀ H', (∀ l u, l ∉ fp → H l = some u → H' l = some u) → Q .non H'
end
/-! ### moved, _law_moved -/
mutual
def Row.mv : Row → List Row
  | .lt to sg x y => [.lt to sg x y]
  | .say x => [.say x]
  | .blk .whn s rs => [.blk .whn s (mvs rs)]
  | .blk .agn s rs => (parts (mvs rs)).1 ++ [.blk .agn s (parts (mvs rs)).2]
  | .blk .lop s rs => if (parts (mvs rs)).1 = [] then [.blk .lop s (parts (mvs rs)).2] else [.blk .whn s ((parts (mvs rs)).1 ++ [.blk .agn s (parts (mvs rs)).2])]
def mvs : List Row → List Row
  | [] => []
  | r :: rs => r.mv ++ mvs rs
end
theorem mvs_append : ∀ rs ss : List Row, mvs (rs ++ ss) = mvs rs ++ mvs ss
  | [], ss => by rw [mvs]; rfl
  | r :: rs, ss => by rw [List.cons_append, mvs, mvs, mvs_append rs ss, List.append_assoc]
theorem mvs_one (r : Row) : mvs [r] = r.mv := by rw [mvs, mvs, List.append_nil]
theorem pst_deps {m : Nat} : ∀ (rs A S : List Row), deps A ≤ m → deps S ≤ m → deps rs ≤ m → deps (pst A S rs).1 ≤ m ∧ deps (pst A S rs).2 ≤ m
  | [], A, S, h1, h2, _ => ⟨h1, h2⟩
  | r :: rs, A, S, h1, h2, h3 => by
    rw [deps] at h3
    rw [pst]
    split
    · exact pst_deps rs _ _ (by rw [deps_append, deps, deps]; simp; omega) h2 (by omega)
    · exact pst_deps rs _ _ h1 (by rw [deps_append, deps, deps]; simp; omega) (by omega)
theorem pst_cnts : ∀ (rs A S : List Row), cnts (pst A S rs).1 + cnts (pst A S rs).2 = cnts A + cnts S + cnts rs
  | [], A, S => rfl
  | r :: rs, A, S => by
    rw [pst, cnts]
    split
    · rw [pst_cnts rs, cnts_append, cnts, cnts]; omega
    · rw [pst_cnts rs, cnts_append, cnts, cnts]; omega
theorem pst_ok {ns : List Str} : ∀ {rs A S : List Row}, RowsOk ns A → RowsOk ns S → RowsOk ns rs → RowsOk ns (pst A S rs).1 ∧ RowsOk ns (pst A S rs).2
  | [], A, S, h1, h2, _ => ⟨h1, h2⟩
  | r :: rs, A, S, h1, h2, h3 => by
    rw [RowsOk] at h3
    rw [pst]
    split
    · exact pst_ok (RowsOk_append h1 (RowsOk_one h3.1)) h2 h3.2
    · exact pst_ok h1 (RowsOk_append h2 (RowsOk_one h3.1)) h3.2
theorem pst_ge : ∀ (rs A S : List Row), cnts A ≤ cnts (pst A S rs).1
  | [], A, S => Nat.le_refl _
  | r :: rs, A, S => by
    rw [pst]
    split
    · have := pst_ge rs (A ++ [r]) S
      rw [cnts_append] at this
      omega
    · exact pst_ge rs A (S ++ [r])
/-- where nothing goes ahead all stays -/
theorem pst_none : ∀ (rs A S : List Row), (pst A S rs).1 = A → (pst A S rs).2 = S ++ rs
  | [], A, S, _ => (List.append_nil S).symm
  | r :: rs, A, S, h => by
    rw [pst] at h ⊢
    split at h
    · have h1 := pst_ge rs (A ++ [r]) S
      rw [h, cnts_append, cnts, cnts] at h1
      have := cnt_pos r
      omega
    · rename_i c
      rw [if_neg c]
      have := pst_none rs A (S ++ [r]) h
      rw [this, List.append_assoc]
      rfl
theorem parts_deps {rs : List Row} {m : Nat} (h : deps rs ≤ m) : deps (parts rs).1 ≤ m ∧ deps (parts rs).2 ≤ m := pst_deps rs [] [] (Nat.zero_le _) (Nat.zero_le _) h
theorem parts_cnts (rs : List Row) : cnts (parts rs).1 + cnts (parts rs).2 = cnts rs := by
  have := pst_cnts rs [] []
  rw [cnts] at this
  unfold parts
  omega
theorem RowsOk_nil {ns : List Str} : RowsOk ns [] := by rw [RowsOk]; trivial
theorem parts_ok {ns : List Str} {rs : List Row} (h : RowsOk ns rs) : RowsOk ns (parts rs).1 ∧ RowsOk ns (parts rs).2 := pst_ok RowsOk_nil RowsOk_nil h
theorem parts_none {rs : List Row} (h : (parts rs).1 = []) : (parts rs).2 = rs := pst_none rs [] [] h
theorem deps_one (r : Row) : deps [r] = r.dep := by rw [deps, deps, Nat.max_zero]
theorem cnts_one (r : Row) : cnts [r] = r.cnt := by rw [cnts, cnts, Nat.add_zero]
mutual
theorem Row.mv_deps : ∀ r : Row, deps r.mv ≤ 2 * r.dep
  | .lt _ _ _ _ => by rw [Row.mv, deps_one]; exact Nat.zero_le _
  | .say _ => by rw [Row.mv, deps_one]; exact Nat.zero_le _
  | .blk kd s rs => by
    have h := mvs_deps rs
    have p := parts_deps (Nat.le_refl (deps (mvs rs)))
    cases kd
    · rw [Row.mv, deps_one, Row.dep, Row.dep]; omega
    · rw [Row.mv]
      split
      · rw [deps_one, Row.dep, Row.dep]; omega
      · rw [deps_one, Row.dep, deps_append, deps_one, Row.dep, Row.dep]; omega
    · rw [Row.mv, deps_append, deps_one, Row.dep, Row.dep]; omega
theorem mvs_deps : ∀ rs : List Row, deps (mvs rs) ≤ 2 * deps rs
  | [] => by rw [mvs]; exact Nat.zero_le _
  | r :: rs => by
    have := Row.mv_deps r
    have := mvs_deps rs
    rw [mvs, deps_append, deps]
    omega
end
mutual
theorem Row.mv_cnts : ∀ r : Row, cnts r.mv ≤ 2 * r.cnt
  | .lt _ _ _ _ => by rw [Row.mv, cnts_one, Row.cnt]; decide
  | .say _ => by rw [Row.mv, cnts_one, Row.cnt]; decide
  | .blk kd s rs => by
    have h := mvs_cnts rs
    have p := parts_cnts (mvs rs)
    cases kd
    · rw [Row.mv, cnts_one, Row.cnt, Row.cnt]; omega
    · rw [Row.mv]
      split
      · rw [cnts_one, Row.cnt, Row.cnt]; omega
      · rw [cnts_one, Row.cnt, cnts_append, cnts_one, Row.cnt, Row.cnt]; omega
    · rw [Row.mv, cnts_append, cnts_one, Row.cnt, Row.cnt]; omega
theorem mvs_cnts : ∀ rs : List Row, cnts (mvs rs) ≤ 2 * cnts rs
  | [] => by rw [mvs]; exact Nat.zero_le _
  | r :: rs => by
    have := Row.mv_cnts r
    have := mvs_cnts rs
    rw [mvs, cnts_append, cnts]
    omega
end
mutual
theorem Row.mv_ok {ns : List Str} : ∀ {r : Row}, RowOk ns r → RowsOk ns r.mv
  | .lt _ _ _ _, h => by rw [Row.mv]; exact RowsOk_one h
  | .say _, h => by rw [Row.mv]; exact RowsOk_one h
  | .blk kd s rs, h => by
    rw [RowOk] at h
    have q := mvs_ok h.2
    have p := parts_ok q
    have a : RowsOk ns [.blk .agn s (parts (mvs rs)).2] := RowsOk_one (by rw [RowOk]; exact ⟨h.1, p.2⟩)
    cases kd
    · rw [Row.mv]; exact RowsOk_one (by rw [RowOk]; exact ⟨h.1, q⟩)
    · rw [Row.mv]
      split
      · exact RowsOk_one (by rw [RowOk]; exact ⟨h.1, p.2⟩)
      · exact RowsOk_one (by rw [RowOk]; exact ⟨h.1, RowsOk_append p.1 a⟩)
    · rw [Row.mv]; exact RowsOk_append p.1 a
theorem mvs_ok {ns : List Str} : ∀ {rs : List Row}, RowsOk ns rs → RowsOk ns (mvs rs)
  | [], _ => by rw [mvs]; exact RowsOk_nil
  | r :: rs, h => by
    rw [RowsOk] at h
    rw [mvs]
    exact RowsOk_append (Row.mv_ok h.1) (mvs_ok h.2)
end
/-- many rows are put to a copy that is under way -/
theorem Made.puts {H H' H2 : Hp} {D : Addr} {rs : List Row} (m : Made H H' D rs) {ws : List V} {ss : List Row} {g : List Addr} (s : Same H' H2) (h : AllIn H2 ws ss g) (hg : ∀ l ∈ g, H' l = none) (nd : g.Nodup) : ∃ vs, H2 D = some (.lst vs) ∧ vs.length = rs.length ∧ Made H (upd H2 D (.lst (vs ++ ws))) D (rs ++ ss) := by
  obtain ⟨vs, fp, h1, h2, h3, h4⟩ := m.ex
  have hD := s _ _ h1
  have nf := h3
  rw [List.nodup_cons] at nf
  have gD : D ∉ g := fun z => by rw [hg D z] at h1; cases h1
  refine ⟨vs, hD, h2.len, Same.mut (m.same.trans s) (h4 D List.mem_cons_self), vs ++ ws, fp ++ g, upd_same, ((h2.mono s).append h).keep (Kept.upd hD fun z => (List.mem_append.mp z).elim nf.1 gD), ?_, fun l hl => ?_⟩
  · rw [← List.cons_append]
    refine List.nodup_append.mpr ⟨h3, nd, fun x hx y hy e => ?_⟩
    subst e
    have hn := hg x hy
    rcases List.mem_cons.mp hx with rfl | hx
    · exact gD hy
    · obtain ⟨xs, e⟩ := h2.at x hx
      rw [e] at hn
      cases hn
  · rw [← List.cons_append] at hl
    rcases List.mem_append.mp hl with hl | hl
    · exact h4 l hl
    · exact m.same.free (hg l hl)
section
variable {P : Program} {w : World} {K : PySem.W.Frag} {mg : Str → Option Value} {base : Heap}
def spMovedRow (n : Nat) : Sp := fun vs H Q _ => ∃ (v : V) (r : Row) (f : List Addr) (ns : List Str), vs = [v] ∧ RowIn H v r f ∧ r.dep ≤ n ∧ r.cnt ≤ 8000 ∧ RowOk ns r ∧ ns.length ≤ 60 ∧
  ∀ (p : Addr) (H' : Hp) (fp' : List Addr), Same H H' → RowsIn H' p r.mv fp' → fp'.Nodup → (∀ l ∈ fp', H l = none) → Q (.ref p) H'
def spMoved (n : Nat) : Sp := fun vs H Q _ => ∃ (a : Addr) (rs : List Row) (fp : List Addr) (ns : List Str), vs = [.ref a] ∧ RowsIn H a rs fp ∧ deps rs ≤ n ∧ cnts rs ≤ 8000 ∧ RowsOk ns rs ∧ ns.length ≤ 60 ∧
  ∀ (p : Addr) (H' : Hp) (fp' : List Addr), Same H H' → RowsIn H' p (mvs rs) fp' → fp'.Nodup → (∀ l ∈ fp', H l = none) → Q (.ref p) H'
theorem dec_len0 (n : Nat) : decide ((n : Int) = 0) = decide (n = 0) := by rw [decide_eq_decide]; omega
end
/-! ### _law_sound_row, _law_sound -/
section
variable {P : Program} {w : World} {K : PySem.W.Frag} {mg : Str → Option Value} {base : Heap}
def spSoundRow (n : Nat) : Sp := fun vs H Q _ => ∃ (v : V) (r : Row) (f : List Addr), vs = [v] ∧ RowIn H v r f ∧ r.dep ≤ n ∧ r.cnt ≤ 100000 ∧ ∀ H', Same H H' → Q (.bl true) H'
def spSound (n : Nat) : Sp := fun vs H Q _ => ∃ (a : Addr) (rs : List Row) (fp : List Addr), vs = [.ref a] ∧ RowsIn H a rs fp ∧ deps rs ≤ n ∧ cnts rs ≤ 100000 ∧ ∀ H', Same H H' → Q (.bl true) H'
theorem kd_in (kd : Kd) : inV (.str kd.nm) [.str "when", .str "loop", .str "again"] = true := in_blocks kd
theorem sg_in (sg : Sg) : inV (.str sg.nm) [.str "+", .str "-", .str "*", .str "<", .str "/"] = true := by cases sg <;> decide +kernel
theorem ok_sound_row (T : Txt K mg) (n : Nat) (hm : ∀ k < n, CallOk P w K mg base (2 * k + 4) "_law_sound" ["_law_rows"] (spSound k)) : CallOk P w K mg base (2 * n + 2 + 1) "_law_sound_row" ["_law_row"] (spSoundRow n) := by
  have GW : CallOk P w K mg base 1 "_law_whole" ["_law_found"] spWhole := ok_whole T
  refine go_l_sound_row T.d_l_sound_row (fun vs H Q E h => ?_) ?_
  · obtain ⟨v, r, f, rfl, _⟩ := h
    rfl
  intro X e1 e2 e3 e4 e5 C sc hr vs H Q E h
  subst e1 e2 e3 e4 e5
  obtain ⟨v, r, f, rfl, hR, hd, hc, q⟩ := h
  show WSs X _ _ [some v, none] H
  have b1 := T.b_len
  have b2 := T.b_isinstance
  have b3 := T.b_tuple
  have b4 := T.b_str
  have b5 := T.b_int
  refine s_cons ?_
  cases hR with
  | @blk t c kd s rs g ht hb =>
    rw [Row.dep] at hd
    rw [Row.cnt] at hc
    obtain ⟨k, rfl⟩ : ∃ k, n = k + 1 := ⟨n - 1, by omega⟩
    have G1 := hm k (Nat.lt_succ_self k)
    wtm_at "lm"
    intro p1 H1 hp1 s1 h1
    have ht1 := s1 _ _ ht
    refine c_notInT (SqT.of h1) rfl rfl ?_
    wtm_at "lm"
    refine ite_bF rfl ?_
    wtm_at "lm"
    intro p2 H2 hp2 s2 h2
    have ht2 := s2 _ _ ht1
    wtm_at "lm"
    refine ⟨c, rs, _, rfl, (hb.mono s1).mono s2, by omega, by omega, fun H3 s3 => ?_⟩
    exact q H3 ((s1.trans s2).trans s3)
  | @say t x ht =>
    wtm_at "lm"
    intro p1 H1 hp1 s1 h1
    have ht1 := s1 _ _ ht
    refine c_notInT (SqT.of h1) rfl rfl ?_
    wtm_at "lm"
    refine ite_bF rfl ?_
    wtm_at "lm"
    refine wi_tup ?_
    wtm_at "lm"
    refine l_tup (SqT.of ht1) (by show ¬ (HT.sIx 2 0 (some 1) = 0 ∧ HT.sIx 2 2 none = 2); decide) ?_
    intro u H3 hu s3 h3
    replace h3 : H3 u = some (.tup ([x].map kV)) := h3
    have s13 := s1.trans s3
    wtm_at "lm"
    refine for_t (fun j σ' H' => ∃ o : Option V, σ' = [some (.ref t), o] ∧ Same H3 H') ⟨_, rfl, Same.refl _⟩ (fun j σ' H' _ ⟨_, _, m⟩ => SqT.of (m _ _ h3)) ?_ ?_
    · rintro j v σ' H' hj ⟨o, rfl, m⟩
      refine ⟨_, by wtm_at "lm.put", ?_⟩
      rw [List.getElem?_map] at hj
      obtain ⟨key, hk, rfl⟩ := Option.map_eq_some_iff.mp hj
      cases key with
      | inl z =>
        show WSs X _ _ [_, some (.int z)] _
        wtm_at "lm"
        refine ⟨z, rfl, ?_⟩
        wtm_at "lm"
        exact ⟨_, rfl, m⟩
      | inr z =>
        show WSs X _ _ [_, some (.str z)] _
        wtm_at "lm"
        exact ⟨_, rfl, m⟩
    · rintro σ' H' ⟨o, rfl, m⟩
      have ht4 := m _ _ (s3 _ _ ht1)
      wtm_at "lm"
      exact q H' (s13.trans m)
  | @lt t to sg x y ht =>
    wtm_at "lm"
    intro p1 H1 hp1 s1 h1
    have ht1 := s1 _ _ ht
    refine c_notInT (SqT.of h1) rfl rfl ?_
    wtm_at "lm"
    refine ite_bF rfl ?_
    wtm_at "lm"
    refine wi_tup ?_
    wtm_at "lm"
    refine l_tup (SqT.of ht1) (by show ¬ (HT.sIx 5 0 (some 3) = 0 ∧ HT.sIx 5 5 none = 5); decide) ?_
    intro u H3 hu s3 h3
    replace h3 : H3 u = some (.tup ([x, y].map kV)) := h3
    have s13 := s1.trans s3
    wtm_at "lm"
    refine for_t (fun j σ' H' => ∃ o : Option V, σ' = [some (.ref t), o] ∧ Same H3 H') ⟨_, rfl, Same.refl _⟩ (fun j σ' H' _ ⟨_, _, m⟩ => SqT.of (m _ _ h3)) ?_ ?_
    · rintro j v σ' H' hj ⟨o, rfl, m⟩
      refine ⟨_, by wtm_at "lm.put", ?_⟩
      rw [List.getElem?_map] at hj
      obtain ⟨key, hk, rfl⟩ := Option.map_eq_some_iff.mp hj
      cases key with
      | inl z =>
        show WSs X _ _ [_, some (.int z)] _
        wtm_at "lm"
        refine ⟨z, rfl, ?_⟩
        wtm_at "lm"
        exact ⟨_, rfl, m⟩
      | inr z =>
        show WSs X _ _ [_, some (.str z)] _
        wtm_at "lm"
        exact ⟨_, rfl, m⟩
    · rintro σ' H' ⟨o, rfl, m⟩
      have ht4 := m _ _ (s3 _ _ ht1)
      wtm_at "lm"
      intro p5 H5 hp5 s5 h5
      refine c_inT (SqT.of h5) rfl rfl ?_
      rw [sg_in]
      exact q H5 ((s13.trans m).trans s5)
theorem ok_sound (T : Txt K mg) (n : Nat) : CallOk P w K mg base (2 * n + 4) "_law_sound" ["_law_rows"] (spSound n) := by
  induction n using Nat.strongRecOn with
  | ind n ih =>
    have G1 : CallOk P w K mg base (2 * n + 2 + 1) "_law_sound_row" ["_law_row"] (spSoundRow n) := ok_sound_row T n ih
    refine go_l_sound (k := 2 * n + 3) T.d_l_sound (fun vs H Q E h => ?_) ?_
    · obtain ⟨a, rs, fp, rfl, _⟩ := h
      rfl
    intro X e1 e2 e3 e4 e5 C sc hr vs H Q E h
    subst e1 e2 e3 e4 e5
    obtain ⟨a, rs, fp, rfl, hR, hd, hc, q⟩ := h
    show WSs X _ _ [some (.ref a), none] H
    have b1 := T.b_isinstance
    have b2 := T.b_list
    have b3 := T.b_all
    cases hR with
    | @mk _ vs _ fp h ha =>
    have vl := ha.len
    have lc := len_cnts rs
    refine s_cons ?_
    wtm_at "lm"
    refine w_lc (i := 1) C (by decide +kernel) (by rw [sc]; exact blkOk_by (by decide +kernel)) rfl (by wtm_at "lm.wip") (wi_list ?_)
    wtm_at "lm"
    refine lc_vals (f := fun i v => vs[i]? = some v) (walk_list (xs := vs)) (fun _ => .bl true) (by omega) (fun H' s => SqL.of (s _ _ h)) (fun j y H2 hj hy s2 => ?_) fun l H2 hl s2 h3 => ?_
    · refine ⟨_, by wtm_at "lm.put", ?_⟩
      intro Y hY
      have CY := hY.fr (L' := ["_law_row"]) (Vs' := ["_law_row"]) (G' := ["_law_sound_row"]) C (by decide +kernel)
      obtain ⟨s, H0, Cd, cl, fp, rfl⟩ := hY
      obtain ⟨r, f, hr1, hr2, _⟩ := ha.get hy
      have mem := List.mem_of_getElem? hr1
      have d1 := deps_mem mem
      have c1 := cnts_mem mem
      wtm_at "lm"
      exact ⟨y, r, f, rfl, hr2.mono s2, by omega, by omega, fun H' s' => ⟨s', rfl⟩⟩
    · wtm_at "lm"
      refine k_all (bs := (List.range vs.length).map fun _ => true) C (SqL.of (by rw [h3, List.map_map]; rfl)) ?_
      rw [all_true]
      exact q H2 s2
end
/-! ### how a program runs: step by step, with so many steps left -/
structure Rs where
  kvs : List (Key × V)
  said : List Int
  left : Nat
inductive Oc where
  | done | long | nought
  deriving DecidableEq
def Oc.nm : Oc → Str
  | .done => "done"
  | .long => "too long"
  | .nought => "by nought"
/-- what a dict of names gives -/
def lookI (kvs : List (Key × V)) (s : Str) : Int := match valV kvs (.inr s) with
  | some (.int i) => i
  | _ => 0
def Rs.val (st : Rs) : Key → Int
  | .inl i => i
  | .inr s => lookI st.kvs s
def came : Sg → Int → Int → Int
  | .add, a, b => (a + b) % 1000000
  | .sub, a, b => (a - b) % 1000000
  | .mul, a, b => a * b % 1000000
  | .lss, a, b => if a < b then 1 else 0
  | .div, a, b => a / b
def loopN (body : Rs → Rs × Oc) (test : Str) : Nat → Rs → Rs × Oc
  | 0, st => (st, .long)
  | n + 1, st => match st.left with
    | 0 => (st, .long)
    | l + 1 => if lookI st.kvs test = 0 then ({ st with left := l }, .done) else match body { st with left := l } with
      | (st2, .done) => loopN body test n st2
      | (st2, .long) => (st2, .long)
      | (st2, .nought) => (st2, .nought)
def letEv (to : Str) (sg : Sg) (x y : Key) (st : Rs) : Rs × Oc :=
  if sg = .div ∧ st.val y = 0 then (st, .nought) else ({ st with kvs := putK st.kvs (.inr to) (.int (came sg (st.val x) (st.val y))) }, .done)
mutual
def Row.ev : Row → Rs → Rs × Oc
  | .lt to sg x y => fun st => match st.left with
    | 0 => (st, .long)
    | l + 1 => letEv to sg x y { st with left := l }
  | .say x => fun st => match st.left with
    | 0 => (st, .long)
    | l + 1 => ({ st with said := st.said ++ [st.val x], left := l }, .done)
  | .blk .whn t rs => fun st => match st.left with
    | 0 => (st, .long)
    | l + 1 => if lookI st.kvs t = 0 then ({ st with left := l }, .done) else evs rs { st with left := l }
  | .blk .lop t rs => fun st => loopN (evs rs) t (st.left + 1) st
  | .blk .agn t rs => fun st => match evs rs st with
    | (st1, .done) => loopN (evs rs) t (st1.left + 1) st1
    | (st1, .long) => (st1, .long)
    | (st1, .nought) => (st1, .nought)
def evs : List Row → Rs → Rs × Oc
  | [] => fun st => (st, .done)
  | r :: rs => fun st => match r.ev st with
    | (st1, .done) => evs rs st1
    | (st1, .long) => (st1, .long)
    | (st1, .nought) => (st1, .nought)
end
/-- names and whole numbers from 0 to 999999 -/
def NumsIn (ns : List Str) (kvs : List (Key × V)) : Prop := (kvs.map (·.1)).Nodup ∧ ∀ kv ∈ kvs, ∃ s i, kv = (Sum.inr s, V.int i) ∧ s ∈ ns ∧ 0 ≤ i ∧ i ≤ 999999
theorem lookI_rng {ns : List Str} {kvs : List (Key × V)} (h : NumsIn ns kvs) (s : Str) : 0 ≤ lookI kvs s ∧ lookI kvs s ≤ 999999 := by
  unfold lookI
  cases e : valV kvs (.inr s) with
  | none => exact ⟨by decide, by decide⟩
  | some v =>
    unfold valV at e
    obtain ⟨kv, h1, h2⟩ := Option.map_eq_some_iff.mp e
    obtain ⟨s', i, rfl, _, h3, h4⟩ := h.2 kv (List.mem_of_find?_eq_some h1)
    subst h2
    exact ⟨h3, h4⟩
theorem lookI_val {ns : List Str} {kvs : List (Key × V)} (h : NumsIn ns kvs) (s : Str) : (valV kvs (.inr s)).getD (.int 0) = .int (lookI kvs s) := by
  unfold lookI
  cases e : valV kvs (.inr s) with
  | none => rfl
  | some v =>
    unfold valV at e
    obtain ⟨kv, h1, h2⟩ := Option.map_eq_some_iff.mp e
    obtain ⟨s', i, rfl, _, _⟩ := h.2 kv (List.mem_of_find?_eq_some h1)
    subst h2
    rfl
theorem NumsIn.len {ns : List Str} {kvs : List (Key × V)} (h : NumsIn ns kvs) : kvs.length ≤ ns.length := by
  have := List.Nodup.length_le_of_subset h.1 (l₂ := ns.map Sum.inr) fun k hk => by
    obtain ⟨kv, h1, rfl⟩ := List.mem_map.mp hk
    obtain ⟨s, i, rfl, h2, _⟩ := h.2 kv h1
    exact List.mem_map.mpr ⟨s, h2, rfl⟩
  rw [List.length_map, List.length_map] at this
  exact this
theorem NumsIn.put {ns : List Str} {kvs : List (Key × V)} (h : NumsIn ns kvs) {s : Str} {i : Int} (hs : s ∈ ns) (h0 : 0 ≤ i) (h1 : i ≤ 999999) : NumsIn ns (putK kvs (.inr s) (.int i)) := by
  constructor
  · by_cases hm : (.inr s : Key) ∈ kvs.map (·.1)
    · rw [keys_putK_in _ _ _ hm]; exact h.1
    · rw [keys_putK_new _ _ _ hm]
      exact List.nodup_append.mpr ⟨h.1, by simp, fun a ha b hb e => hm (by rw [List.mem_singleton.mp hb] at e; exact e ▸ ha)⟩
  · intro kv hk
    unfold putK at hk
    split at hk
    · obtain ⟨kv', h2, rfl⟩ := List.mem_map.mp hk
      split
      · rename_i c
        obtain ⟨s', i', rfl, h3, _⟩ := h.2 kv' h2
        exact ⟨s', i, rfl, h3, h0, h1⟩
      · exact h.2 kv' h2
    · rcases List.mem_append.mp hk with hk | hk
      · exact h.2 kv hk
      · rw [List.mem_singleton.mp hk]
        exact ⟨s, i, rfl, hs, h0, h1⟩
theorem val_rng {ns : List Str} {st : Rs} (h : NumsIn ns st.kvs) {k : Key} (ok : KeyOk ns k) : 0 ≤ st.val k ∧ st.val k ≤ 999999 := by
  cases k with
  | inl i => exact ok
  | inr s => exact lookI_rng h s
theorem came_rng {sg : Sg} {a b : Int} (ha : 0 ≤ a ∧ a ≤ 999999) (hb : 0 ≤ b ∧ b ≤ 999999) (h : ¬ (sg = .div ∧ b = 0)) : 0 ≤ came sg a b ∧ came sg a b ≤ 999999 := by
  cases sg with
  | add => show 0 ≤ (a + b) % 1000000 ∧ (a + b) % 1000000 ≤ 999999; omega
  | sub => show 0 ≤ (a - b) % 1000000 ∧ (a - b) % 1000000 ≤ 999999; omega
  | mul => show 0 ≤ (a * b) % 1000000 ∧ (a * b) % 1000000 ≤ 999999; omega
  | lss => show 0 ≤ (if a < b then 1 else 0 : Int) ∧ (if a < b then 1 else 0 : Int) ≤ 999999; split <;> decide
  | div =>
    have hb0 : 0 < b := by
      have : b ≠ 0 := fun e => h ⟨rfl, e⟩
      omega
    refine ⟨Int.ediv_nonneg ha.1 hb.1, ?_⟩
    have := Int.ediv_le_self b ha.1
    show a / b ≤ 999999
    omega
/-- what stays so while a program runs -/
structure StOk (ns : List Str) (B : Nat) (st : Rs) : Prop where
  nums : NumsIn ns st.kvs
  said : st.said.length + st.left ≤ B
/-! ### a run: how much is left, what stays so -/
def lp (body : Rs → Rs × Oc) (t : Str) (st : Rs) : Rs × Oc := loopN body t (st.left + 1) st
theorem loop_enough {body : Rs → Rs × Oc} {t : Str} (hb : ∀ st, (body st).1.left ≤ st.left) : ∀ (n m : Nat) (st : Rs), st.left < n → st.left < m → loopN body t n st = loopN body t m st
  | 0, _, st, h, _ => absurd h (Nat.not_lt_zero _)
  | n + 1, 0, st, _, h => absurd h (Nat.not_lt_zero _)
  | n + 1, m + 1, st, h1, h2 => by
    rw [loopN, loopN]
    cases e : st.left with
    | zero => rfl
    | succ l =>
      simp only
      split
      · rfl
      · have hl := hb { st with left := l }
        cases e2 : body { st with left := l } with
        | mk st2 o =>
          rw [e2] at hl
          cases o with
          | done => exact loop_enough hb n m st2 (by show st2.left < n; have : st2.left ≤ l := hl; omega) (by have : st2.left ≤ l := hl; omega)
          | long => rfl
          | nought => rfl
theorem lp_zero {body : Rs → Rs × Oc} {t : Str} {st : Rs} (h : st.left = 0) : lp body t st = (st, .long) := by
  unfold lp
  rw [loopN, h]
theorem lp_out {body : Rs → Rs × Oc} {t : Str} {st : Rs} {l : Nat} (h : st.left = l + 1) (h0 : lookI st.kvs t = 0) : lp body t st = ({ st with left := l }, .done) := by
  unfold lp
  rw [loopN, h]
  simp only [h0, if_true]
theorem lp_in {body : Rs → Rs × Oc} {t : Str} {st st2 : Rs} {l : Nat} (hb : ∀ st, (body st).1.left ≤ st.left) (h : st.left = l + 1) (h0 : ¬ lookI st.kvs t = 0) (e : body { st with left := l } = (st2, .done)) : lp body t st = lp body t st2 := by
  have hl := hb { st with left := l }
  rw [e] at hl
  replace hl : st2.left ≤ l := hl
  unfold lp
  rw [loopN, h]
  simp only [h0, if_false, e]
  exact loop_enough hb _ _ st2 (by omega) (by omega)
theorem lp_end {body : Rs → Rs × Oc} {t : Str} {st st2 : Rs} {l : Nat} {o : Oc} (h : st.left = l + 1) (h0 : ¬ lookI st.kvs t = 0) (e : body { st with left := l } = (st2, o)) (ho : o ≠ .done) : lp body t st = (st2, o) := by
  unfold lp
  rw [loopN, h]
  simp only [h0, if_false, e]
  cases o with
  | done => exact absurd rfl ho
  | long => rfl
  | nought => rfl
theorem loop_keeps {body : Rs → Rs × Oc} {t : Str} {I : Rs → Prop} (hb : ∀ st, I st → I (body st).1) (hl : ∀ st l, st.left = l + 1 → I st → I { st with left := l }) : ∀ (n : Nat) (st : Rs), I st → I (loopN body t n st).1
  | 0, st, h => h
  | n + 1, st, h => by
    rw [loopN]
    cases e : st.left with
    | zero => exact h
    | succ l =>
      simp only
      have h1 := hl st l e h
      split
      · exact h1
      · have h2 := hb _ h1
        cases e2 : body { st with left := l } with
        | mk st2 o =>
          rw [e2] at h2
          cases o with
          | done => exact loop_keeps hb hl n st2 h2
          | long => exact h2
          | nought => exact h2
section
variable {to : Str} {sg : Sg} {x y : Key} {t : Str} {r : Row} {rs : List Row} {st st1 : Rs} {l : Nat} {o : Oc}
theorem ev_lt0 (h : st.left = 0) : (Row.lt to sg x y).ev st = (st, .long) := by rw [Row.ev]; simp only [h]
theorem ev_lt1 (h : st.left = l + 1) : (Row.lt to sg x y).ev st = letEv to sg x y { st with left := l } := by rw [Row.ev]; simp only [h]
theorem ev_say0 (h : st.left = 0) : (Row.say x).ev st = (st, .long) := by rw [Row.ev]; simp only [h]
theorem ev_say1 (h : st.left = l + 1) : (Row.say x).ev st = ({ st with said := st.said ++ [st.val x], left := l }, .done) := by rw [Row.ev]; simp only [h]
theorem ev_whn0 (h : st.left = 0) : (Row.blk .whn t rs).ev st = (st, .long) := by rw [Row.ev]; simp only [h]
theorem ev_whn1 (h : st.left = l + 1) : (Row.blk .whn t rs).ev st = if lookI st.kvs t = 0 then ({ st with left := l }, .done) else evs rs { st with left := l } := by rw [Row.ev]; simp only [h]
theorem ev_lop : (Row.blk .lop t rs).ev st = lp (evs rs) t st := by rw [Row.ev]; rfl
theorem ev_agn (e : evs rs st = (st1, .done)) : (Row.blk .agn t rs).ev st = lp (evs rs) t st1 := by rw [Row.ev]; simp only [e]; rfl
theorem ev_agn' (e : evs rs st = (st1, o)) (ho : o ≠ .done) : (Row.blk .agn t rs).ev st = (st1, o) := by
  rw [Row.ev]
  simp only [e]
  cases o with
  | done => exact absurd rfl ho
  | long => rfl
  | nought => rfl
theorem evs_nil : evs [] st = (st, .done) := by rw [evs]
theorem evs_done (e : r.ev st = (st1, .done)) : evs (r :: rs) st = evs rs st1 := by rw [evs]; simp only [e]
theorem evs_end (e : r.ev st = (st1, o)) (ho : o ≠ .done) : evs (r :: rs) st = (st1, o) := by
  rw [evs]
  simp only [e]
  cases o with
  | done => exact absurd rfl ho
  | long => rfl
  | nought => rfl
end
theorem letEv_keeps {I : Rs → Prop} {ns : List Str} {to : Str} {sg : Sg} {x y : Key} (ok : RowOk ns (.lt to sg x y)) (hp : ∀ st i, I st → to ∈ ns → 0 ≤ i → i ≤ 999999 → I { st with kvs := putK st.kvs (.inr to) (.int i) }) (hn : ∀ st, I st → NumsIn ns st.kvs) {st : Rs} (h : I st) : I (letEv to sg x y st).1 := by
  rw [RowOk] at ok
  unfold letEv
  split
  · exact h
  · rename_i c
    have := came_rng (val_rng (hn st h) ok.2.1) (val_rng (hn st h) ok.2.2) c
    exact hp st _ h ok.1 this.1 this.2
mutual
theorem Row.ev_keeps {I : Rs → Prop} {ns : List Str} (hp : ∀ st to i, I st → to ∈ ns → 0 ≤ i → i ≤ 999999 → I { st with kvs := putK st.kvs (.inr to) (.int i) }) (hn : ∀ st, I st → NumsIn ns st.kvs) (hl : ∀ st l, st.left = l + 1 → I st → I { st with left := l })
    (hs : ∀ st l x, st.left = l + 1 → I st → I { st with said := st.said ++ [x], left := l }) : ∀ {r : Row}, RowOk ns r → ∀ st, I st → I (r.ev st).1
  | .lt to sg x y, ok, st, h => by
    cases e : st.left with
    | zero => rw [ev_lt0 e]; exact h
    | succ l => rw [ev_lt1 e]; exact letEv_keeps ok (fun st i a b c d => hp st to i a b c d) hn (hl st l e h)
  | .say x, ok, st, h => by
    cases e : st.left with
    | zero => rw [ev_say0 e]; exact h
    | succ l => rw [ev_say1 e]; exact hs st l _ e h
  | .blk kd t rs, ok, st, h => by
    rw [RowOk] at ok
    have ih := evs_keeps hp hn hl hs (rs := rs) ok.2
    cases kd with
    | whn =>
      cases e : st.left with
      | zero => rw [ev_whn0 e]; exact h
      | succ l =>
        rw [ev_whn1 e]
        split
        · exact hl st l e h
        · exact ih _ (hl st l e h)
    | lop => rw [ev_lop]; exact loop_keeps ih hl _ st h
    | agn =>
      have h1 := ih st h
      cases e : evs rs st with
      | mk st1 o =>
        rw [e] at h1
        by_cases ho : o = .done
        · subst ho
          rw [ev_agn e]
          exact loop_keeps ih hl _ st1 h1
        · rw [ev_agn' e ho]; exact h1
theorem evs_keeps {I : Rs → Prop} {ns : List Str} (hp : ∀ st to i, I st → to ∈ ns → 0 ≤ i → i ≤ 999999 → I { st with kvs := putK st.kvs (.inr to) (.int i) }) (hn : ∀ st, I st → NumsIn ns st.kvs) (hl : ∀ st l, st.left = l + 1 → I st → I { st with left := l })
    (hs : ∀ st l x, st.left = l + 1 → I st → I { st with said := st.said ++ [x], left := l }) : ∀ {rs : List Row}, RowsOk ns rs → ∀ st, I st → I (evs rs st).1
  | [], _, st, h => by rw [evs_nil]; exact h
  | r :: rs, ok, st, h => by
    rw [RowsOk] at ok
    have h1 := Row.ev_keeps hp hn hl hs (r := r) ok.1 st h
    cases e : r.ev st with
    | mk st1 o =>
      rw [e] at h1
      by_cases ho : o = .done
      · subst ho
        rw [evs_done e]
        exact evs_keeps hp hn hl hs (rs := rs) ok.2 st1 h1
      · rw [evs_end e ho]; exact h1
end
mutual
theorem Row.ev_left : ∀ (r : Row) (st : Rs), (r.ev st).1.left ≤ st.left
  | .lt to sg x y, st => by
    cases e : st.left with
    | zero => rw [ev_lt0 e, e]; exact Nat.le_refl _
    | succ l => rw [ev_lt1 e]; unfold letEv; split <;> exact Nat.le_succ l
  | .say x, st => by
    cases e : st.left with
    | zero => rw [ev_say0 e, e]; exact Nat.le_refl _
    | succ l => rw [ev_say1 e]; exact Nat.le_succ l
  | .blk kd t rs, st => by
    have ih := evs_left rs
    have lk : ∀ n st, (loopN (evs rs) t n st).1.left ≤ st.left := fun n st => loop_keeps (I := fun s => s.left ≤ st.left) (fun s h => Nat.le_trans (ih s) h) (fun s l e h => by show l ≤ st.left; omega) n st (Nat.le_refl _)
    cases kd with
    | whn =>
      cases e : st.left with
      | zero => rw [ev_whn0 e, e]; exact Nat.le_refl _
      | succ l =>
        rw [ev_whn1 e]
        split
        · exact Nat.le_succ l
        · exact Nat.le_trans (ih _) (Nat.le_succ l)
    | lop => rw [ev_lop]; exact lk _ st
    | agn =>
      have h1 := ih st
      cases e : evs rs st with
      | mk st1 o =>
        rw [e] at h1
        by_cases ho : o = .done
        · subst ho
          rw [ev_agn e]
          exact Nat.le_trans (lk _ st1) h1
        · rw [ev_agn' e ho]; exact h1
theorem evs_left : ∀ (rs : List Row) (st : Rs), (evs rs st).1.left ≤ st.left
  | [], st => by rw [evs_nil]; exact Nat.le_refl _
  | r :: rs, st => by
    have h1 := Row.ev_left r st
    cases e : r.ev st with
    | mk st1 o =>
      rw [e] at h1
      by_cases ho : o = .done
      · subst ho
        rw [evs_done e]
        exact Nat.le_trans (evs_left rs st1) h1
      · rw [evs_end e ho]; exact h1
end
theorem StOk.row {ns : List Str} {B : Nat} {r : Row} (ok : RowOk ns r) {st : Rs} (h : StOk ns B st) : StOk ns B (r.ev st).1 :=
  Row.ev_keeps (I := StOk ns B) (fun st to i h a b c => ⟨h.nums.put a b c, h.said⟩) (fun _ h => h.nums) (fun st l e h => ⟨h.nums, by have := h.said; show st.said.length + l ≤ B; omega⟩) (fun st l x e h => ⟨h.nums, by have := h.said; show (st.said ++ [x]).length + l ≤ B; rw [List.length_append]; show st.said.length + 1 + l ≤ B; omega⟩) ok st h
theorem StOk.rows {ns : List Str} {B : Nat} {rs : List Row} (ok : RowsOk ns rs) {st : Rs} (h : StOk ns B st) : StOk ns B (evs rs st).1 :=
  evs_keeps (I := StOk ns B) (fun st to i h a b c => ⟨h.nums.put a b c, h.said⟩) (fun _ h => h.nums) (fun st l e h => ⟨h.nums, by have := h.said; show st.said.length + l ≤ B; omega⟩) (fun st l x e h => ⟨h.nums, by have := h.said; show (st.said ++ [x]).length + l ≤ B; rw [List.length_append]; show st.said.length + 1 + l ≤ B; omega⟩) ok st h
theorem StOk.one {ns : List Str} {B : Nat} {st : Rs} {l : Nat} (h : StOk ns B st) (e : st.left = l + 1) : StOk ns B { st with left := l } := ⟨h.nums, by have := h.said; show st.said.length + l ≤ B; omega⟩
/-- nothing changed but the tale -/
def ButT (t v s : Addr) (H H' : Hp) : Prop := ∀ l o, l ≠ t → l ≠ v → l ≠ s → H l = some o → H' l = some o
theorem ButT.refl {t v s : Addr} {H : Hp} : ButT t v s H H := fun _ _ _ _ _ h => h
theorem ButT.trans {t v s : Addr} {H H1 H2 : Hp} (a : ButT t v s H H1) (b : ButT t v s H1 H2) : ButT t v s H H2 := fun l o h1 h2 h3 q => b l o h1 h2 h3 (a l o h1 h2 h3 q)
theorem ButT.same {t v s : Addr} {H H1 H2 : Hp} (a : ButT t v s H H1) (b : Same H1 H2) : ButT t v s H H2 := fun l o h1 h2 h3 q => b l o (a l o h1 h2 h3 q)
theorem ButT.t {t v s : Addr} {H : Hp} {o : HO} : ButT t v s H (upd H t o) := fun l u h1 _ _ q => by rw [upd_ne h1]; exact q
theorem ButT.v {t v s : Addr} {H : Hp} {o : HO} : ButT t v s H (upd H v o) := fun l u _ h1 _ q => by rw [upd_ne h1]; exact q
theorem ButT.s {t v s : Addr} {H : Hp} {o : HO} : ButT t v s H (upd H s o) := fun l u _ _ h1 q => by rw [upd_ne h1]; exact q
/-! ### the law's own run -/
def taleKV (v s : Addr) (n m : Int) (e : Str) : List (Key × V) := [(.inr "values", .ref v), (.inr "said", .ref s), (.inr "steps", .int n), (.inr "most", .int m), (.inr "ending", .str e)]
section
variable {v s : Addr} {n m : Int} {e : Str}
theorem t_values : valV (taleKV v s n m e) (.inr "values") = some (.ref v) := by
  unfold taleKV
  exact valV_pos rfl
theorem key_ne {a b : Str} (h : decide (a = b) = false) : ¬ (Sum.inr a : Key) = .inr b := fun e => by
  have := of_decide_eq_false h
  exact this (Sum.inr.inj e)
theorem valV_skip {p : Key × V} {r : List (Key × V)} {k : Key} (h : ¬ p.1 = k) : valV (p :: r) k = valV r k := by
  unfold valV
  rw [List.find?_cons, decide_eq_false h]
theorem t_said : valV (taleKV v s n m e) (.inr "said") = some (.ref s) := by
  unfold taleKV
  rw [valV_skip (key_ne (by decide +kernel))]
  exact valV_pos rfl
theorem t_steps : valV (taleKV v s n m e) (.inr "steps") = some (.int n) := by
  unfold taleKV
  rw [valV_skip (key_ne (by decide +kernel)), valV_skip (key_ne (by decide +kernel))]
  exact valV_pos rfl
theorem t_most : valV (taleKV v s n m e) (.inr "most") = some (.int m) := by
  unfold taleKV
  rw [valV_skip (key_ne (by decide +kernel)), valV_skip (key_ne (by decide +kernel)), valV_skip (key_ne (by decide +kernel))]
  exact valV_pos rfl
theorem t_ending : valV (taleKV v s n m e) (.inr "ending") = some (.str e) := by
  unfold taleKV
  rw [valV_skip (key_ne (by decide +kernel)), valV_skip (key_ne (by decide +kernel)), valV_skip (key_ne (by decide +kernel)), valV_skip (key_ne (by decide +kernel))]
  exact valV_pos rfl
theorem put_steps {k : Int} : putK (taleKV v s n m e) (.inr "steps") (.int k) = taleKV v s k m e := by
  have h1 : ¬ (Sum.inr ("values" : Str) : Key) = .inr "steps" := key_ne (by decide +kernel)
  have h2 : ¬ (Sum.inr ("said" : Str) : Key) = .inr "steps" := key_ne (by decide +kernel)
  have h3 : ¬ (Sum.inr ("most" : Str) : Key) = .inr "steps" := key_ne (by decide +kernel)
  have h4 : ¬ (Sum.inr ("ending" : Str) : Key) = .inr "steps" := key_ne (by decide +kernel)
  unfold putK taleKV
  rw [if_pos (List.any_eq_true.mpr ⟨(.inr "steps", .int n), by simp, by simp⟩)]
  simp only [List.map_cons, List.map_nil, if_neg h1, if_neg h2, if_neg h3, if_neg h4, if_true]
theorem put_ending {x : Str} : putK (taleKV v s n m e) (.inr "ending") (.str x) = taleKV v s n m x := by
  have h1 : ¬ (Sum.inr ("values" : Str) : Key) = .inr "ending" := key_ne (by decide +kernel)
  have h2 : ¬ (Sum.inr ("said" : Str) : Key) = .inr "ending" := key_ne (by decide +kernel)
  have h3 : ¬ (Sum.inr ("most" : Str) : Key) = .inr "ending" := key_ne (by decide +kernel)
  have h4 : ¬ (Sum.inr ("steps" : Str) : Key) = .inr "ending" := key_ne (by decide +kernel)
  unfold putK taleKV
  rw [if_pos (List.any_eq_true.mpr ⟨(.inr "ending", .str e), by simp, by simp⟩)]
  simp only [List.map_cons, List.map_nil, if_neg h1, if_neg h2, if_neg h3, if_neg h4, if_true]
end
theorem dg {H : Hp} {p : Addr} {kvs : List (Key × V)} {k : Str} {v : V} (h : H p = some (.dK kvs)) (e : valV kvs (.inr k) = some v) : DGet H p (.str k) (some v) := e ▸ DGet.k (k := .inr k) h
/-- the tale at t: values at v, said at s -/
structure TaleAt (H : Hp) (t v s : Addr) (st : Rs) (most : Nat) (e : Str) : Prop where
  ht : H t = some (.dK (taleKV v s ((most : Int) - st.left) most e))
  hv : H v = some (.dK st.kvs)
  hs : H s = some (.lst (st.said.map V.int))
  ne : v ≠ t
  le : st.left ≤ most
theorem TaleAt.kept {H H' : Hp} {t v s : Addr} {st : Rs} {most : Nat} {e : Str} (T : TaleAt H t v s st most e) (k : ButT t v s H H') {fp : List Addr} (h : ∀ l ∈ fp, ∃ xs, H l = some (.lst xs)) (hs : s ∉ fp) : Kept fp H H' :=
  ⟨fun x xs q => k x _ (ne_of q T.ht fun z => nomatch z) (ne_of q T.hv fun z => nomatch z) (ne_of q T.hs fun z => nomatch z) q,
   fun l hl => by
    obtain ⟨xs, q⟩ := h l hl
    rw [q]
    exact k l _ (ne_of q T.ht fun z => nomatch z) (ne_of q T.hv fun z => nomatch z) (fun z => hs (z ▸ hl)) q⟩
theorem TaleAt.mono {H H' : Hp} {t v s : Addr} {st : Rs} {most : Nat} {e : Str} (T : TaleAt H t v s st most e) (k : Same H H') : TaleAt H' t v s st most e := ⟨k _ _ T.ht, k _ _ T.hv, k _ _ T.hs, T.ne, T.le⟩
theorem TaleAt.st {H : Hp} {t v s : Addr} {st : Rs} {most : Nat} {e : Str} (T : TaleAt H t v s st most e) : s ≠ t ∧ s ≠ v := ⟨ne_of T.hs T.ht (fun z => nomatch z), ne_of T.hs T.hv (fun z => nomatch z)⟩
section
variable {P : Program} {w : World} {K : PySem.W.Frag} {mg : Str → Option Value} {base : Heap}
/-- _law_value_of -/
def spValOf : Sp := fun vs H Q _ => ∃ (k : Key) (t v s : Addr) (st : Rs) (most : Nat) (e : Str) (ns : List Str), vs = [kV k, .ref t] ∧ TaleAt H t v s st most e ∧ NumsIn ns st.kvs ∧ Q (.int (st.val k)) H
theorem ok_val_of (T : Txt K mg) : CallOk P w K mg base 1 "_law_value_of" ["_law_thing", "_law_tale_here"] spValOf := by
  refine go_l_value_of T.d_l_value_of (fun vs H Q E h => ?_) ?_
  · obtain ⟨k, t, v, s, st, most, e, ns, rfl, _⟩ := h
    rfl
  intro X e1 e2 e3 e4 e5 C sc hr vs H Q E h
  subst e1 e2 e3 e4 e5
  obtain ⟨k, t, v, s, st, most, e, ns, rfl, A, N, q⟩ := h
  have b1 := T.b_isinstance
  have b2 := T.b_str
  cases k with
  | inl i =>
    show WSs X _ _ [some (.int i), some (.ref t)] H
    refine s_cons ?_
    wtm_at "lm"
    exact q
  | inr x =>
    show WSs X _ _ [some (.str x), some (.ref t)] H
    refine s_cons ?_
    wtm_at "lm"
    refine ⟨t, _, rfl, dg A.ht t_values, ?_⟩
    refine ⟨v, rfl, .inl ⟨_, Rd.of A.hv⟩, ?_⟩
    wtm_at "lm"
    refine ⟨_, DGet.k (k := .inr x) A.hv, ?_⟩
    rw [lookI_val N]
    exact q
/-- _law_step -/
def spStep : Sp := fun vs H Q _ => ∃ (t v s : Addr) (st : Rs) (most : Nat), vs = [.ref t] ∧ TaleAt H t v s st most "done" ∧
  (st.left = 0 → ∀ H', TaleAt H' t v s st most "too long" → ButT t v s H H' → Q (.bl false) H') ∧
  (∀ l, st.left = l + 1 → ∀ H', TaleAt H' t v s { st with left := l } most "done" → ButT t v s H H' → Q (.bl true) H')
theorem ok_step (T : Txt K mg) : CallOk P w K mg base 1 "_law_step" ["_law_tale_here"] spStep := by
  refine go_l_step T.d_l_step (fun vs H Q E h => ?_) ?_
  · obtain ⟨t, v, s, st, most, rfl, _⟩ := h
    rfl
  intro X e1 e2 e3 e4 e5 C sc hr vs H Q E h
  subst e1 e2 e3 e4 e5
  obtain ⟨t, v, s, st, most, rfl, A, q0, q1⟩ := h
  have hu := hu_of hr
  have hle := A.le
  have hst := A.st
  show WSs X _ _ [some (.ref t)] H
  refine s_cons ?_
  wtm_at "lm"
  refine ⟨t, _, rfl, dg A.ht t_steps, ?_⟩
  wtm_at "lm"
  refine ⟨t, _, rfl, dg A.ht t_most, ?_⟩
  wtm_at "lm"
  refine ite_dec (fun c => ?_) (fun c => ?_)
  · wtm_at "lm"
    refine p_dS hu A.ht (szl (by show 5 < _; decide)) ?_
    rw [put_ending]
    wtm_at "lm"
    refine q0 (by omega) _ ⟨upd_same, by rw [upd_ne A.ne]; exact A.hv, by rw [upd_ne hst.1]; exact A.hs, A.ne, A.le⟩ ButT.t
  · wtm_at "lm"
    refine ⟨t, _, rfl, dg A.ht t_steps, ?_⟩
    wtm_at "lm"
    refine p_dS hu A.ht (szl (by show 5 < _; decide)) ?_
    rw [put_steps]
    wtm_at "lm"
    obtain ⟨l, el⟩ : ∃ l, st.left = l + 1 := ⟨st.left - 1, by omega⟩
    refine q1 l el _ ⟨by rw [upd_same, show (most : Int) - st.left + 1 = (most : Int) - l by omega], by rw [upd_ne A.ne]; exact A.hv, by rw [upd_ne hst.1]; exact A.hs, A.ne, by show l ≤ most; omega⟩ ButT.t
/-- _law_let_done -/
def spLetDone : Sp := fun vs H Q _ => ∃ (t v s r : Addr) (st : Rs) (most : Nat) (ns : List Str) (to : Str) (sg : Sg) (x y : Key), vs = [.ref r, .ref t] ∧ H r = some (.tup [.str "let", .str to, .str sg.nm, kV x, kV y]) ∧ TaleAt H t v s st most "done" ∧ NumsIn ns st.kvs ∧ ns.length ≤ 100000 ∧ to ∈ ns ∧ KeyOk ns x ∧ KeyOk ns y ∧
  ∀ H', TaleAt H' t v s (letEv to sg x y st).1 most (letEv to sg x y st).2.nm → ButT t v s H H' → Q (.bl (decide ((letEv to sg x y st).2 = .done))) H'
theorem ok_let_done (T : Txt K mg) : CallOk P w K mg base 2 "_law_let_done" ["_law_row", "_law_tale_here"] spLetDone := by
  have G1 : CallOk P w K mg base 1 "_law_value_of" ["_law_thing", "_law_tale_here"] spValOf := ok_val_of T
  refine go_l_let_done T.d_l_let_done (fun vs H Q E h => ?_) ?_
  · obtain ⟨t, v, s, r, st, most, ns, to, sg, x, y, rfl, _⟩ := h
    rfl
  intro X e1 e2 e3 e4 e5 C sc hr vs H Q E h
  subst e1 e2 e3 e4 e5
  obtain ⟨t, v, s, r, st, most, ns, to, sg, x, y, rfl, ht, A, N, hn, hto, hx, hy, q⟩ := h
  have hu := hu_of hr
  have hst := A.st
  have rx := val_rng N hx
  have ry := val_rng N hy
  have b1 := T.b_int
  show WSs X _ _ [some (.ref r), some (.ref t), none, none, none] H
  refine s_cons ?_
  wtm_at "lm"
  refine ⟨x, t, v, s, st, most, _, ns, rfl, A, N, ?_⟩
  wtm_at "lm"
  refine ⟨y, t, v, s, st, most, _, ns, rfl, A, N, ?_⟩
  have key : ∀ c, came sg (st.val x) (st.val y) = c → ¬ (sg = .div ∧ st.val y = 0) → ∀ H', H' = upd H v (.dK (putK st.kvs (.inr to) (.int c))) → Q (.bl true) H' := fun c ec no H' eH => by
    have e : letEv to sg x y st = ({ st with kvs := putK st.kvs (.inr to) (.int c) }, .done) := by unfold letEv; rw [if_neg no, ec]
    have := q H'
    rw [e] at this
    refine this ⟨?_, ?_, ?_, A.ne, A.le⟩ ?_
    · rw [eH, upd_ne A.ne.symm]; exact A.ht
    · rw [eH, upd_same]
    · rw [eH, upd_ne hst.2]; exact A.hs
    · rw [eH]; exact ButT.v
  have kl := N.len
  cases sg with
  | add =>
    replace ht : H r = some (.tup [.str "let", .str to, .str "+", kV x, kV y]) := ht
    wtm_at "lm"
    refine ⟨t, _, rfl, dg A.ht t_values, ?_⟩
    wtm_at "lm"
    refine p_dS hu A.hv (szl (by omega)) ?_
    wtm_at "lm"
    exact key _ rfl (fun z => nomatch z.1) _ rfl
  | sub =>
    replace ht : H r = some (.tup [.str "let", .str to, .str "-", kV x, kV y]) := ht
    wtm_at "lm"
    refine ⟨t, _, rfl, dg A.ht t_values, ?_⟩
    wtm_at "lm"
    refine p_dS hu A.hv (szl (by omega)) ?_
    wtm_at "lm"
    exact key _ rfl (fun z => nomatch z.1) _ rfl
  | mul =>
    replace ht : H r = some (.tup [.str "let", .str to, .str "*", kV x, kV y]) := ht
    wtm_at "lm"
    refine b_mul (.inl ⟨by omega, by omega⟩) ?_
    wtm_at "lm"
    refine ⟨t, _, rfl, dg A.ht t_values, ?_⟩
    wtm_at "lm"
    refine p_dS hu A.hv (szl (by omega)) ?_
    wtm_at "lm"
    exact key _ rfl (fun z => nomatch z.1) _ rfl
  | lss =>
    replace ht : H r = some (.tup [.str "let", .str to, .str "<", kV x, kV y]) := ht
    wtm_at "lm"
    refine ⟨t, _, rfl, dg A.ht t_values, ?_⟩
    wtm_at "lm"
    refine p_dS hu A.hv (szl (by omega)) ?_
    wtm_at "lm"
    refine key _ ?_ (fun z => nomatch z.1) _ rfl
    show (if st.val x < st.val y then (1 : Int) else 0) = if decide (st.val x < st.val y) = true then 1 else 0
    by_cases c : st.val x < st.val y
    · rw [if_pos c, decide_eq_true c]; rfl
    · rw [if_neg c, decide_eq_false c]; rfl
  | div =>
    replace ht : H r = some (.tup [.str "let", .str to, .str "/", kV x, kV y]) := ht
    wtm_at "lm"
    refine ite_dec (fun c => ?_) (fun c => ?_)
    · wtm_at "lm"
      refine p_dS hu A.ht (szl (by show 5 < _; decide)) ?_
      rw [put_ending]
      wtm_at "lm"
      have e : letEv to .div x y st = (st, .nought) := by unfold letEv; rw [if_pos ⟨rfl, c⟩]
      have := q (upd H t (.dK (taleKV v s ((most : Int) - st.left) most "by nought")))
      rw [e] at this
      exact this ⟨upd_same, by rw [upd_ne A.ne]; exact A.hv, by rw [upd_ne hst.1]; exact A.hs, A.ne, A.le⟩ ButT.t
    · wtm_at "lm"
      refine b_div ⟨by omega, by omega⟩ ?_
      wtm_at "lm"
      refine ⟨t, _, rfl, dg A.ht t_values, ?_⟩
      wtm_at "lm"
      refine p_dS hu A.hv (szl (by omega)) ?_
      wtm_at "lm"
      exact key _ rfl (fun z => c z.2) _ rfl
end
/-- how many steps are left, read off the tale -/
def leftAt (most : Nat) (t : Addr) (H : Hp) : Nat := match H t with
  | some (.dK kvs) => match valV kvs (.inr "steps") with
    | some (.int n) => ((most : Int) - n).toNat
    | _ => 0
  | _ => 0
theorem TaleAt.left {H : Hp} {t v s : Addr} {st : Rs} {most : Nat} {e : Str} (T : TaleAt H t v s st most e) : leftAt most t H = st.left := by
  unfold leftAt
  rw [T.ht]
  simp only [t_steps]
  omega
section
variable {P : Program} {w : World} {K : PySem.W.Frag} {mg : Str → Option Value} {base : Heap}
def spRowDone (n : Nat) : Sp := fun vs H Q _ => ∃ (u : V) (t v s : Addr) (st : Rs) (most : Nat) (ns : List Str) (r : Row) (f : List Addr), vs = [u, .ref t] ∧ RowIn H u r f ∧ r.dep ≤ n ∧ RowOk ns r ∧ ns.length ≤ 1000 ∧ TaleAt H t v s st most "done" ∧ StOk ns 200000 st ∧ s ∉ f ∧
  ∀ H', TaleAt H' t v s (r.ev st).1 most (r.ev st).2.nm → ButT t v s H H' → Q (.bl (decide ((r.ev st).2 = .done))) H'
def spDone (n : Nat) : Sp := fun vs H Q _ => ∃ (a t v s : Addr) (st : Rs) (most : Nat) (ns : List Str) (rs : List Row) (f : List Addr), vs = [.ref a, .ref t] ∧ RowsIn H a rs f ∧ deps rs ≤ n ∧ RowsOk ns rs ∧ ns.length ≤ 1000 ∧ TaleAt H t v s st most "done" ∧ StOk ns 200000 st ∧ s ∉ f ∧
  ∀ H', TaleAt H' t v s (evs rs st).1 most (evs rs st).2.nm → ButT t v s H H' → Q (.bl (decide ((evs rs st).2 = .done))) H'
theorem ok_row_done (T : Txt K mg) (n : Nat) (hm : ∀ k < n, CallOk P w K mg base (2 * k + 5) "_law_done" ["_law_rows", "_law_tale_here"] (spDone k)) : CallOk P w K mg base (2 * n + 3 + 1) "_law_row_done" ["_law_row", "_law_tale_here"] (spRowDone n) := by
  have G1 : CallOk P w K mg base 1 "_law_value_of" ["_law_thing", "_law_tale_here"] spValOf := ok_val_of T
  have G2 : CallOk P w K mg base 1 "_law_step" ["_law_tale_here"] spStep := ok_step T
  have G3 : CallOk P w K mg base 2 "_law_let_done" ["_law_row", "_law_tale_here"] spLetDone := ok_let_done T
  refine go_l_row_done T.d_l_row_done (fun vs H Q E h => ?_) ?_
  · obtain ⟨u, t, v, s, st, most, ns, r, f, rfl, _⟩ := h
    rfl
  intro X e1 e2 e3 e4 e5 C sc hr vs H Q E h
  subst e1 e2 e3 e4 e5
  obtain ⟨u, t, v, s, st, most, ns, r, f, rfl, hR, hd, ok, hn, A, O, hsf, q⟩ := h
  show WSs X _ _ [some u, some (.ref t)] H
  refine s_cons ?_
  cases hR with
  | @lt a to sg x y ha =>
    wtm_at "lm"
    refine ⟨t, v, s, st, most, rfl, A, fun h0 H1 A1 k1 => ?_, fun l hl H1 A1 k1 => ?_⟩
    · wtm_at "lm"
      have := q H1
      rw [ev_lt0 h0] at this
      exact this A1 k1
    · have ha1 := k1 _ _ (ne_of ha A.ht fun z => nomatch z) (ne_of ha A.hv fun z => nomatch z) (ne_of ha A.hs fun z => nomatch z) ha
      have ok' := ok
      rw [RowOk] at ok'
      wtm_at "lm"
      refine ⟨t, v, s, a, { st with left := l }, most, ns, to, sg, x, y, rfl, ha1, A1, O.nums, by omega, ok'.1, ok'.2.1, ok'.2.2, fun H2 A2 k2 => ?_⟩
      rw [← ev_lt1 hl] at A2 ⊢
      exact q H2 A2 (k1.trans k2)
  | @say a x ha =>
    rw [RowOk] at ok
    wtm_at "lm"
    refine ⟨t, v, s, st, most, rfl, A, fun h0 H1 A1 k1 => ?_, fun l hl H1 A1 k1 => ?_⟩
    · wtm_at "lm"
      have := q H1
      rw [ev_say0 h0] at this
      exact this A1 k1
    · have ha1 := k1 _ _ (ne_of ha A.ht fun z => nomatch z) (ne_of ha A.hv fun z => nomatch z) (ne_of ha A.hs fun z => nomatch z) ha
      have sl := O.said
      wtm_at "lm"
      refine ⟨t, _, rfl, dg A1.ht t_said, ?_⟩
      refine ⟨s, _, rfl, SqL.of A1.hs, ?_⟩
      wtm_at "lm"
      refine ⟨x, t, v, s, _, most, _, ns, rfl, A1, O.nums, ?_⟩
      refine x_app A1.hs (by rw [List.length_map]; show st.said.length < _; omega) ?_
      wtm_at "lm"
      have := q (upd H1 s (.lst (st.said.map V.int ++ [.int (st.val x)])))
      rw [ev_say1 hl] at this
      refine this ⟨by rw [upd_ne A.st.1.symm]; exact A1.ht, by rw [upd_ne A.st.2.symm]; exact A1.hv, by rw [upd_same, List.map_append]; rfl, A.ne, A1.le⟩ (k1.trans ButT.s)
  | @blk a c kd test rs g ha hb =>
    rw [Row.dep] at hd
    have ok' := ok
    rw [RowOk] at ok'
    obtain ⟨k, rfl⟩ : ∃ k, n = k + 1 := ⟨n - 1, by omega⟩
    have G4 := hm k (Nat.lt_succ_self k)
    have na : a ≠ t ∧ a ≠ v ∧ a ≠ s := ⟨ne_of ha A.ht (fun z => nomatch z), ne_of ha A.hv (fun z => nomatch z), ne_of ha A.hs (fun z => nomatch z)⟩
    have at1 := hb.at
    cases kd with
    | whn =>
      replace ha : H a = some (.tup [.str "when", .str test, .ref c]) := ha
      wtm_at "lm"
      refine s_while C (fun σ' H' => σ' = [some (.ref a), some (.ref t)] ∧ H' = H) (fun _ _ => 0) ⟨rfl, rfl⟩ ?_
      rintro σ' H' ⟨rfl, rfl⟩
      wtm_at "lm"
      refine ⟨t, v, s, st, most, rfl, A, fun h0 H1 A1 k1 => ?_, fun l hl H1 A1 k1 => ?_⟩
      · wtm_at "lm"
        have := q H1
        rw [ev_whn0 h0] at this
        exact this A1 k1
      · have ha1 := k1 _ _ na.1 na.2.1 na.2.2 ha
        wtm_at "lm"
        refine ⟨.inr test, t, v, s, _, most, _, ns, rfl, A1, O.nums, ?_⟩
        wtm_at "lm"
        refine ite_dec (fun c0 => ?_) (fun c0 => ?_)
        · wtm_at "lm"
          replace c0 : lookI st.kvs test = 0 := c0
          have := q H1
          rw [ev_whn1 hl, if_pos c0] at this
          exact this A1 k1
        · wtm_at "lm"
          refine ⟨c, t, v, s, _, most, ns, rs, _, rfl, hb.keep (A.kept k1 at1 hsf), by omega, ok'.2, hn, A1, O.one hl, hsf, fun H2 A2 k2 => ?_⟩
          have ha2 := k2 _ _ na.1 na.2.1 na.2.2 ha1
          replace c0 : ¬ lookI st.kvs test = 0 := c0
          have := q H2
          rw [ev_whn1 hl, if_neg c0] at this
          wtm_at "lm"
          refine ite_ndec (fun c1 => ?_) (fun c1 => ?_)
          · wtm_at "lm"
            rw [decide_eq_false c1] at this
            exact this A2 (k1.trans k2)
          · wtm_at "lm"
            rw [decide_eq_true c1] at this
            exact this A2 (k1.trans k2)
    | lop =>
      replace ha : H a = some (.tup [.str "loop", .str test, .ref c]) := ha
      wtm_at "lm"
      refine s_while C (fun σ' H' => σ' = [some (.ref a), some (.ref t)] ∧ ∃ st', TaleAt H' t v s st' most "done" ∧ StOk ns 200000 st' ∧ ButT t v s H H' ∧ lp (evs rs) test st' = (Row.blk .lop test rs).ev st) (fun _ H' => leftAt most t H') ⟨rfl, st, A, O, ButT.refl, ev_lop.symm⟩ ?_
      rintro σ' H' ⟨rfl, st', A', O', k', e'⟩
      have ha' := k' _ _ na.1 na.2.1 na.2.2 ha
      wtm_at "lm"
      refine ⟨t, v, s, st', most, rfl, A', fun h0 H1 A1 k1 => ?_, fun l hl H1 A1 k1 => ?_⟩
      · wtm_at "lm"
        have := q H1
        rw [← e', lp_zero h0] at this
        exact this A1 (k'.trans k1)
      · have ha1 := k1 _ _ na.1 na.2.1 na.2.2 ha'
        have kk := k'.trans k1
        wtm_at "lm"
        refine ⟨.inr test, t, v, s, _, most, _, ns, rfl, A1, O'.nums, ?_⟩
        wtm_at "lm"
        refine ite_dec (fun c0 => ?_) (fun c0 => ?_)
        · wtm_at "lm"
          have := q H1
          rw [← e', lp_out hl c0] at this
          exact this A1 kk
        · wtm_at "lm"
          refine ⟨c, t, v, s, _, most, ns, rs, _, rfl, hb.keep (A.kept kk at1 hsf), by omega, ok'.2, hn, A1, O'.one hl, hsf, fun H2 A2 k2 => ?_⟩
          have ha2 := k2 _ _ na.1 na.2.1 na.2.2 ha1
          wtm_at "lm"
          refine ite_ndec (fun c1 => ?_) (fun c1 => ?_)
          · wtm_at "lm"
            have := q H2
            rw [← e', lp_end (st2 := (evs rs { st' with left := l }).1) (o := (evs rs { st' with left := l }).2) hl c0 rfl c1, decide_eq_false c1] at this
            exact this A2 (kk.trans k2)
          · have e2 : evs rs { st' with left := l } = ((evs rs { st' with left := l }).1, .done) := Prod.ext rfl c1
            have lf := evs_left rs { st' with left := l }
            rw [c1] at A2
            wtm_at "lm"
            refine ⟨⟨rfl, _, A2, (O'.one hl).rows ok'.2, kk.trans k2, by rw [← e', lp_in (evs_left rs) hl c0 e2]⟩, ?_⟩
            rw [A2.left, A'.left]
            have : (evs rs { st' with left := l }).1.left ≤ l := lf
            omega
    | agn =>
      replace ha : H a = some (.tup [.str "again", .str test, .ref c]) := ha
      wtm_at "lm"
      refine ⟨c, t, v, s, st, most, ns, rs, _, rfl, hb, by omega, ok'.2, hn, A, O, hsf, fun H0 A0 k0 => ?_⟩
      have ha0 := k0 _ _ na.1 na.2.1 na.2.2 ha
      wtm_at "lm"
      refine ite_ndec (fun c1 => ?_) (fun c1 => ?_)
      · wtm_at "lm"
        have := q H0
        rw [ev_agn' (st1 := (evs rs st).1) (o := (evs rs st).2) rfl c1, decide_eq_false c1] at this
        exact this A0 k0
      have e0 : evs rs st = ((evs rs st).1, .done) := Prod.ext rfl c1
      rw [c1] at A0
      wtm_at "lm"
      refine s_while C (fun σ' H' => σ' = [some (.ref a), some (.ref t)] ∧ ∃ st', TaleAt H' t v s st' most "done" ∧ StOk ns 200000 st' ∧ ButT t v s H H' ∧ lp (evs rs) test st' = (Row.blk .agn test rs).ev st) (fun _ H' => leftAt most t H') ⟨rfl, _, A0, O.rows ok'.2, k0, (ev_agn e0).symm⟩ ?_
      rintro σ' H' ⟨rfl, st', A', O', k', e'⟩
      have ha' := k' _ _ na.1 na.2.1 na.2.2 ha
      wtm_at "lm"
      refine ⟨t, v, s, st', most, rfl, A', fun h0 H1 A1 k1 => ?_, fun l hl H1 A1 k1 => ?_⟩
      · wtm_at "lm"
        have := q H1
        rw [← e', lp_zero h0] at this
        exact this A1 (k'.trans k1)
      · have ha1 := k1 _ _ na.1 na.2.1 na.2.2 ha'
        have kk := k'.trans k1
        wtm_at "lm"
        refine ⟨.inr test, t, v, s, _, most, _, ns, rfl, A1, O'.nums, ?_⟩
        wtm_at "lm"
        refine ite_dec (fun c0 => ?_) (fun c0 => ?_)
        · wtm_at "lm"
          have := q H1
          rw [← e', lp_out hl c0] at this
          exact this A1 kk
        · wtm_at "lm"
          refine ⟨c, t, v, s, _, most, ns, rs, _, rfl, hb.keep (A.kept kk at1 hsf), by omega, ok'.2, hn, A1, O'.one hl, hsf, fun H2 A2 k2 => ?_⟩
          have ha2 := k2 _ _ na.1 na.2.1 na.2.2 ha1
          wtm_at "lm"
          refine ite_ndec (fun c1 => ?_) (fun c1 => ?_)
          · wtm_at "lm"
            have := q H2
            rw [← e', lp_end (st2 := (evs rs { st' with left := l }).1) (o := (evs rs { st' with left := l }).2) hl c0 rfl c1, decide_eq_false c1] at this
            exact this A2 (kk.trans k2)
          · have e2 : evs rs { st' with left := l } = ((evs rs { st' with left := l }).1, .done) := Prod.ext rfl c1
            have lf := evs_left rs { st' with left := l }
            rw [c1] at A2
            wtm_at "lm"
            refine ⟨⟨rfl, _, A2, (O'.one hl).rows ok'.2, kk.trans k2, by rw [← e', lp_in (evs_left rs) hl c0 e2]⟩, ?_⟩
            rw [A2.left, A'.left]
            have : (evs rs { st' with left := l }).1.left ≤ l := lf
            omega
theorem ok_done (T : Txt K mg) (n : Nat) : CallOk P w K mg base (2 * n + 5) "_law_done" ["_law_rows", "_law_tale_here"] (spDone n) := by
  induction n using Nat.strongRecOn with
  | ind n ih =>
    have G1 : CallOk P w K mg base (2 * n + 3 + 1) "_law_row_done" ["_law_row", "_law_tale_here"] (spRowDone n) := ok_row_done T n ih
    refine go_l_done (k := 2 * n + 4) T.d_l_done (fun vs H Q E h => ?_) ?_
    · obtain ⟨a, t, v, s, st, most, ns, rs, f, rfl, _⟩ := h
      rfl
    intro X e1 e2 e3 e4 e5 C sc hr vs H Q E h
    subst e1 e2 e3 e4 e5
    obtain ⟨a, t, v, s, st, most, ns, rs, f, rfl, hR, hd, ok, hn, A, O, hsf, q⟩ := h
    show WSs X _ _ [some (.ref a), some (.ref t), none] H
    have at1 := hR.at
    cases hR with
    | @mk _ vs _ fp h ha =>
    have vl := ha.len
    refine s_cons ?_
    wtm_at "lm"
    refine wi_list ?_
    wtm_at "lm"
    have keepA : ∀ H', ButT t v s H H' → H' a = some (.lst vs) := fun H' k => k _ _ (ne_of h A.ht fun z => nomatch z) (ne_of h A.hv fun z => nomatch z) (fun z => hsf (z ▸ List.mem_cons_self)) h
    refine for_l (fun i σ' H' => i ≤ vs.length ∧ ∃ (o : Option V) (st' : Rs), σ' = [some (.ref a), some (.ref t), o] ∧ TaleAt H' t v s st' most "done" ∧ StOk ns 200000 st' ∧ ButT t v s H H' ∧ evs (rs.drop i) st' = evs rs st) ⟨Nat.zero_le _, none, st, rfl, A, O, ButT.refl, rfl⟩ (fun i σ' H' _ ⟨_, _, _, _, _, _, k, _⟩ => SqL.of (keepA H' k)) ?_ ?_
    · rintro i u σ' H' hi ⟨_, o, st', rfl, A', O', k', e'⟩
      refine ⟨_, by wtm_at "lm.put", ?_⟩
      obtain ⟨r, g, hr1, hr2, hg⟩ := ha.get hi
      have hil : i < vs.length := (List.getElem?_eq_some_iff.mp hi).1
      have mem := List.mem_of_getElem? hr1
      have d1 := deps_mem mem
      have ed : rs.drop i = r :: rs.drop (i + 1) := by
        have := List.drop_eq_getElem_cons (show i < rs.length by omega)
        rw [List.getElem?_eq_getElem (show i < rs.length by omega)] at hr1
        rw [this, Option.some.inj hr1]
      rw [ed] at e'
      have sg : s ∉ g := fun z => hsf (List.mem_cons_of_mem _ (hg s z))
      refine s_one ?_
      wtm_at "lm"
      refine ⟨u, t, v, s, st', most, ns, r, g, rfl, hr2.keep (A.kept k' (fun l hl => at1 l (List.mem_cons_of_mem _ (hg l hl))) sg), by omega, RowsOk_mem ok mem, hn, A', O', sg, fun H2 A2 k2 => ?_⟩
      wtm_at "lm"
      refine ite_ndec (fun c1 => ?_) (fun c1 => ?_)
      · wtm_at "lm"
        have := q H2
        rw [← e', evs_end (st1 := (r.ev st').1) (o := (r.ev st').2) rfl c1, decide_eq_false c1] at this
        exact this A2 (k'.trans k2)
      · have e2 : r.ev st' = ((r.ev st').1, .done) := Prod.ext rfl c1
        rw [c1] at A2
        wtm_at "lm"
        exact ⟨hil, _, _, rfl, A2, O'.row (RowsOk_mem ok mem), k'.trans k2, by rw [← e', evs_done e2]⟩
    · rintro σ' H' ⟨_, o, st', rfl, A', O', k', e'⟩
      rw [List.drop_of_length_le (by omega), evs_nil] at e'
      wtm_at "lm"
      have := q H'
      rw [← e'] at this
      exact this A' k'
end
/-! ### displays of dicts -/
def WD (X : Cx) : List (Option Expr) → List Expr → L2.St → Hp → (List (V × V) → Hp → Prop) → Prop
  | some k :: ks, v :: vs, σ, H, Q => WE X k σ H fun x H1 => WE X v σ H1 fun y H2 => WD X ks vs σ H2 fun ps H3 => Q ((x, y) :: ps) H3
  | [], [], _, H, Q => Q [] H
  | _, _, _, _, _ => False
theorem wd_cons {X : Cx} {k v : Expr} {ks : List (Option Expr)} {vs : List Expr} {σ : L2.St} {H : Hp} {Q : List (V × V) → Hp → Prop} (h : WE X k σ H fun x H1 => WE X v σ H1 fun y H2 => WD X ks vs σ H2 fun ps H3 => Q ((x, y) :: ps) H3) : WD X (some k :: ks) (v :: vs) σ H Q := h
theorem wd_nil {X : Cx} {σ : L2.St} {H : Hp} {Q : List (V × V) → Hp → Prop} (h : Q [] H) : WD X [] [] σ H Q := h
theorem wd_trs {X : Cx} {pos : Pos} : ∀ {ks : List (Option Expr)} {vs : List Expr}, ks.all (·.isSome) = true → ks.length = vs.length → ∃ trs, PPs X pos ks vs trs ∧ ∀ σ H Q, WD X ks vs σ H Q → tPairs trs σ H Q
  | [], [], _, _ => ⟨[], pps_nil, fun _ _ _ h => h⟩
  | some k :: ks, v :: vs, h, hl => by
    obtain ⟨trs, p, q⟩ := wd_trs (X := X) (pos := pos) (ks := ks) (vs := vs) (by simpa using h) (by simpa using hl)
    refine ⟨(WE X k, WE X v) :: trs, pps_cons (pe X k) (pe X v) p, fun σ H Q h => ?_⟩
    exact WE.mono (show WE X k σ H _ from h) fun x H1 h1 => WE.mono h1 fun y H2 h2 => q σ H2 _ h2
  | none :: ks, _, h, _ => by simp at h
  | [], _ :: _, _, hl => by simp at hl
  | _ :: _, [], _, hl => by simp at hl
theorem w_disp {X : Cx} {pos : Pos} {ks : List (Option Expr)} {vs : List Expr} {σ : L2.St} {H : Hp} {Q : VK} (hall : ks.all (·.isSome) = true) (hl : ks.length = vs.length) (h0 : ks ≠ []) (h15 : ks.length ≤ 15)
    (h : ∀ p, H p = none → WD X ks vs σ (upd H p (.dK [])) fun ps H2 => H2 p = some (.dK []) ∧ ∃ kvs : List (Key × V), ps = kvs.map (fun kv => (kV kv.1, kv.2)) ∧ kvs.length ≤ 15 ∧ Q (.ref p) (upd H2 p (.dK (mergeK [] kvs)))) : WE X (.Dict ks vs pos) σ H Q := by
  obtain ⟨trs, p, q⟩ := wd_trs (X := X) (pos := pos) hall hl
  exact .of (pe_disp p hall hl h0 h15) fun a ha => q _ _ _ (h a ha)
/-! ### _law_tale -/
theorem merge_tale {v s : Addr} {n m : Int} {e : Str} : mergeK [] (taleKV v s n m e) = taleKV v s n m e := by
  have n1 : ∀ {a b : Str}, decide (a = b) = false → (decide ((Sum.inr a : Key) = .inr b)) = false := fun h => decide_eq_false (key_ne h)
  unfold mergeK taleKV
  simp only [List.foldl_cons, List.foldl_nil, putK, List.any_nil, List.any_cons, Bool.false_eq_true, if_false, List.nil_append, List.cons_append,
    n1 (a := "values") (b := "said") (by decide +kernel), n1 (a := "values") (b := "steps") (by decide +kernel), n1 (a := "values") (b := "most") (by decide +kernel), n1 (a := "values") (b := "ending") (by decide +kernel),
    n1 (a := "said") (b := "steps") (by decide +kernel), n1 (a := "said") (b := "most") (by decide +kernel), n1 (a := "said") (b := "ending") (by decide +kernel),
    n1 (a := "steps") (b := "most") (by decide +kernel), n1 (a := "steps") (b := "ending") (by decide +kernel), n1 (a := "most") (b := "ending") (by decide +kernel), Bool.or_false]
section
variable {P : Program} {w : World} {K : PySem.W.Frag} {mg : Str → Option Value} {base : Heap}
/-- _law_tale: the run from the values at g, with m steps -/
def spTale (n : Nat) : Sp := fun vs H Q _ => ∃ (a g : Addr) (m : Nat) (ns : List Str) (rs : List Row) (f : List Addr) (kvs : List (Key × V)), vs = [.ref a, .ref g, .int m] ∧ RowsIn H a rs f ∧ deps rs ≤ n ∧ RowsOk ns rs ∧ ns.length ≤ 1000 ∧ H g = some (.dK kvs) ∧ NumsIn ns kvs ∧ m ≤ 150000 ∧
  ∀ (t v s : Addr) (H' : Hp), Same H H' → H t = none → TaleAt H' t v s (evs rs ⟨kvs, [], m⟩).1 m (evs rs ⟨kvs, [], m⟩).2.nm → Q (.ref t) H'
theorem ok_tale (T : Txt K mg) (n : Nat) : CallOk P w K mg base (2 * n + 6) "_law_tale" ["_law_rows", "_law_given_here", "_law_most"] (spTale n) := by
  have G1 : CallOk P w K mg base (2 * n + 5) "_law_done" ["_law_rows", "_law_tale_here"] (spDone n) := ok_done T n
  refine go_l_tale (k := 2 * n + 5) T.d_l_tale (fun vs H Q E h => ?_) ?_
  · obtain ⟨a, g, m, ns, rs, f, kvs, rfl, _⟩ := h
    rfl
  intro X e1 e2 e3 e4 e5 C sc hr vs H Q E h
  subst e1 e2 e3 e4 e5
  obtain ⟨a, g, m, ns, rs, f, kvs, rfl, hR, hd, ok, hn, hg, N, hm, q⟩ := h
  have b1 := T.b_dict
  show WSs X _ _ [some (.ref a), some (.ref g), some (.int m), none] H
  refine s_cons ?_
  wtm_at "lm"
  refine w_disp (by rfl) (by rfl) (by simp) (by show 5 ≤ 15; decide) fun t ht => ?_
  have s0 : Same H (upd H t (.dK [])) := same_new ht
  have hg0 := s0 _ _ hg
  have nt : ∀ {H' : Hp}, Same (upd H t (.dK [])) H' → H' t = some (.dK []) := fun s => s _ _ upd_same
  refine wd_cons ?_
  wtm_at "lm"
  refine k_dict (Rd.of hg0) fun v H1 hv1 s1 h1 => ?_
  refine wd_cons ?_
  wtm_at "lm"
  intro s H2 hs2 s2 h2
  refine wd_cons ?_
  wtm_at "lm"
  refine wd_cons ?_
  wtm_at "lm"
  refine wd_cons ?_
  wtm_at "lm"
  refine wd_nil ?_
  have s12 := s1.trans s2
  refine ⟨nt s12, taleKV v s 0 m "done", rfl, by show 5 ≤ 15; decide, ?_⟩
  rw [merge_tale]
  have vt : v ≠ t := fun e => by rw [e, upd_same] at hv1; cases hv1
  have st : s ≠ t := fun e => by rw [e, nt s1] at hs2; cases hs2
  have sm : Same H (upd H2 t (.dK (taleKV v s 0 m "done"))) := Same.mut (s0.trans s12) ht
  have A : TaleAt (upd H2 t (.dK (taleKV v s 0 m "done"))) t v s ⟨kvs, [], m⟩ m "done" := ⟨by rw [upd_same]; show some (HO.dK (taleKV v s 0 m "done")) = some (HO.dK (taleKV v s ((m : Int) - m) m "done")); rw [Int.sub_self], by rw [upd_ne vt]; exact s2 _ _ h1, by rw [upd_ne st]; exact h2, vt, Nat.le_refl _⟩
  have hsf : s ∉ f := fun z => by
    obtain ⟨xs, e⟩ := hR.at s z
    have := s1 _ _ (s0 _ _ e)
    rw [hs2] at this
    cases this
  wtm_at "lm"
  refine ⟨a, t, v, s, ⟨kvs, [], m⟩, m, ns, rs, f, rfl, hR.mono sm, hd, ok, hn, A, ⟨N, by show 0 + m ≤ 200000; omega⟩, hsf, fun H3 A3 k3 => ?_⟩
  wtm_at "lm"
  refine q t v s H3 (fun l o e => ?_) ht A3
  refine k3 l o (ne_of_none e ht) (fun z => ?_) (fun z => ?_) (sm l o e)
  · have := s0 _ _ e
    rw [z, hv1] at this
    cases this
  · have := s1 _ _ (s0 _ _ e)
    rw [z, hs2] at this
    cases this
end
/-! ### == of dicts of numbers -/
section
variable {X : Cx} {H : Hp} {Q : VK}
theorem hits_of {A : Around} {s : Shared} {lvs : List (Key × V)} {kb : List (Key × Value)} (r2 : KV lvs kb) : ∀ {kvs : List (Key × V)} {ka : List (Key × Value)}, KV kvs ka → (∀ kv ∈ kvs, flatV kv.2 = true ∧ ∃ u, valV lvs kv.1 = some u ∧ flatV u = true ∧ eqV kv.2 u = true) → PySem.W.KeqHits A s kb ka true := by
  intro kvs ka r
  unfold KV at r
  induction r with
  | nil => intro _; exact .nil
  | @cons p q ps qs h t ih =>
    intro hh
    obtain ⟨f1, u, e1, f2, e2⟩ := hh p List.mem_cons_self
    have rv := r2.val p.1
    rw [e1] at rv
    obtain ⟨y, hy, ry⟩ := RelO.some_of rv
    have he := eqAt_V (A := A) (s := s) h.2 ry f1 f2
    rw [e2] at he
    obtain ⟨k, v⟩ := q
    have hk : p.1 = k := h.1
    rw [hk] at hy
    exact .hit (e := true) (b := true) hy he (ih fun kv hkv => hh kv (List.mem_cons_of_mem _ hkv))
def rEqKs : R2 := fun x y H Q => ∃ (a b : Addr) (kvs lvs : List (Key × V)), x = .ref a ∧ y = .ref b ∧ H a = some (.dK kvs) ∧ H b = some (.dK lvs) ∧ (∀ kv ∈ kvs, flatV kv.2 = true ∧ ∃ u, valV lvs kv.1 = some u ∧ flatV u = true ∧ eqV kv.2 u = true) ∧ kvs.length = lvs.length ∧ Q (.bl true) H
theorem op_eqKs (hu : X.A.units + 1 < cLine) : OpR X (compareOp .Eq) rEqKs := by
  intro pins s σ H x y v u Q I rx ry h
  obtain ⟨a, b, kvs, lvs, rfl, rfl, e1, e2, hh, hl, q⟩ := h
  cases rx
  cases ry
  obtain ⟨_, ha, va, r1, d1⟩ := dk_of I.hok e1
  obtain ⟨_, hb, vb, r2, d2⟩ := dk_of I.hok e2
  refine PySem.W.keq_eq (r := true) ha hb d1 d2 (by omega) (fun _ => hits_of r2 r1 hh) ?_
  have e : (va.length == vb.length && true) = true := by rw [← r1.length, ← r2.length, hl]; simp
  rw [e]
  exact ⟨.bl true, H, I, rfl, q⟩
theorem c_eqKs {a b : Addr} {kvs lvs : List (Key × V)} (hu : X.A.units + 1 < cLine) (h1 : H a = some (.dK kvs)) (h2 : H b = some (.dK lvs)) (hh : ∀ kv ∈ kvs, flatV kv.2 = true ∧ ∃ u, valV lvs kv.1 = some u ∧ flatV u = true ∧ eqV kv.2 u = true) (hl : kvs.length = lvs.length) (q : Q (.bl true) H) : WC X .Eq (.ref a) (.ref b) H Q := ⟨_, op_eqKs hu, a, b, kvs, lvs, rfl, rfl, h1, h2, hh, hl, q⟩
end
/-! ### runs as a relation: said, steps, the values behind, how it ends (true: done, false: by nought) -/
abbrev Env := Str → Option Int
def Env.val (ρ : Env) : Key → Int
  | .inl i => i
  | .inr s => (ρ s).getD 0
def Env.put (ρ : Env) (s : Str) (i : Int) : Env := fun x => if x = s then some i else ρ x
inductive Cmd where
  | row (r : Row)
  | loop (rs : List Row) (t : Str)
  | rows (rs : List Row)
inductive Rn : Cmd → Env → List Int → Nat → Env → Bool → Prop
  | bad {to : Str} {sg : Sg} {x y : Key} {ρ : Env} (h : sg = .div ∧ ρ.val y = 0) : Rn (.row (.lt to sg x y)) ρ [] 1 ρ false
  | lt {to : Str} {sg : Sg} {x y : Key} {ρ : Env} (h : ¬ (sg = .div ∧ ρ.val y = 0)) : Rn (.row (.lt to sg x y)) ρ [] 1 (ρ.put to (came sg (ρ.val x) (ρ.val y))) true
  | say {x : Key} {ρ : Env} : Rn (.row (.say x)) ρ [ρ.val x] 1 ρ true
  | whn0 {t : Str} {rs : List Row} {ρ : Env} (h : ρ.val (.inr t) = 0) : Rn (.row (.blk .whn t rs)) ρ [] 1 ρ true
  | whn1 {t : Str} {rs : List Row} {ρ ρ' : Env} {s : List Int} {n : Nat} {o : Bool} (h : ¬ ρ.val (.inr t) = 0) (r : Rn (.rows rs) ρ s n ρ' o) : Rn (.row (.blk .whn t rs)) ρ s (n + 1) ρ' o
  | lop {t : Str} {rs : List Row} {ρ ρ' : Env} {s : List Int} {n : Nat} {o : Bool} (r : Rn (.loop rs t) ρ s n ρ' o) : Rn (.row (.blk .lop t rs)) ρ s n ρ' o
  | agn0 {t : Str} {rs : List Row} {ρ ρ' : Env} {s : List Int} {n : Nat} (r : Rn (.rows rs) ρ s n ρ' false) : Rn (.row (.blk .agn t rs)) ρ s n ρ' false
  | agn1 {t : Str} {rs : List Row} {ρ ρ1 ρ' : Env} {s s2 : List Int} {n n2 : Nat} {o : Bool} (r : Rn (.rows rs) ρ s n ρ1 true) (l : Rn (.loop rs t) ρ1 s2 n2 ρ' o) : Rn (.row (.blk .agn t rs)) ρ (s ++ s2) (n + n2) ρ' o
  | out {rs : List Row} {t : Str} {ρ : Env} (h : ρ.val (.inr t) = 0) : Rn (.loop rs t) ρ [] 1 ρ true
  | lbad {rs : List Row} {t : Str} {ρ ρ' : Env} {s : List Int} {n : Nat} (h : ¬ ρ.val (.inr t) = 0) (r : Rn (.rows rs) ρ s n ρ' false) : Rn (.loop rs t) ρ s (n + 1) ρ' false
  | more {rs : List Row} {t : Str} {ρ ρ1 ρ' : Env} {s s2 : List Int} {n n2 : Nat} {o : Bool} (h : ¬ ρ.val (.inr t) = 0) (r : Rn (.rows rs) ρ s n ρ1 true) (l : Rn (.loop rs t) ρ1 s2 n2 ρ' o) : Rn (.loop rs t) ρ (s ++ s2) (n + n2 + 1) ρ' o
  | nil {ρ : Env} : Rn (.rows []) ρ [] 0 ρ true
  | rbad {r : Row} {rs : List Row} {ρ ρ' : Env} {s : List Int} {n : Nat} (h : Rn (.row r) ρ s n ρ' false) : Rn (.rows (r :: rs)) ρ s n ρ' false
  | cons {r : Row} {rs : List Row} {ρ ρ1 ρ' : Env} {s s2 : List Int} {n n2 : Nat} {o : Bool} (h : Rn (.row r) ρ s n ρ1 true) (l : Rn (.rows rs) ρ1 s2 n2 ρ' o) : Rn (.rows (r :: rs)) ρ (s ++ s2) (n + n2) ρ' o
abbrev Run1 (r : Row) := Rn (.row r)
abbrev Loop (rs : List Row) (t : Str) := Rn (.loop rs t)
abbrev Run (rs : List Row) := Rn (.rows rs)
def lookO (kvs : List (Key × V)) : Env := fun s => match valV kvs (.inr s) with
  | some (.int i) => some i
  | _ => none
theorem lookI_eq (kvs : List (Key × V)) (t : Str) : lookI kvs t = Env.val (lookO kvs) (.inr t) := by
  show lookI kvs t = (lookO kvs t).getD 0
  unfold lookI lookO
  split <;> simp_all
theorem lookO_put (kvs : List (Key × V)) (to : Str) (i : Int) : lookO (putK kvs (.inr to) (.int i)) = Env.put (lookO kvs) to i := by
  funext x
  unfold lookO Env.put
  rw [valV_put]
  by_cases h : x = to
  · rw [if_pos h, h, if_pos rfl]
  · rw [if_neg h, if_neg (fun e => h (Sum.inr.inj e))]
theorem val_env (st : Rs) (k : Key) : st.val k = Env.val (lookO st.kvs) k := by
  cases k with
  | inl i => rfl
  | inr s => exact lookI_eq st.kvs s
/-- from the steps done here to the relation -/
def Oc.ok : Oc → Bool
  | .done => true
  | .long => false
  | .nought => false
def Sound (f : Rs → Rs × Oc) (R : Env → List Int → Nat → Env → Bool → Prop) : Prop :=
  ∀ st st' o, f st = (st', o) → o ≠ .long → ∃ s n, st.left = st'.left + n ∧ st'.said = st.said ++ s ∧ R (lookO st.kvs) s n (lookO st'.kvs) o.ok
theorem loop_sound {rs : List Row} {t : Str} (hb : Sound (evs rs) (Run rs)) : ∀ n st st' o, loopN (evs rs) t n st = (st', o) → o ≠ .long → ∃ s m, st.left = st'.left + m ∧ st'.said = st.said ++ s ∧ Loop rs t (lookO st.kvs) s m (lookO st'.kvs) o.ok
  | 0, st, st', o, h, ho => by
    rw [loopN] at h
    cases h
    exact absurd rfl ho
  | n + 1, st, st', o, h, ho => by
    rw [loopN] at h
    cases e : st.left with
    | zero =>
      rw [e] at h
      cases h
      exact absurd rfl ho
    | succ l =>
      rw [e] at h
      simp only at h
      split at h
      · rename_i c
        cases h
        exact ⟨[], 1, rfl, (List.append_nil _).symm, .out (by rw [← lookI_eq]; exact c)⟩
      · rename_i c
        cases e2 : evs rs { st with left := l } with
        | mk st2 o2 =>
          rw [e2] at h
          cases o2 with
          | done =>
            obtain ⟨s1, n1, a1, a2, a3⟩ := hb _ _ _ e2 (by decide)
            obtain ⟨s2, n2, b1, b2, b3⟩ := loop_sound hb n st2 st' o h ho
            refine ⟨s1 ++ s2, n1 + n2 + 1, ?_, by rw [b2, a2, List.append_assoc], .more (by rw [← lookI_eq]; exact c) a3 b3⟩
            have : l = st2.left + n1 := a1
            omega
          | long =>
            cases h
            exact absurd rfl ho
          | nought =>
            cases h
            obtain ⟨s1, n1, a1, a2, a3⟩ := hb _ _ _ e2 (by decide)
            refine ⟨s1, n1 + 1, ?_, a2, .lbad (by rw [← lookI_eq]; exact c) a3⟩
            have : l = st'.left + n1 := a1
            omega
mutual
theorem Row.sound : ∀ r : Row, Sound r.ev (Run1 r)
  | .lt to sg x y, st, st', o, h, ho => by
    cases e : st.left with
    | zero => rw [ev_lt0 e] at h; cases h; exact absurd rfl ho
    | succ l =>
      rw [ev_lt1 e] at h
      unfold letEv at h
      split at h
      · rename_i c
        cases h
        refine ⟨[], 1, rfl, (List.append_nil _).symm, .bad ?_⟩
        rw [val_env] at c
        exact c
      · rename_i c
        cases h
        refine ⟨[], 1, rfl, (List.append_nil _).symm, ?_⟩
        rw [val_env] at c
        show Run1 _ _ _ _ (lookO (putK st.kvs (.inr to) (.int (came sg (Rs.val { st with left := l } x) (Rs.val { st with left := l } y))))) true
        rw [lookO_put, val_env, val_env]
        exact .lt c
  | .say x, st, st', o, h, ho => by
    cases e : st.left with
    | zero => rw [ev_say0 e] at h; cases h; exact absurd rfl ho
    | succ l =>
      rw [ev_say1 e] at h
      cases h
      refine ⟨[st.val x], 1, rfl, rfl, ?_⟩
      rw [val_env]
      exact .say
  | .blk kd t rs, st, st', o, h, ho => by
    have ih := rows_sound rs
    cases kd with
    | whn =>
      cases e : st.left with
      | zero => rw [ev_whn0 e] at h; cases h; exact absurd rfl ho
      | succ l =>
        rw [ev_whn1 e] at h
        split at h
        · rename_i c
          cases h
          exact ⟨[], 1, rfl, (List.append_nil _).symm, .whn0 (by rw [← lookI_eq]; exact c)⟩
        · rename_i c
          obtain ⟨s, n, a1, a2, a3⟩ := ih _ _ _ h ho
          refine ⟨s, n + 1, ?_, a2, .whn1 (by rw [← lookI_eq]; exact c) a3⟩
          have : l = st'.left + n := a1
          omega
    | lop =>
      rw [ev_lop] at h
      obtain ⟨s, n, a1, a2, a3⟩ := loop_sound ih _ _ _ _ h ho
      exact ⟨s, n, a1, a2, .lop a3⟩
    | agn =>
      cases e : evs rs st with
      | mk st1 o1 =>
        by_cases h1 : o1 = .done
        · subst h1
          rw [ev_agn e] at h
          obtain ⟨s1, n1, a1, a2, a3⟩ := ih _ _ _ e (by decide)
          obtain ⟨s2, n2, b1, b2, b3⟩ := loop_sound ih _ _ _ _ h ho
          exact ⟨s1 ++ s2, n1 + n2, by omega, by rw [b2, a2, List.append_assoc], .agn1 a3 b3⟩
        · rw [ev_agn' e h1] at h
          cases h
          obtain ⟨s1, n1, a1, a2, a3⟩ := ih _ _ _ e ho
          have ho2 : o = .nought := by cases o <;> first | rfl | exact absurd rfl h1 | exact absurd rfl ho
          subst ho2
          exact ⟨s1, n1, a1, a2, .agn0 a3⟩
theorem rows_sound : ∀ rs : List Row, Sound (evs rs) (Run rs)
  | [], st, st', o, h, ho => by
    rw [evs_nil] at h
    cases h
    exact ⟨[], 0, rfl, (List.append_nil _).symm, .nil⟩
  | r :: rs, st, st', o, h, ho => by
    cases e : r.ev st with
    | mk st1 o1 =>
      by_cases h1 : o1 = .done
      · subst h1
        rw [evs_done e] at h
        obtain ⟨s1, n1, a1, a2, a3⟩ := Row.sound r _ _ _ e (by decide)
        obtain ⟨s2, n2, b1, b2, b3⟩ := rows_sound rs _ _ _ h ho
        exact ⟨s1 ++ s2, n1 + n2, by omega, by rw [b2, a2, List.append_assoc], .cons a3 b3⟩
      · rw [evs_end e h1] at h
        cases h
        obtain ⟨s1, n1, a1, a2, a3⟩ := Row.sound r _ _ _ e ho
        have ho2 : o = .nought := by cases o <;> first | rfl | exact absurd rfl h1 | exact absurd rfl ho
        subst ho2
        exact ⟨s1, n1, a1, a2, .rbad a3⟩
end
def ocOf : Bool → Oc
  | true => .done
  | false => .nought
/-- and back: where the steps suffice -/
def Comp (f : Rs → Rs × Oc) (ρ : Env) (s : List Int) (n : Nat) (ρ' : Env) (b : Bool) : Prop :=
  ∀ st, lookO st.kvs = ρ → n ≤ st.left → ∃ st', f st = (st', ocOf b) ∧ lookO st'.kvs = ρ' ∧ st'.said = st.said ++ s ∧ st'.left + n = st.left
def Cmd.ev : Cmd → Rs → Rs × Oc
  | .row r => r.ev
  | .loop rs t => lp (evs rs) t
  | .rows rs => evs rs
theorem Rn.comp {c : Cmd} {ρ ρ' : Env} {s : List Int} {n : Nat} {b : Bool} (h : Rn c ρ s n ρ' b) : Comp c.ev ρ s n ρ' b := by
  induction h with
  | bad h =>
    intro st e hl
    obtain ⟨l, el⟩ : ∃ l, st.left = l + 1 := ⟨st.left - 1, by omega⟩
    subst e
    refine ⟨{ st with left := l }, ?_, rfl, (List.append_nil _).symm, by show l + 1 = st.left; omega⟩
    show Row.ev _ _ = _
    rw [ev_lt1 el]
    unfold letEv
    rw [if_pos (by rw [val_env]; exact h)]
    rfl
  | @lt to sg x y ρ h =>
    intro st e hl
    obtain ⟨l, el⟩ : ∃ l, st.left = l + 1 := ⟨st.left - 1, by omega⟩
    subst e
    refine ⟨{ st with kvs := putK st.kvs (.inr to) (.int (came sg (Rs.val { st with left := l } x) (Rs.val { st with left := l } y))), left := l }, ?_, ?_, (List.append_nil _).symm, by show l + 1 = st.left; omega⟩
    · show Row.ev _ _ = _
      rw [ev_lt1 el]
      unfold letEv
      rw [if_neg (by rw [val_env]; exact h)]
      rfl
    · show lookO (putK _ _ _) = _
      rw [lookO_put, val_env, val_env]
  | @say x ρ =>
    intro st e hl
    obtain ⟨l, el⟩ : ∃ l, st.left = l + 1 := ⟨st.left - 1, by omega⟩
    subst e
    refine ⟨{ st with said := st.said ++ [st.val x], left := l }, ?_, rfl, by rw [val_env], by show l + 1 = st.left; omega⟩
    show Row.ev _ _ = _
    rw [ev_say1 el]
    rfl
  | whn0 h =>
    intro st e hl
    obtain ⟨l, el⟩ : ∃ l, st.left = l + 1 := ⟨st.left - 1, by omega⟩
    subst e
    refine ⟨{ st with left := l }, ?_, rfl, (List.append_nil _).symm, by show l + 1 = st.left; omega⟩
    show Row.ev _ _ = _
    rw [ev_whn1 el, if_pos (by rw [lookI_eq]; exact h)]
    rfl
  | whn1 h r ih =>
    intro st e hl
    obtain ⟨l, el⟩ : ∃ l, st.left = l + 1 := ⟨st.left - 1, by omega⟩
    subst e
    obtain ⟨st', a1, a2, a3, a4⟩ := ih { st with left := l } rfl (by show _ ≤ l; omega)
    refine ⟨st', ?_, a2, a3, by have : st'.left + _ = l := a4; omega⟩
    show Row.ev _ _ = _
    rw [ev_whn1 el, if_neg (by rw [lookI_eq]; exact h)]
    exact a1
  | lop r ih =>
    intro st e hl
    obtain ⟨st', a1, a2, a3, a4⟩ := ih st e hl
    exact ⟨st', by show Row.ev _ _ = _; rw [ev_lop]; exact a1, a2, a3, a4⟩
  | agn0 r ih =>
    intro st e hl
    obtain ⟨st', a1, a2, a3, a4⟩ := ih st e hl
    exact ⟨st', ev_agn' a1 (by decide), a2, a3, a4⟩
  | agn1 r l ih1 ih2 =>
    intro st e hl
    obtain ⟨st1, a1, a2, a3, a4⟩ := ih1 st e (by omega)
    obtain ⟨st', b1, b2, b3, b4⟩ := ih2 st1 a2 (by omega)
    exact ⟨st', by show Row.ev _ _ = _; rw [ev_agn a1]; exact b1, b2, by rw [b3, a3, List.append_assoc], by omega⟩
  | out h =>
    intro st e hl
    obtain ⟨l, el⟩ : ∃ l, st.left = l + 1 := ⟨st.left - 1, by omega⟩
    subst e
    exact ⟨{ st with left := l }, lp_out el (by rw [lookI_eq]; exact h), rfl, (List.append_nil _).symm, by show l + 1 = st.left; omega⟩
  | lbad h r ih =>
    intro st e hl
    obtain ⟨l, el⟩ : ∃ l, st.left = l + 1 := ⟨st.left - 1, by omega⟩
    subst e
    obtain ⟨st', a1, a2, a3, a4⟩ := ih { st with left := l } rfl (by show _ ≤ l; omega)
    exact ⟨st', lp_end el (by rw [lookI_eq]; exact h) a1 (by decide), a2, a3, by have : st'.left + _ = l := a4; omega⟩
  | @more rs t ρ ρ1 ρ' s s2 n n2 o h r lo ih1 ih2 =>
    intro st e hl
    obtain ⟨l, el⟩ : ∃ l, st.left = l + 1 := ⟨st.left - 1, by omega⟩
    subst e
    obtain ⟨st1, a1, a2, a3, a4⟩ := ih1 { st with left := l } rfl (by show _ ≤ l; omega)
    replace a4 : st1.left + _ = l := a4
    obtain ⟨st', b1, b2, b3, b4⟩ := ih2 st1 a2 (by omega)
    exact ⟨st', by show lp _ _ _ = _; rw [lp_in (evs_left rs) el (by rw [lookI_eq]; exact h) a1]; exact b1, b2, by rw [b3, a3, List.append_assoc], by omega⟩
  | nil =>
    intro st e hl
    exact ⟨st, evs_nil, e, (List.append_nil _).symm, rfl⟩
  | rbad r ih =>
    intro st e hl
    obtain ⟨st', a1, a2, a3, a4⟩ := ih st e hl
    exact ⟨st', evs_end a1 (by decide), a2, a3, a4⟩
  | cons r l ih1 ih2 =>
    intro st e hl
    obtain ⟨st1, a1, a2, a3, a4⟩ := ih1 st e (by omega)
    obtain ⟨st', b1, b2, b3, b4⟩ := ih2 st1 a2 (by omega)
    exact ⟨st', by show evs _ _ = _; rw [evs_done a1]; exact b1, b2, by rw [b3, a3, List.append_assoc], by omega⟩
/-! ### moved once is enough -/
/-- the rows that stay, those that go ahead, behind S -/
def stp (S : List Row) : List Row → List Row
  | [] => []
  | r :: rs => if goes r S rs = true then stp S rs else r :: stp (S ++ [r]) rs
def ahd (S : List Row) : List Row → List Row
  | [] => []
  | r :: rs => if goes r S rs = true then r :: ahd S rs else ahd (S ++ [r]) rs
theorem pst_eq : ∀ (rs A S : List Row), pst A S rs = (A ++ ahd S rs, S ++ stp S rs)
  | [], A, S => by rw [pst, ahd, stp, List.append_nil, List.append_nil]
  | r :: rs, A, S => by
    rw [pst, ahd, stp]
    by_cases c : goes r S rs = true
    · rw [if_pos c, if_pos c, if_pos c, pst_eq rs, List.append_assoc]; rfl
    · rw [if_neg c, if_neg c, if_neg c, pst_eq rs, List.append_assoc]; rfl
theorem parts_eq (rs : List Row) : parts rs = (ahd [] rs, stp [] rs) := by unfold parts; rw [pst_eq]; rfl
theorem memK_app {ks ls : List Key} {k : Key} : memK (ks ++ ls) k = (memK ks k || memK ls k) := List.any_append
/-- a name that those ahead set or read is set by one that stays, if it is set at all -/
theorem stp_sets {k : Key} : ∀ (rs S : List Row), memK (sts S) k = true ∨ memK (rds S) k = true → memK (sts rs) k = true → memK (sts (stp S rs)) k = true
  | [], S, _, h => h
  | r :: rs, S, hS, h => by
    rw [sts, memK_app, Bool.or_eq_true] at h
    rw [stp]
    split
    · rename_i c
      refine stp_sets rs S hS ?_
      rcases h with h | h
      · exfalso
        cases r with
        | say x => cases c
        | blk kd s rs' => cases c
        | lt to sg x y =>
          have hk : k = .inr to := by
            have := memK_iff.mp h
            rw [Row.st, List.mem_singleton] at this
            exact this
          subst hk
          simp only [goes, Bool.and_eq_true, Bool.not_eq_true', sts_append, memK_app, Bool.or_eq_false_iff] at c
          rcases hS with e | e
          · rw [c.1.1.1.2.1] at e; cases e
          · rw [c.1.1.2] at e; cases e
      · exact h
    · rw [sts, memK_app, Bool.or_eq_true]
      rcases h with h | h
      · exact .inl h
      · refine .inr (stp_sets rs (S ++ [r]) ?_ h)
        rw [sts_append, rds_append, memK_app, memK_app]
        rcases hS with e | e
        · exact .inl (by rw [e]; rfl)
        · exact .inr (by rw [e]; rfl)
theorem hit_mono {to : Str} {ks ls : List Key} {k : Key} (h : hit to ks k = true) (e : ∀ l, l = k → memK ks l = true → memK ls l = true) : hit to ls k = true := by
  cases k with
  | inl i => cases h
  | inr s =>
    rw [hit_inr, Bool.or_eq_true] at h ⊢
    exact h.imp (fun z => z) (e _ rfl)
/-- what stays stays, where fewer rows stand behind it -/
theorem goes_less {r : Row} {S rs : List Row} (h : goes r S rs = false) : goes r S (stp (S ++ [r]) rs) = false := by
  cases r with
  | say x => rfl
  | blk kd s rs' => rfl
  | lt to sg x y =>
    have key : ∀ l, (l = x ∨ l = y ∨ l = .inr to) → memK (sts (S ++ rs)) l = true → memK (sts (S ++ stp (S ++ [.lt to sg x y]) rs)) l = true := fun l hl e => by
      rw [sts_append, memK_app, Bool.or_eq_true] at e ⊢
      refine e.imp (fun z => z) fun z => stp_sets rs _ ?_ z
      rcases hl with hl | hl | hl
      · exact .inr (by rw [rds_append, rds_one, memK_app, Row.rd, (memK_iff (ks := [x, y])).mpr (by rw [hl]; exact List.mem_cons_self), Bool.or_true])
      · exact .inr (by rw [rds_append, rds_one, memK_app, Row.rd, (memK_iff (ks := [x, y])).mpr (by rw [hl]; exact List.mem_cons_of_mem _ List.mem_cons_self), Bool.or_true])
      · exact .inl (by rw [sts_append, sts_one, memK_app, Row.st, (memK_iff (ks := [.inr to])).mpr (by rw [hl]; exact List.mem_cons_self), Bool.or_true])
    cases e : goes (.lt to sg x y) S (stp (S ++ [.lt to sg x y]) rs) with
    | false => rfl
    | true =>
      exfalso
      rw [goes] at h e
      simp only [Bool.and_eq_true, Bool.not_eq_true'] at e
      obtain ⟨⟨⟨⟨⟨e1, e2⟩, e3⟩, e4⟩, e5⟩, e6⟩ := e
      have f1 : hit to (sts (S ++ rs)) x = false := by
        cases f : hit to (sts (S ++ rs)) x with
        | false => rfl
        | true => rw [hit_mono f fun l hl z => key l (.inl hl) z] at e1; cases e1
      have f2 : hit to (sts (S ++ rs)) y = false := by
        cases f : hit to (sts (S ++ rs)) y with
        | false => rfl
        | true => rw [hit_mono f fun l hl z => key l (.inr (.inl hl)) z] at e2; cases e2
      have f3 : memK (sts (S ++ rs)) (.inr to) = false := by
        cases f : memK (sts (S ++ rs)) (.inr to) with
        | false => rfl
        | true => rw [key _ (.inr (.inr rfl)) f] at e3; cases e3
      rw [f1, f2, f3, e4, e5, e6] at h
      cases h
theorem stp_stp : ∀ (rs S : List Row), stp S (stp S rs) = stp S rs ∧ ahd S (stp S rs) = []
  | [], S => ⟨rfl, rfl⟩
  | r :: rs, S => by
    rw [stp]
    by_cases c : goes r S rs = true
    · rw [if_pos c]
      exact stp_stp rs S
    · rw [if_neg c, stp, ahd]
      have e := goes_less (S := S) (rs := rs) (Bool.eq_false_iff.mpr c)
      rw [e, if_neg Bool.false_ne_true, if_neg Bool.false_ne_true, (stp_stp rs (S ++ [r])).1, (stp_stp rs (S ++ [r])).2]
      exact ⟨rfl, rfl⟩
theorem parts_again (rs : List Row) : parts (parts rs).2 = ([], (parts rs).2) := by
  rw [parts_eq rs]
  show parts (stp [] rs) = ([], stp [] rs)
  rw [parts_eq, (stp_stp rs []).1, (stp_stp rs []).2]
theorem stp_mem {q : Row} : ∀ (rs S : List Row), q ∈ stp S rs → q ∈ rs
  | [], S, h => h
  | r :: rs, S, h => by
    rw [stp] at h
    split at h
    · exact List.mem_cons_of_mem _ (stp_mem rs S h)
    · rcases List.mem_cons.mp h with rfl | h
      · exact List.mem_cons_self
      · exact List.mem_cons_of_mem _ (stp_mem rs _ h)
theorem ahd_mem {q : Row} : ∀ (rs S : List Row), q ∈ ahd S rs → q ∈ rs
  | [], S, h => h
  | r :: rs, S, h => by
    rw [ahd] at h
    split at h
    · rcases List.mem_cons.mp h with rfl | h
      · exact List.mem_cons_self
      · exact List.mem_cons_of_mem _ (ahd_mem rs _ h)
    · exact List.mem_cons_of_mem _ (ahd_mem rs _ h)
theorem parts_mem {rs : List Row} {q : Row} : (q ∈ (parts rs).1 → q ∈ rs) ∧ (q ∈ (parts rs).2 → q ∈ rs) := by
  rw [parts_eq]
  exact ⟨ahd_mem rs [], stp_mem rs []⟩
theorem mvs_fix : ∀ {rs : List Row}, (∀ r ∈ rs, r.mv = [r]) → mvs rs = rs
  | [], _ => by rw [mvs]
  | r :: rs, h => by
    rw [mvs, h r List.mem_cons_self, mvs_fix fun q hq => h q (List.mem_cons_of_mem _ hq)]
    rfl
theorem agn_fix {s : Str} {B : List Row} (h : ∀ r ∈ B, r.mv = [r]) : (Row.blk .agn s (parts B).2).mv = [.blk .agn s (parts B).2] := by
  rw [Row.mv, mvs_fix fun r hr => h r (parts_mem.2 hr), parts_again]
  rfl
mutual
theorem Row.mv_fix : ∀ (r : Row), ∀ q ∈ r.mv, q.mv = [q]
  | .lt _ _ _ _, q, h => by
    rw [Row.mv, List.mem_singleton] at h
    rw [h, Row.mv]
  | .say _, q, h => by
    rw [Row.mv, List.mem_singleton] at h
    rw [h, Row.mv]
  | .blk kd s rs, q, h => by
    have ih := mvs_fx rs
    have A : ∀ q ∈ (parts (mvs rs)).1 ++ [Row.blk .agn s (parts (mvs rs)).2], q.mv = [q] := fun q hq => by
      rcases List.mem_append.mp hq with hq | hq
      · exact ih q (parts_mem.1 hq)
      · rw [List.mem_singleton.mp hq]
        exact agn_fix ih
    cases kd
    · rw [Row.mv, List.mem_singleton] at h
      rw [h, Row.mv, mvs_fix ih]
    · rw [Row.mv] at h
      split at h
      · rename_i e
        rw [List.mem_singleton] at h
        have e2 := parts_none e
        rw [h, Row.mv, e2, mvs_fix ih, e2, if_pos e]
      · rw [List.mem_singleton] at h
        rw [h, Row.mv, mvs_fix A]
    · rw [Row.mv] at h
      exact A q h
theorem mvs_fx : ∀ (rs : List Row), ∀ q ∈ mvs rs, q.mv = [q]
  | [], q, h => by rw [mvs] at h; cases h
  | r :: rs, q, h => by
    rw [mvs] at h
    rcases List.mem_append.mp h with h | h
    · exact Row.mv_fix r q h
    · exact mvs_fx rs q h
end
theorem mvs_mvs (rs : List Row) : mvs (mvs rs) = mvs rs := mvs_fix (mvs_fx rs)
/-! ### the moved program says the same, ends the same, in no more steps -/
def Cmd.st : Cmd → List Key
  | .row r => r.st
  | .loop rs _ => sts rs
  | .rows rs => sts rs
def Cmd.rd : Cmd → List Key
  | .row r => r.rd
  | .loop rs t => .inr t :: rds rs
  | .rows rs => rds rs
def Cmd.mf : Cmd → Bool
  | .row r => r.mf
  | .loop rs _ => mfs rs
  | .rows rs => mfs rs
def Cmd.sp : Cmd → Bool
  | .row r => r.sp
  | .loop rs _ => sps rs
  | .rows rs => sps rs
theorem put_same {ρ : Env} {k : Str} {i : Int} : (ρ.put k i) k = some i := if_pos rfl
theorem put_ne {ρ : Env} {k x : Str} {i : Int} (h : x ≠ k) : (ρ.put k i) x = ρ x := if_neg h
theorem put_ne' {ρ : Env} {k t : Str} {i : Int} (h : (.inr k : Key) ≠ .inr t) : (ρ.put k i) t = ρ t := put_ne fun e => h (congrArg _ e.symm)
theorem put_comm {ρ : Env} {k l : Str} {i j : Int} (h : k ≠ l) : (ρ.put k i).put l j = (ρ.put l j).put k i := by
  funext x
  unfold Env.put
  by_cases h1 : x = l
  · subst h1
    rw [if_pos rfl, if_neg (fun e => h e.symm), if_pos rfl]
  · rw [if_neg h1]
    by_cases h2 : x = k
    · rw [if_pos h2, if_pos h2]
    · rw [if_neg h2, if_neg h2, if_neg h1]
theorem put_self {ρ : Env} {k : Str} {i : Int} (h : ρ k = some i) : ρ.put k i = ρ := by
  funext x
  unfold Env.put
  by_cases h1 : x = k
  · rw [if_pos h1, h1, h]
  · rw [if_neg h1]
theorem val_put {ρ : Env} {k : Str} {i : Int} {x : Key} (h : x ≠ .inr k) : (ρ.put k i).val x = ρ.val x := by
  cases x with
  | inl z => rfl
  | inr z => exact congrArg (·.getD 0) (put_ne (x := z) (k := k) fun e => h (congrArg Sum.inr e))
theorem nin_cons {k a : Key} {l : List Key} (h : k ∉ a :: l) : k ≠ a ∧ k ∉ l := ⟨fun e => h (e ▸ List.mem_cons_self), fun m => h (List.mem_cons_of_mem _ m)⟩
theorem nin_app {k : Key} {l m : List Key} (h : k ∉ l ++ m) : k ∉ l ∧ k ∉ m := ⟨fun e => h (List.mem_append_left _ e), fun e => h (List.mem_append_right _ e)⟩
/-- a name that is not set keeps its value -/
theorem Rn.keep {c : Cmd} {ρ ρ' : Env} {s : List Int} {n : Nat} {b : Bool} (h : Rn c ρ s n ρ' b) : ∀ x, (.inr x : Key) ∉ c.st → ρ' x = ρ x := by
  induction h with
  | bad h => intro x _; rfl
  | @lt to sg a b ρ h =>
    intro x hx
    refine put_ne fun e => hx ?_
    show _ ∈ Row.st _
    rw [Row.st, e]
    exact List.mem_cons_self
  | say => intro x _; rfl
  | whn0 h => intro x _; rfl
  | whn1 h r ih => intro x hx; exact ih x (by show _ ∉ sts _; have : _ ∉ Row.st _ := hx; rw [Row.st] at this; exact this)
  | lop r ih => intro x hx; exact ih x (by show _ ∉ sts _; have : _ ∉ Row.st _ := hx; rw [Row.st] at this; exact this)
  | agn0 r ih => intro x hx; exact ih x (by show _ ∉ sts _; have : _ ∉ Row.st _ := hx; rw [Row.st] at this; exact this)
  | agn1 r l ih1 ih2 =>
    intro x hx
    have : _ ∉ Row.st _ := hx
    rw [Row.st] at this
    exact (ih2 x this).trans (ih1 x this)
  | out h => intro x _; rfl
  | lbad h r ih => intro x hx; exact ih x hx
  | more h r l ih1 ih2 => intro x hx; exact (ih2 x hx).trans (ih1 x hx)
  | nil => intro x _; rfl
  | rbad r ih =>
    intro x hx
    have h2 : _ ∉ sts _ := hx
    rw [sts] at h2
    exact ih x (nin_app h2).1
  | cons r l ih1 ih2 =>
    intro x hx
    have h2 : _ ∉ sts _ := hx
    rw [sts] at h2
    exact (ih2 x (nin_app h2).2).trans (ih1 x (nin_app h2).1)
theorem Rn.keepV {c : Cmd} {ρ ρ' : Env} {s : List Int} {n : Nat} {b : Bool} (h : Rn c ρ s n ρ' b) {k : Key} (hk : k ∉ c.st) : ρ'.val k = ρ.val k := by
  cases k with
  | inl i => rfl
  | inr x => exact congrArg (·.getD 0) (h.keep x hk)
/-- a name that is neither set nor read may have any value -/
theorem Rn.frame {c : Cmd} {ρ ρ' : Env} {s : List Int} {n : Nat} {b : Bool} (h : Rn c ρ s n ρ' b) : ∀ k i, (.inr k : Key) ∉ c.st → (.inr k : Key) ∉ c.rd → Rn c (ρ.put k i) s n (ρ'.put k i) b := by
  induction h with
  | @bad to sg a b ρ h =>
    intro k i h1 h2
    have h2 : _ ∉ Row.rd _ := h2
    rw [Row.rd] at h2
    have h3 := nin_cons (nin_cons h2).2
    exact .bad ⟨h.1, by rw [val_put h3.1.symm]; exact h.2⟩
  | @lt to sg a b ρ h =>
    intro k i h1 h2
    have h1 : _ ∉ Row.st _ := h1
    have h2 : _ ∉ Row.rd _ := h2
    rw [Row.st] at h1
    rw [Row.rd] at h2
    have h3 := nin_cons h2
    have h4 := nin_cons h3.2
    have kt : to ≠ k := fun e => (nin_cons h1).1 (e ▸ rfl)
    have := Rn.lt (to := to) (sg := sg) (x := a) (y := b) (ρ := ρ.put k i) (by rw [val_put h4.1.symm]; exact h)
    rw [val_put h3.1.symm, val_put h4.1.symm, put_comm kt.symm] at this
    exact this
  | @say a ρ =>
    intro k i h1 h2
    have h2 : _ ∉ Row.rd _ := h2
    rw [Row.rd] at h2
    have := Rn.say (x := a) (ρ := ρ.put k i)
    rw [val_put (nin_cons h2).1.symm] at this
    exact this
  | @whn0 t rs ρ h =>
    intro k i h1 h2
    have h2 : _ ∉ Row.rd _ := h2
    rw [Row.rd] at h2
    exact .whn0 (by rw [val_put (nin_cons h2).1.symm]; exact h)
  | @whn1 t rs ρ ρ' s n o h r ih =>
    intro k i h1 h2
    have h1 : _ ∉ Row.st _ := h1
    have h2 : _ ∉ Row.rd _ := h2
    rw [Row.st] at h1
    rw [Row.rd] at h2
    exact .whn1 (by rw [val_put (nin_cons h2).1.symm]; exact h) (ih k i h1 (nin_cons h2).2)
  | lop r ih =>
    intro k i h1 h2
    have h1 : _ ∉ Row.st _ := h1
    have h2 : _ ∉ Row.rd _ := h2
    rw [Row.st] at h1
    rw [Row.rd] at h2
    exact .lop (ih k i h1 h2)
  | agn0 r ih =>
    intro k i h1 h2
    have h1 : _ ∉ Row.st _ := h1
    have h2 : _ ∉ Row.rd _ := h2
    rw [Row.st] at h1
    rw [Row.rd] at h2
    exact .agn0 (ih k i h1 (nin_cons h2).2)
  | agn1 r l ih1 ih2 =>
    intro k i h1 h2
    have h1 : _ ∉ Row.st _ := h1
    have h2 : _ ∉ Row.rd _ := h2
    rw [Row.st] at h1
    rw [Row.rd] at h2
    exact .agn1 (ih1 k i h1 (nin_cons h2).2) (ih2 k i h1 h2)
  | @out rs t ρ h =>
    intro k i h1 h2
    exact .out (by rw [val_put (nin_cons h2).1.symm]; exact h)
  | lbad h r ih =>
    intro k i h1 h2
    exact .lbad (by rw [val_put (nin_cons h2).1.symm]; exact h) (ih k i h1 (nin_cons h2).2)
  | more h r l ih1 ih2 =>
    intro k i h1 h2
    exact .more (by rw [val_put (nin_cons h2).1.symm]; exact h) (ih1 k i h1 (nin_cons h2).2) (ih2 k i h1 h2)
  | nil => intro k i h1 h2; exact .nil
  | rbad r ih =>
    intro k i h1 h2
    have h1 : _ ∉ sts _ := h1
    have h2 : _ ∉ rds _ := h2
    rw [sts] at h1
    rw [rds] at h2
    exact .rbad (ih k i (nin_app h1).1 (nin_app h2).1)
  | cons r l ih1 ih2 =>
    intro k i h1 h2
    have h1 : _ ∉ sts _ := h1
    have h2 : _ ∉ rds _ := h2
    rw [sts] at h1
    rw [rds] at h2
    exact .cons (ih1 k i (nin_app h1).1 (nin_app h2).1) (ih2 k i (nin_app h1).2 (nin_app h2).2)
theorem divs_of {sg : Sg} {y : Key} {ρ : Env} (h : sg = .div ∧ ρ.val y = 0) : divs sg y = true := by
  unfold divs
  rw [decide_eq_true h.1]
  cases y with
  | inl i =>
    have : i = 0 := h.2
    rw [this]
    rfl
  | inr s => rfl
/-- what may not fail does not -/
theorem Rn.sure {c : Cmd} {ρ ρ' : Env} {s : List Int} {n : Nat} {b : Bool} (h : Rn c ρ s n ρ' b) : c.mf = false → b = true := by
  induction h with
  | bad h =>
    intro e
    have e : Row.mf _ = false := e
    rw [Row.mf, divs_of h] at e
    cases e
  | lt h => intro _; rfl
  | say => intro _; rfl
  | whn0 h => intro _; rfl
  | whn1 h r ih => intro e; exact ih (by have e : Row.mf _ = false := e; rw [Row.mf] at e; exact e)
  | lop r ih => intro e; exact ih (by have e : Row.mf _ = false := e; rw [Row.mf] at e; exact e)
  | agn0 r ih => intro e; exact ih (by have e : Row.mf _ = false := e; rw [Row.mf] at e; exact e)
  | agn1 r l ih1 ih2 => intro e; exact ih2 (by have e : Row.mf _ = false := e; rw [Row.mf] at e; exact e)
  | out h => intro _; rfl
  | lbad h r ih => intro e; exact ih e
  | more h r l ih1 ih2 => intro e; exact ih2 e
  | nil => intro _; rfl
  | rbad r ih =>
    intro e
    have e : mfs _ = false := e
    rw [mfs, Bool.or_eq_false_iff] at e
    exact ih e.1
  | cons r l ih1 ih2 =>
    intro e
    have e : mfs _ = false := e
    rw [mfs, Bool.or_eq_false_iff] at e
    exact ih2 e.2
/-- what does not speak says nothing -/
theorem Rn.still {c : Cmd} {ρ ρ' : Env} {s : List Int} {n : Nat} {b : Bool} (h : Rn c ρ s n ρ' b) : c.sp = false → s = [] := by
  induction h with
  | bad h => intro _; rfl
  | lt h => intro _; rfl
  | say => intro e; cases e
  | whn0 h => intro _; rfl
  | whn1 h r ih => intro e; exact ih (by have e : Row.sp _ = false := e; rw [Row.sp] at e; exact e)
  | lop r ih => intro e; exact ih (by have e : Row.sp _ = false := e; rw [Row.sp] at e; exact e)
  | agn0 r ih => intro e; exact ih (by have e : Row.sp _ = false := e; rw [Row.sp] at e; exact e)
  | agn1 r l ih1 ih2 =>
    intro e
    have e : Row.sp _ = false := e
    rw [Row.sp] at e
    rw [ih1 e, ih2 e]
    rfl
  | out h => intro _; rfl
  | lbad h r ih => intro e; exact ih e
  | more h r l ih1 ih2 => intro e; rw [ih1 e, ih2 e]; rfl
  | nil => intro _; rfl
  | rbad r ih =>
    intro e
    have e : sps _ = false := e
    rw [sps, Bool.or_eq_false_iff] at e
    exact ih e.1
  | cons r l ih1 ih2 =>
    intro e
    have e : sps _ = false := e
    rw [sps, Bool.or_eq_false_iff] at e
    rw [ih1 e.1, ih2 e.2]
    rfl
/-! runs of lists put together -/
theorem run_join {R : List Row} : ∀ {A : List Row} {ρ ρa ρ' : Env} {sa sb : List Int} {na nb : Nat} {o : Bool}, Run A ρ sa na ρa true → Run R ρa sb nb ρ' o → Run (A ++ R) ρ (sa ++ sb) (na + nb) ρ' o
  | [], _, _, _, _, _, _, _, _, h, k => by
    cases h
    rw [List.nil_append, List.nil_append, Nat.zero_add]
    exact k
  | a :: A, _, _, _, _, _, _, _, _, h, k => by
    cases h with
    | cons h1 h2 =>
      rw [List.append_assoc, Nat.add_assoc]
      exact .cons h1 (run_join h2 k)
theorem run_bad {R : List Row} : ∀ {A : List Row} {ρ ρ' : Env} {s : List Int} {n : Nat}, Run A ρ s n ρ' false → Run (A ++ R) ρ s n ρ' false
  | [], _, _, _, _, h => nomatch h
  | a :: A, _, _, _, _, h => by
    cases h with
    | rbad h1 => exact .rbad h1
    | cons h1 h2 => exact .cons h1 (run_bad h2)
theorem run_split {R : List Row} : ∀ {A : List Row} {ρ ρ' : Env} {s : List Int} {n : Nat} {o : Bool}, Run (A ++ R) ρ s n ρ' o → (o = false ∧ Run A ρ s n ρ' false) ∨ ∃ ρa sa na sb nb, Run A ρ sa na ρa true ∧ Run R ρa sb nb ρ' o ∧ s = sa ++ sb ∧ n = na + nb
  | [], ρ, _, s, n, _, h => .inr ⟨ρ, [], 0, s, n, .nil, h, rfl, (Nat.zero_add n).symm⟩
  | a :: A, _, _, _, _, _, h => by
    rw [List.cons_append] at h
    cases h with
    | rbad h1 => exact .inl ⟨rfl, .rbad h1⟩
    | @cons _ _ _ ρ1 _ s1 s2 n1 n2 _ h1 h2 =>
      rcases run_split h2 with ⟨rfl, k⟩ | ⟨ρa, sa, na, sb, nb, k1, k2, rfl, rfl⟩
      · exact .inl ⟨rfl, .cons h1 k⟩
      · exact .inr ⟨ρa, s1 ++ sa, n1 + na, sb, nb, .cons h1 k1, k2, (List.append_assoc _ _ _).symm, (Nat.add_assoc _ _ _).symm⟩
theorem run_one {r : Row} {ρ ρ' : Env} {s : List Int} {n : Nat} {o : Bool} (h : Run1 r ρ s n ρ' o) : Run [r] ρ s n ρ' o := by
  cases o with
  | false => exact .rbad h
  | true =>
    have := Rn.cons h (Rn.nil (ρ := ρ'))
    rw [List.append_nil, Nat.add_zero] at this
    exact this
/-! what goes ahead -/
theorem mem_sts {k : Key} : ∀ {rs : List Row}, k ∈ sts rs ↔ ∃ r ∈ rs, k ∈ r.st
  | [] => by simp [sts]
  | r :: rs => by
    rw [sts, List.mem_append, mem_sts (rs := rs)]
    simp
mutual
theorem Row.st_names : ∀ (r : Row) (i : Int), (.inl i : Key) ∉ r.st
  | .lt _ _ _ _, i => by rw [Row.st]; simp
  | .say _, i => by rw [Row.st]; simp
  | .blk _ _ rs, i => by rw [Row.st]; exact sts_names rs i
theorem sts_names : ∀ (rs : List Row) (i : Int), (.inl i : Key) ∉ sts rs
  | [], i => by rw [sts]; simp
  | r :: rs, i => by
    rw [sts]
    exact fun h => (List.mem_append.mp h).elim (Row.st_names r i) (sts_names rs i)
end
/-- a let that may stand ahead of the rows Sy -/
def Clear (to : Str) (sg : Sg) (x y : Key) (Sy : List Row) : Prop := (∀ k, k = .inr to ∨ k = x ∨ k = y → k ∉ sts Sy) ∧ (.inr to : Key) ∉ rds Sy ∧ mfs Sy = false ∧ (divs sg y = true → sps Sy = false)
theorem not_hit {to : Str} {ks : List Key} {k : Key} (h : hit to ks k = false) (hn : ∀ i, (.inl i : Key) ∉ ks) : k ≠ .inr to ∧ k ∉ ks := by
  cases k with
  | inl i => exact ⟨(by intro e; cases e), hn i⟩
  | inr s =>
    rw [hit_inr, Bool.or_eq_false_iff] at h
    refine ⟨fun e => of_decide_eq_false h.1 (Sum.inr.inj e), fun m => ?_⟩
    rw [memK_iff.mpr m] at h
    cases h.2
theorem goes_facts {r : Row} {Sy be : List Row} (h : goes r Sy be = true) : ∃ to sg x y, r = .lt to sg x y ∧ x ≠ .inr to ∧ y ≠ .inr to ∧ Clear to sg x y Sy ∧ ∀ k, k = .inr to ∨ k = x ∨ k = y → k ∉ sts be := by
  cases r with
  | say x => cases h
  | blk kd s rs => cases h
  | lt to sg x y =>
    rw [goes] at h
    simp only [Bool.and_eq_true, Bool.not_eq_true', Bool.or_eq_true] at h
    obtain ⟨⟨⟨⟨⟨e1, e2⟩, e3⟩, e4⟩, e5⟩, e6⟩ := h
    have n1 := not_hit e1 (sts_names _)
    have n2 := not_hit e2 (sts_names _)
    have n3 : (.inr to : Key) ∉ sts (Sy ++ be) := fun m => by rw [memK_iff.mpr m] at e3; cases e3
    have n4 : (.inr to : Key) ∉ rds Sy := fun m => by rw [memK_iff.mpr m] at e4; cases e4
    have all : ∀ k, k = .inr to ∨ k = x ∨ k = y → k ∉ sts Sy ++ sts be := fun k hk => by
      rw [← sts_append]
      rcases hk with rfl | rfl | rfl
      · exact n3
      · exact n1.2
      · exact n2.2
    refine ⟨to, sg, x, y, rfl, n1.1, n2.1, ⟨fun k hk => (nin_app (all k hk)).1, n4, e5, fun d => ?_⟩, fun k hk => (nin_app (all k hk)).2⟩
    rcases e6 with e6 | e6
    · rw [d] at e6; cases e6
    · exact e6
theorem Clear.left {to : Str} {sg : Sg} {x y : Key} {A B : List Row} (c : Clear to sg x y (A ++ B)) : Clear to sg x y A := by
  obtain ⟨c1, c2, c3, c4⟩ := c
  rw [sts_append] at c1
  rw [rds_append] at c2
  rw [mfs_append, Bool.or_eq_false_iff] at c3
  rw [sps_append] at c4
  exact ⟨fun k hk => (nin_app (c1 k hk)).1, (nin_app c2).1, c3.1, fun d => (Bool.or_eq_false_iff.mp (c4 d)).1⟩
theorem Clear.right {to : Str} {sg : Sg} {x y : Key} {A B : List Row} (c : Clear to sg x y (A ++ B)) : Clear to sg x y B := by
  obtain ⟨c1, c2, c3, c4⟩ := c
  rw [sts_append] at c1
  rw [rds_append] at c2
  rw [mfs_append, Bool.or_eq_false_iff] at c3
  rw [sps_append] at c4
  exact ⟨fun k hk => (nin_app (c1 k hk)).2, (nin_app c2).2, c3.2, fun d => (Bool.or_eq_false_iff.mp (c4 d)).2⟩
/-- every row ahead is a let; clear of those that stay ahead of all; what stays sets none of its names -/
theorem ahd_facts : ∀ (rs Sy : List Row), ∀ a ∈ ahd Sy rs, ∃ to sg x y, a = .lt to sg x y ∧ x ≠ .inr to ∧ y ≠ .inr to ∧ Clear to sg x y Sy ∧ ∀ k, k = .inr to ∨ k = x ∨ k = y → k ∉ sts (stp Sy rs)
  | [], Sy, a, h => nomatch h
  | r :: rs, Sy, a, h => by
    rw [ahd] at h
    rw [stp]
    by_cases c : goes r Sy rs = true
    · rw [if_pos c] at h ⊢
      rcases List.mem_cons.mp h with rfl | h
      · obtain ⟨to, sg, x, y, e, h1, h2, h3, h4⟩ := goes_facts c
        refine ⟨to, sg, x, y, e, h1, h2, h3, fun k hk m => h4 k hk ?_⟩
        obtain ⟨q, hq, hm⟩ := mem_sts.mp m
        exact mem_sts.mpr ⟨q, stp_mem rs Sy hq, hm⟩
      · exact ahd_facts rs Sy a h
    · rw [if_neg c] at h ⊢
      obtain ⟨to, sg, x, y, e, h1, h2, h3, h4⟩ := ahd_facts rs (Sy ++ [r]) a h
      refine ⟨to, sg, x, y, e, h1, h2, h3.left, fun k hk m => ?_⟩
      rw [sts] at m
      rcases List.mem_append.mp m with m | m
      · exact h3.right.1 k hk (by rw [sts_one]; exact m)
      · exact h4 k hk m
/-- those ahead are stable: done again they change nothing -/
def Stable (A : List Row) (ρ : Env) : Prop := ∀ a ∈ A, ∃ to sg x y, a = .lt to sg x y ∧ ¬ (sg = .div ∧ ρ.val y = 0) ∧ ρ to = some (came sg (ρ.val x) (ρ.val y))
theorem Stable.keep {A : List Row} {ρ ρ' : Env} {c : Cmd} {s : List Int} {n : Nat} {b : Bool} (S : Stable A ρ) (h : Rn c ρ s n ρ' b) (hA : ∀ a ∈ A, ∀ to sg x y, a = .lt to sg x y → ∀ k, k = .inr to ∨ k = x ∨ k = y → k ∉ c.st) : Stable A ρ' := fun a ha => by
  obtain ⟨to, sg, x, y, e, h1, h2⟩ := S a ha
  have q := hA a ha to sg x y e
  have e1 := h.keepV (q x (.inr (.inl rfl)))
  have e2 := h.keepV (q y (.inr (.inr rfl)))
  have e3 := h.keep to (q (.inr to) (.inl rfl))
  exact ⟨to, sg, x, y, e, by rw [e2]; exact h1, by rw [e1, e2, e3]; exact h2⟩
theorem ahd_stable : ∀ (rs Sy : List Row) {ρ ρ' : Env} {s : List Int} {n : Nat}, Run (ahd Sy rs) ρ s n ρ' true → Stable (ahd Sy rs) ρ'
  | [], Sy, _, _, _, _, _ => fun a h => nomatch h
  | r :: rs, Sy, ρ, ρ', s, n, h => by
    rw [ahd] at h ⊢
    by_cases c : goes r Sy rs = true
    · rw [if_pos c] at h ⊢
      obtain ⟨to, sg, x, y, rfl, h1, h2, _, h4⟩ := goes_facts c
      cases h with
      | cons k1 k2 =>
        have ih := ahd_stable rs Sy k2
        have kp : ∀ k, k = .inr to ∨ k = x ∨ k = y → k ∉ (Cmd.rows (ahd Sy rs)).st := fun k hk m => h4 k hk (by
          obtain ⟨q, hq, hm⟩ := mem_sts.mp m
          exact mem_sts.mpr ⟨q, ahd_mem rs Sy hq, hm⟩)
        intro a ha
        rcases List.mem_cons.mp ha with rfl | ha
        · cases k1 with
          | lt hd =>
            refine ⟨to, sg, x, y, rfl, ?_, ?_⟩
            · rw [k2.keepV (kp y (.inr (.inr rfl))), val_put h2]
              exact hd
            · rw [k2.keepV (kp y (.inr (.inr rfl))), k2.keepV (kp x (.inr (.inl rfl))), k2.keep to (kp _ (.inl rfl)), val_put h2, val_put h1, put_same]
        · exact ih a ha
    · rw [if_neg c] at h ⊢
      exact ahd_stable rs (Sy ++ [r]) h
/-- a row that stays is done behind those ahead -/
theorem commute {r : Row} {R : List Row} {ρ1 : Env} {s : List Int} {n : Nat} : ∀ {A : List Row} {ρ ρ1 ρ' : Env} {s2 : List Int} {n2 : Nat} {o : Bool}, (∀ a ∈ A, ∃ to sg x y, a = .lt to sg x y ∧ Clear to sg x y [r]) → Run1 r ρ s n ρ1 true → Run (A ++ R) ρ1 s2 n2 ρ' o →
    ∃ n3 ρ'', n3 ≤ n + n2 ∧ Run (A ++ r :: R) ρ (s ++ s2) n3 ρ'' o ∧ (o = true → ρ'' = ρ' ∧ n3 = n + n2)
  | [], ρ, ρ1, ρ', s2, n2, o, _, h, k => ⟨n + n2, ρ', Nat.le_refl _, .cons h k, fun _ => ⟨rfl, rfl⟩⟩
  | a :: A, ρ, ρ1, ρ', s2, n2, o, hA, h, k => by
    obtain ⟨to, sg, x, y, rfl, c⟩ := hA a List.mem_cons_self
    have c1 := c.1
    rw [sts_one] at c1
    have e1 := h.keepV (c1 x (.inr (.inl rfl)))
    have e2 := h.keepV (c1 y (.inr (.inr rfl)))
    rw [List.cons_append] at k
    cases k with
    | rbad k1 =>
      cases k1 with
      | bad hd =>
        have e3 := h.still (by have := c.2.2.2 (divs_of hd); rw [sps_one] at this; exact this)
        subst e3
        refine ⟨1, ρ, by omega, .rbad (.bad ⟨hd.1, by rw [← e2]; exact hd.2⟩), fun e => by cases e⟩
    | @cons _ _ _ ρ2 _ s3 s4 n3 n4 _ k1 k2 =>
      cases k1 with
      | lt hd =>
        have f := h.frame to (came sg (ρ1.val x) (ρ1.val y)) (c1 _ (.inl rfl)) (by have := c.2.1; rw [rds_one] at this; exact this)
        obtain ⟨n5, ρ'', q1, q2, q3⟩ := commute (ρ1 := ρ1) (fun b hb => hA b (List.mem_cons_of_mem _ hb)) f k2
        have st := Rn.lt (to := to) (sg := sg) (x := x) (y := y) (ρ := ρ) (by rw [← e2]; exact hd)
        rw [← e1, ← e2] at st
        refine ⟨1 + n5, ρ'', by omega, (by have := Rn.cons st q2; exact this), fun e => ⟨(q3 e).1, by have := (q3 e).2; omega⟩⟩
/-- the first round: those ahead first -/
theorem first_round : ∀ (rs Sy : List Row) {ρ ρ' : Env} {s : List Int} {n : Nat} {o : Bool}, Run rs ρ s n ρ' o → ∃ n' ρ'', n' ≤ n ∧ Run (ahd Sy rs ++ stp Sy rs) ρ s n' ρ'' o ∧ (o = true → ρ'' = ρ' ∧ n' = n)
  | [], Sy, ρ, ρ', s, n, o, h => ⟨n, ρ', Nat.le_refl _, h, fun _ => ⟨rfl, rfl⟩⟩
  | r :: rs, Sy, ρ, ρ', s, n, o, h => by
    rw [ahd, stp]
    by_cases c : goes r Sy rs = true
    · rw [if_pos c, if_pos c]
      cases h with
      | rbad h1 => exact ⟨n, ρ', Nat.le_refl _, .rbad h1, fun e => by cases e⟩
      | @cons _ _ _ ρ1 _ s1 s2 n1 n2 _ h1 h2 =>
        obtain ⟨n', ρ'', q1, q2, q3⟩ := first_round rs Sy h2
        exact ⟨n1 + n', ρ'', by omega, .cons h1 q2, fun e => ⟨(q3 e).1, by have := (q3 e).2; omega⟩⟩
    · rw [if_neg c, if_neg c]
      have fa := ahd_facts rs (Sy ++ [r])
      have cl : ∀ a ∈ ahd (Sy ++ [r]) rs, ∃ to sg x y, a = .lt to sg x y ∧ Clear to sg x y [r] := fun a ha => by
        obtain ⟨to, sg, x, y, e, _, _, h3, _⟩ := fa a ha
        exact ⟨to, sg, x, y, e, h3.right⟩
      cases h with
      | rbad h1 =>
        cases e : ahd (Sy ++ [r]) rs with
        | nil => exact ⟨n, ρ', Nat.le_refl _, .rbad h1, fun e => by cases e⟩
        | cons a A =>
          obtain ⟨to, sg, x, y, _, c2⟩ := cl a (by rw [e]; exact List.mem_cons_self)
          have := h1.sure (by have := c2.2.2.1; rw [mfs_one] at this; exact this)
          cases this
      | @cons _ _ _ ρ1 _ s1 s2 n1 n2 _ h1 h2 =>
        obtain ⟨n', ρ'', q1, q2, q3⟩ := first_round rs (Sy ++ [r]) h2
        obtain ⟨n3, ρ3, w1, w2, w3⟩ := commute (ρ1 := ρ1) cl h1 q2
        exact ⟨n3, ρ3, by omega, w2, fun e => ⟨(w3 e).1.trans (q3 e).1, by have := (w3 e).2; have := (q3 e).2; omega⟩⟩
/-- a later round: those ahead change nothing -/
theorem later_round : ∀ (rs Sy : List Row) {ρ ρ' : Env} {s : List Int} {n : Nat} {o : Bool}, Run rs ρ s n ρ' o → Stable (ahd Sy rs) ρ → ∃ n', n' ≤ n ∧ Run (stp Sy rs) ρ s n' ρ' o ∧ (o = true → n = n' + (ahd Sy rs).length)
  | [], Sy, ρ, ρ', s, n, o, h, _ => ⟨n, Nat.le_refl _, h, fun _ => rfl⟩
  | r :: rs, Sy, ρ, ρ', s, n, o, h, S => by
    rw [ahd] at S ⊢
    rw [stp]
    by_cases c : goes r Sy rs = true
    · rw [if_pos c] at S ⊢
      rw [if_pos c]
      obtain ⟨to, sg, x, y, e, h1, h2⟩ := S r List.mem_cons_self
      subst e
      cases h with
      | rbad k => cases k with | bad hd => exact absurd hd h1
      | @cons _ _ _ ρ1 _ s1 s2 n1 n2 _ k1 k2 =>
        cases k1 with
        | lt hd =>
          rw [put_self h2] at k2
          obtain ⟨n', q1, q2, q3⟩ := later_round rs Sy k2 (fun a ha => S a (List.mem_cons_of_mem _ ha))
          exact ⟨n', by omega, q2, fun e => by have := q3 e; rw [List.length_cons]; omega⟩
    · rw [if_neg c] at S ⊢
      rw [if_neg c]
      cases h with
      | rbad k => exact ⟨n, Nat.le_refl _, .rbad k, fun e => by cases e⟩
      | @cons _ _ _ ρ1 _ s1 s2 n1 n2 _ k1 k2 =>
        have S1 : Stable (ahd (Sy ++ [r]) rs) ρ1 := S.keep k1 fun a ha to sg x y e k hk => by
          obtain ⟨to', sg', x', y', e', _, _, h3, _⟩ := ahd_facts rs (Sy ++ [r]) a ha
          rw [e] at e'
          cases e'
          have := h3.right.1 k hk
          rw [sts_one] at this
          exact this
        obtain ⟨n', q1, q2, q3⟩ := later_round rs (Sy ++ [r]) k2 S1
        exact ⟨n1 + n', by omega, .cons k1 q2, fun e => by have := q3 e; omega⟩
theorem ahd_keys {B : List Row} : ∀ a ∈ ahd [] B, ∀ to sg x y, a = .lt to sg x y → ∀ k, k = .inr to ∨ k = x ∨ k = y → k ∉ sts (stp [] B) := fun a ha to sg x y e k hk => by
  obtain ⟨to', sg', x', y', e', _, _, _, h4⟩ := ahd_facts B [] a ha
  rw [e] at e'
  cases e'
  exact h4 k hk
theorem later_rounds {B : List Row} {t : Str} : ∀ (n : Nat) {ρ ρ' : Env} {s : List Int} {o : Bool}, Loop B t ρ s n ρ' o → Stable (ahd [] B) ρ → ∃ n', n' ≤ n ∧ Loop (stp [] B) t ρ s n' ρ' o := by
  intro n
  induction n using Nat.strongRecOn with
  | ind n ih =>
    intro ρ ρ' s o h S
    cases h with
    | out h => exact ⟨1, Nat.le_refl _, .out h⟩
    | @lbad _ _ _ _ _ n1 h r =>
      obtain ⟨n', q1, q2, _⟩ := later_round B [] r S
      exact ⟨n' + 1, by omega, .lbad h q2⟩
    | @more _ _ _ ρ1 _ s1 s2 n1 n2 _ h r l =>
      obtain ⟨n', q1, q2, _⟩ := later_round B [] r S
      have S1 : Stable (ahd [] B) ρ1 := S.keep q2 ahd_keys
      obtain ⟨m', w1, w2⟩ := ih n2 (by omega) l S1
      exact ⟨n' + m' + 1, by omega, .more h q2 w2⟩
/-- a body done once or more: its rows ahead are done once -/
theorem hoist {B : List Row} {t : Str} {ρ ρ1 ρ' : Env} {s s2 : List Int} {n n2 : Nat} {o : Bool} (h : Run B ρ s n ρ1 true) (l : Loop B t ρ1 s2 n2 ρ' o) : ∃ n', n' ≤ n + n2 ∧ Run (ahd [] B ++ [.blk .agn t (stp [] B)]) ρ (s ++ s2) n' ρ' o := by
  obtain ⟨m, ρ2, q1, q2, q3⟩ := first_round B [] h
  obtain ⟨rfl, rfl⟩ := q3 rfl
  rcases run_split q2 with ⟨e, _⟩ | ⟨ρa, sa, na, sb, nb, k1, k2, rfl, rfl⟩
  · cases e
  · have S1 : Stable (ahd [] B) ρ2 := (ahd_stable B [] k1).keep k2 ahd_keys
    obtain ⟨m', w1, w2⟩ := later_rounds n2 l S1
    refine ⟨na + (nb + m'), by omega, ?_⟩
    rw [List.append_assoc]
    exact run_join k1 (run_one (.agn1 k2 w2))
theorem hoist_bad {B : List Row} {t : Str} {ρ ρ' : Env} {s : List Int} {n : Nat} (h : Run B ρ s n ρ' false) : ∃ n' ρ'', n' ≤ n ∧ Run (ahd [] B ++ [.blk .agn t (stp [] B)]) ρ s n' ρ'' false := by
  obtain ⟨m, ρ2, q1, q2, _⟩ := first_round B [] h
  rcases run_split q2 with ⟨_, k⟩ | ⟨ρa, sa, na, sb, nb, k1, k2, rfl, rfl⟩
  · exact ⟨m, ρ2, q1, run_bad k⟩
  · exact ⟨na + nb, ρ2, q1, run_join k1 (run_one (.agn0 k2))⟩
def Cmd.Mv : Cmd → Env → List Int → Nat → Env → Bool → Prop
  | .row r, ρ, s, n, ρ', o => ∃ n' ρ'', n' ≤ n ∧ Run r.mv ρ s n' ρ'' o ∧ (o = true → ρ'' = ρ')
  | .loop rs t, ρ, s, n, ρ', o => ∃ n' ρ'', n' ≤ n ∧ Loop (mvs rs) t ρ s n' ρ'' o ∧ (o = true → ρ'' = ρ')
  | .rows rs, ρ, s, n, ρ', o => ∃ n' ρ'', n' ≤ n ∧ Run (mvs rs) ρ s n' ρ'' o ∧ (o = true → ρ'' = ρ')
theorem Rn.moved {c : Cmd} {ρ ρ' : Env} {s : List Int} {n : Nat} {b : Bool} (h : Rn c ρ s n ρ' b) : c.Mv ρ s n ρ' b := by
  induction h with
  | bad h => exact ⟨_, _, Nat.le_refl _, by rw [Row.mv]; exact run_one (.bad h), fun _ => rfl⟩
  | lt h => exact ⟨_, _, Nat.le_refl _, by rw [Row.mv]; exact run_one (.lt h), fun _ => rfl⟩
  | say => exact ⟨_, _, Nat.le_refl _, by rw [Row.mv]; exact run_one .say, fun _ => rfl⟩
  | whn0 h => exact ⟨_, _, Nat.le_refl _, by rw [Row.mv]; exact run_one (.whn0 h), fun _ => rfl⟩
  | whn1 h r ih =>
    obtain ⟨n', ρ'', q1, q2, q3⟩ := ih
    exact ⟨n' + 1, ρ'', by omega, by rw [Row.mv]; exact run_one (.whn1 h q2), q3⟩
  | @lop t rs ρ ρ' s n o r ih =>
    obtain ⟨n', ρ'', q1, q2, q3⟩ := ih
    by_cases e : (parts (mvs rs)).1 = []
    · exact ⟨n', ρ'', q1, by rw [Row.mv, if_pos e, parts_none e]; exact run_one (.lop q2), q3⟩
    · have eq : Row.mv (.blk .lop t rs) = [.blk .whn t (ahd [] (mvs rs) ++ [.blk .agn t (stp [] (mvs rs))])] := by rw [Row.mv, if_neg e, parts_eq]
      show ∃ n' ρ'', _ ∧ Run (Row.mv _) _ _ _ _ _ ∧ _
      rw [eq]
      cases q2 with
      | out h => exact ⟨1, _, q1, run_one (.whn0 h), q3⟩
      | lbad h hb =>
        obtain ⟨m, ρ3, w1, w2⟩ := hoist_bad (t := t) hb
        exact ⟨m + 1, ρ3, by omega, run_one (.whn1 h w2), fun e => by cases e⟩
      | more h hb l =>
        obtain ⟨m, w1, w2⟩ := hoist hb l
        exact ⟨m + 1, ρ'', by omega, run_one (.whn1 h w2), q3⟩
  | @agn0 t rs ρ ρ' s n r ih =>
    obtain ⟨n', ρ'', q1, q2, q3⟩ := ih
    obtain ⟨m, ρ3, w1, w2⟩ := hoist_bad (t := t) q2
    exact ⟨m, ρ3, by omega, by rw [Row.mv, parts_eq]; exact w2, fun e => by cases e⟩
  | @agn1 t rs ρ ρ1 ρ' s s2 n n2 o r l ih1 ih2 =>
    obtain ⟨n1, ρ2, q1, q2, q3⟩ := ih1
    have e := q3 rfl
    subst e
    obtain ⟨m2, ρ3, w1, w2, w3⟩ := ih2
    obtain ⟨m, v1, v2⟩ := hoist q2 w2
    exact ⟨m, ρ3, by omega, by rw [Row.mv, parts_eq]; exact v2, w3⟩
  | out h => exact ⟨1, _, Nat.le_refl _, .out h, fun _ => rfl⟩
  | lbad h r ih =>
    obtain ⟨n', ρ'', q1, q2, q3⟩ := ih
    exact ⟨n' + 1, ρ'', by omega, .lbad h q2, q3⟩
  | more h r l ih1 ih2 =>
    obtain ⟨n1, ρ2, q1, q2, q3⟩ := ih1
    have e := q3 rfl
    subst e
    obtain ⟨m2, ρ3, w1, w2, w3⟩ := ih2
    exact ⟨n1 + m2 + 1, ρ3, by omega, .more h q2 w2, w3⟩
  | nil => exact ⟨0, _, Nat.le_refl _, by rw [mvs]; exact .nil, fun _ => rfl⟩
  | rbad r ih =>
    obtain ⟨n', ρ'', q1, q2, q3⟩ := ih
    exact ⟨n', ρ'', q1, by rw [mvs]; exact run_bad q2, q3⟩
  | cons r l ih1 ih2 =>
    obtain ⟨n1, ρ2, q1, q2, q3⟩ := ih1
    have e := q3 rfl
    subst e
    obtain ⟨m2, ρ3, w1, w2, w3⟩ := ih2
    exact ⟨n1 + m2, ρ3, by omega, by rw [mvs]; exact run_join q2 w2, w3⟩
/-- the moved program, told by the steps done here -/
theorem moved_run {rs : List Row} {kvs : List (Key × V)} {m : Nat} {st : Rs} {o : Oc} (h : evs rs ⟨kvs, [], m⟩ = (st, o)) (ho : o ≠ .long) :
    ∃ st2, evs (mvs rs) ⟨kvs, [], m - st.left⟩ = (st2, o) ∧ st2.said = st.said ∧ (o = .done → ∀ s, lookO st2.kvs s = lookO st.kvs s) := by
  obtain ⟨s, n, e1, e2, e3⟩ := rows_sound rs _ _ _ h ho
  obtain ⟨n', ρ'', q1, q2, q3⟩ := e3.moved
  replace e1 : m = st.left + n := e1
  obtain ⟨st2, a1, a2, a3, a4⟩ := q2.comp ⟨kvs, [], m - st.left⟩ rfl (by show n' ≤ m - st.left; omega)
  have eo : ocOf o.ok = o := by cases o <;> first | rfl | exact absurd rfl ho
  rw [eo] at a1
  refine ⟨st2, a1, by rw [a3, e2], fun e x => ?_⟩
  rw [a2, q3 (by rw [e]; rfl)]
section
variable {P : Program} {w : World} {K : PySem.W.Frag} {mg : Str → Option Value} {base : Heap}
theorem NumsIn.nil {ns : List Str} : NumsIn ns [] := ⟨.nil, fun _ h => nomatch h⟩
def spGiven (K : PySem.W.Frag) : Sp := fun vs H Q _ => ∃ (c : Int) (A : Addr) (ns : List Str), vs = [.int c, .ref A] ∧ SqL K H A (ns.map V.str) ∧ ns.length = 16 ∧ ∀ (p : Addr) (H' : Hp) (kvs : List (Key × V)), Same H H' → H p = none → H' p = some (.dK kvs) → NumsIn ns kvs → Q (.ref p) H'
theorem ok_given (T : Txt K mg) : CallOk P w K mg base 2 "_law_given" ["_law_cell", "_law_names_here"] (spGiven K) := by
  have G1 : CallOk P w K mg base 1 "_law_mixed" ["_law_cell", "_law_k"] spMixed := ok_mixed T
  refine go_l_given T.d_l_given (fun vs H Q E h => ?_) ?_
  · obtain ⟨c, A, ns, rfl, _⟩ := h
    rfl
  intro X e1 e2 e3 e4 e5 C sc hr vs H Q E h
  subst e1 e2 e3 e4 e5
  obtain ⟨c, A, ns, rfl, hA, nl, q⟩ := h
  have b1 := T.b_range
  have hu := hu_of hr
  show WSs X _ _ [some (.int c), some (.ref A), none, none, none] H
  refine s_cons ?_
  wtm_at "lm"
  intro d H1 hd1 s1 h1
  wtm_at "lm"
  refine ⟨by decide, by decide, ?_⟩
  refine for_r (fun i σ' H' => ∃ o1 o2 kvs, σ' = [some (.int c), some (.ref A), some (.ref d), o1, o2] ∧ Same H H' ∧ H' d = some (.dK kvs) ∧ NumsIn ns kvs) ⟨none, none, [], rfl, s1, h1, NumsIn.nil⟩ ?_ ?_
  · rintro k σ' H' hk ⟨o1, o2, kvs, rfl, s, hd, N⟩
    replace hk : k < 11 := hk
    refine ⟨_, by wtm_at "lm.put", ?_⟩
    have A' := s.seq hA
    have kl := N.len
    wtm_at "lm"
    refine ⟨_, _, rfl, ?_⟩
    have m0 := mixed_lo c k
    generalize mixed c k = m at m0 ⊢
    obtain ⟨x, hx, ex⟩ := atI_strs (ns := ns) (i := (k : Int)) (by omega) (by omega)
    wtm_at "lms"
    refine s_cut (fun σ2 H2 => ∃ kvs, σ2 = [some (.int c), some (.ref A), some (.ref d), some (.int k), some (.int m)] ∧ Same H H2 ∧ H2 d = some (.dK kvs) ∧ NumsIn ns kvs) ?_ ?_
    · wtm_at "lm"
      refine ite_dec (fun c0 => ?_) (fun c0 => ?_)
      · wtm_at "lm"
        refine i_lst A' ex ?_
        refine p_dS hu hd (szl (by omega)) ?_
        wtm_at "lm"
        exact ⟨_, rfl, Same.mut s hd1, upd_same, N.put hx (by omega) (by omega)⟩
      · wtm_at "lm"
        exact ⟨_, rfl, s, hd, N⟩
    · rintro σ2 H2 ⟨kvs2, rfl, s2, hd2, N2⟩
      have A2 := s2.seq hA
      have kl2 := N2.len
      wtm_at "lm"
      refine ite_dec (fun c0 => ?_) (fun c0 => ?_)
      · wtm_at "lm"
        refine i_lst A2 ex ?_
        refine p_dS hu hd2 (szl (by omega)) ?_
        wtm_at "lm"
        exact ⟨_, _, _, rfl, Same.mut s2 hd1, upd_same, N2.put hx (by omega) (by omega)⟩
      · wtm_at "lm"
        exact ⟨_, _, _, rfl, s2, hd2, N2⟩
  · rintro σ' H' ⟨o1, o2, kvs, rfl, s, hd, N⟩
    wtm_at "lm"
    exact q d H' kvs s hd1 hd N
end
/-! ### two tales compared -/
theorem look_val {ns : List Str} {kvs : List (Key × V)} (h : NumsIn ns kvs) (s : Str) : valV kvs (.inr s) = (lookO kvs s).map V.int := by
  unfold lookO
  cases e : valV kvs (.inr s) with
  | none => rfl
  | some v =>
    unfold valV at e
    obtain ⟨kv, h1, h2⟩ := Option.map_eq_some_iff.mp e
    obtain ⟨s', i, rfl, _, _⟩ := h.2 kv (List.mem_of_find?_eq_some h1)
    subst h2
    rfl
theorem key_in {ns : List Str} {kvs lvs : List (Key × V)} (h1 : NumsIn ns kvs) (h2 : NumsIn ns lvs) (e : ∀ s, lookO kvs s = lookO lvs s) : ∀ k ∈ kvs.map (·.1), k ∈ lvs.map (·.1) := fun k hk => by
  obtain ⟨kv, a1, rfl⟩ := List.mem_map.mp hk
  obtain ⟨s, i, rfl, _, _⟩ := h1.2 kv a1
  cases v : valV lvs (.inr s) with
  | some u => exact Classical.byContradiction fun n => by rw [valV_none_iff.mpr n] at v; cases v
  | none =>
    rw [look_val h2, ← e, ← look_val h1] at v
    exact absurd hk (valV_none_iff.mp v)
theorem same_len {ns : List Str} {kvs lvs : List (Key × V)} (h1 : NumsIn ns kvs) (h2 : NumsIn ns lvs) (e : ∀ s, lookO kvs s = lookO lvs s) : kvs.length = lvs.length := by
  have a := List.Nodup.length_le_of_subset h1.1 (key_in h1 h2 e)
  have b := List.Nodup.length_le_of_subset h2.1 (key_in h2 h1 fun s => (e s).symm)
  rw [List.length_map, List.length_map] at a b
  omega
theorem find_self : ∀ {kvs : List (Key × V)}, (kvs.map (·.1)).Nodup → ∀ kv ∈ kvs, valV kvs kv.1 = some kv.2
  | [], _, kv, h => nomatch h
  | p :: r, nd, kv, h => by
    rw [List.map_cons, List.nodup_cons] at nd
    rcases List.mem_cons.mp h with rfl | h
    · exact valV_pos rfl
    · rw [valV_skip fun e => nd.1 (e ▸ List.mem_map.mpr ⟨kv, h, rfl⟩)]
      exact find_self nd.2 kv h
theorem same_hits {ns : List Str} {kvs lvs : List (Key × V)} (h1 : NumsIn ns kvs) (h2 : NumsIn ns lvs) (e : ∀ s, lookO kvs s = lookO lvs s) : ∀ kv ∈ kvs, flatV kv.2 = true ∧ ∃ u, valV lvs kv.1 = some u ∧ flatV u = true ∧ eqV kv.2 u = true := fun kv hk => by
  have a := find_self h1.1 kv hk
  obtain ⟨s, i, rfl, _, _⟩ := h1.2 kv hk
  rw [look_val h1, e, ← look_val h2] at a
  exact ⟨rfl, .int i, a, rfl, by show (i == i) = true; exact beq_self_eq_true i⟩
theorem ints_dp {K : PySem.W.Frag} {H : Hp} {a : Addr} {ys : List Int} (h : SqL K H a (ys.map V.int)) : Dp K H (.ref a) (.list (ys.map .int)) := by
  refine .lst h ?_
  clear h
  induction ys with
  | nil => exact .nil
  | cons y r ih => exact .cons (.int y) ih
theorem ints_eqv : ∀ ys : List Int, PyData.eqv (.list (ys.map .int)) (.list (ys.map .int)) = true := fun ys => SeqAt.eqv_refl _ (by
  show PyData.canLayAll0 _ = true
  induction ys with
  | nil => rfl
  | cons y r ih => rw [List.map_cons, PyData.canLayAll0, ih]; rfl)
/-! ### a loop done so many times: what the rows ahead save -/
def Flat (rs : List Row) : Prop := ∀ r ∈ rs, r.dep = 0
theorem Flat.tail {r : Row} {rs : List Row} (h : Flat (r :: rs)) : Flat rs := fun q hq => h q (List.mem_cons_of_mem _ hq)
theorem not_flat {kd : Kd} {t : Str} {rs : List Row} (h : (Row.blk kd t rs).dep = 0) : False := by
  rw [Row.dep] at h
  omega
theorem flat_run : ∀ {rs : List Row}, Flat rs → ∀ ρ : Env, ∃ s n ρ' o, Run rs ρ s n ρ' o ∧ n ≤ rs.length
  | [], _, ρ => ⟨[], 0, ρ, true, .nil, Nat.le_refl _⟩
  | .lt to sg x y :: rs, h, ρ => by
    by_cases c : sg = .div ∧ ρ.val y = 0
    · exact ⟨[], 1, ρ, false, .rbad (.bad c), by rw [List.length_cons]; omega⟩
    · obtain ⟨s, n, ρ', o, q, hn⟩ := flat_run h.tail (ρ.put to (came sg (ρ.val x) (ρ.val y)))
      exact ⟨[] ++ s, 1 + n, ρ', o, .cons (.lt c) q, by rw [List.length_cons]; omega⟩
  | .say x :: rs, h, ρ => by
    obtain ⟨s, n, ρ', o, q, hn⟩ := flat_run h.tail ρ
    exact ⟨[ρ.val x] ++ s, 1 + n, ρ', o, .cons .say q, by rw [List.length_cons]; omega⟩
  | .blk kd t ss :: rs, h, ρ => (not_flat (h _ List.mem_cons_self)).elim
theorem flat_steps : ∀ {rs : List Row} {ρ ρ' : Env} {s : List Int} {n : Nat}, Flat rs → Run rs ρ s n ρ' true → n = rs.length
  | [], ρ, ρ', s, n, _, h => by
    cases h
    rfl
  | r :: rs, ρ, ρ', s, n, hf, h => by
    cases h with
    | @cons _ _ _ ρ1 _ s1 s2 n1 n2 _ h1 l =>
      have e := flat_steps hf.tail l
      have hd := hf r List.mem_cons_self
      have e1 : n1 = 1 := by
        cases r with
        | lt to sg x y =>
          cases h1
          rfl
        | say x =>
          cases h1
          rfl
        | blk kd t ss => exact (not_flat hd).elim
      rw [List.length_cons]
      omega
theorem dec_val {R : List Row} {t : Str} {ρ ρ' : Env} {s : List Int} {n : Nat} (ht : (.inr t : Key) ∉ sts R) (h : Run (R ++ [.lt t .sub (.inr t) (.inl 1)]) ρ s n ρ' true) : ρ'.val (.inr t) = (ρ.val (.inr t) - 1) % 1000000 := by
  rcases run_split h with ⟨e, _⟩ | ⟨ρa, sa, na, sb, nb, k1, k2, _, _⟩
  · cases e
  · have e1 : ρa.val (.inr t) = ρ.val (.inr t) := Rn.keepV k1 ht
    have e2 : ρ' = ρa.put t (came .sub (ρa.val (.inr t)) (ρa.val (.inl 1))) := by
      cases k2 with
      | @cons _ _ _ ρ1 _ s1 s2 n1 n2 _ h1 l =>
        cases l
        cases h1
        rfl
    rw [← e1, e2]
    show ((ρa.put t _) t).getD 0 = _
    rw [put_same]
    rfl
section
variable {B : List Row} {t : Str}
theorem loop_steps (hf : Flat B) (hd : ∀ {ρ ρ' : Env} {s : List Int} {n : Nat}, Run B ρ s n ρ' true → ρ'.val (.inr t) = (ρ.val (.inr t) - 1) % 1000000) : ∀ (k : Nat), k ≤ 999999 → ∀ {ρ ρ' : Env} {s : List Int} {n : Nat}, ρ.val (.inr t) = k → Loop B t ρ s n ρ' true → n = k * (B.length + 1) + 1
  | 0, _, ρ, ρ', s, n, e, h => by
    cases h with
    | out _ => omega
    | more c _ _ => exact absurd e c
  | k + 1, hk, ρ, ρ', s, n, e, h => by
    cases h with
    | out c => rw [c] at e; omega
    | @more _ _ _ ρ1 _ s1 s2 n1 n2 _ c r l =>
      have e1 := flat_steps hf r
      have e2 := hd r
      rw [e] at e2
      have e3 := loop_steps hf hd k (by omega) (by rw [e2]; omega) l
      rw [e1, e3, Nat.succ_mul]
      omega
theorem loop_exists (hf : Flat B) (hd : ∀ {ρ ρ' : Env} {s : List Int} {n : Nat}, Run B ρ s n ρ' true → ρ'.val (.inr t) = (ρ.val (.inr t) - 1) % 1000000) : ∀ (k : Nat), k ≤ 999999 → ∀ {ρ : Env}, ρ.val (.inr t) = k → ∃ s n ρ' o, Loop B t ρ s n ρ' o ∧ n ≤ k * (B.length + 1) + 1
  | 0, _, ρ, e => ⟨[], 1, ρ, true, .out e, by omega⟩
  | k + 1, hk, ρ, e => by
    have c : ¬ ρ.val (.inr t) = 0 := by rw [e]; omega
    obtain ⟨s, n, ρ1, o, r, hn⟩ := flat_run hf ρ
    have em : (k + 1) * (B.length + 1) = k * (B.length + 1) + (B.length + 1) := Nat.succ_mul _ _
    cases o with
    | false => exact ⟨s, n + 1, ρ1, false, .lbad c r, by omega⟩
    | true =>
      have e2 := hd r
      rw [e] at e2
      obtain ⟨s2, n2, ρ', o, l, h2⟩ := loop_exists hf hd k (by omega) (ρ := ρ1) (by rw [e2]; omega)
      exact ⟨s ++ s2, n + n2 + 1, ρ', o, .more c r l, by omega⟩
theorem later_exact (hf : Flat B) : ∀ (n : Nat) {ρ ρ' : Env} {s : List Int}, Loop B t ρ s n ρ' true → Stable (ahd [] B) ρ → ∃ n' k, Loop (stp [] B) t ρ s n' ρ' true ∧ n = k * (B.length + 1) + 1 ∧ n' + k * (ahd [] B).length = n := by
  intro n
  induction n using Nat.strongRecOn with
  | ind n ih =>
    intro ρ ρ' s h S
    cases h with
    | out h => exact ⟨1, 0, .out h, by omega, by omega⟩
    | @more _ _ _ ρ1 _ s1 s2 n1 n2 _ h r l =>
      have e1 := flat_steps hf r
      obtain ⟨n', q1, q2, q3⟩ := later_round B [] r S
      have q3 := q3 rfl
      have S1 : Stable (ahd [] B) ρ1 := S.keep q2 ahd_keys
      obtain ⟨m', k, w1, w2, w3⟩ := ih n2 (by omega) l S1
      have em : (k + 1) * (B.length + 1) = k * (B.length + 1) + (B.length + 1) := Nat.succ_mul _ _
      have em2 : (k + 1) * (ahd [] B).length = k * (ahd [] B).length + (ahd [] B).length := Nat.succ_mul _ _
      exact ⟨n' + m' + 1, k + 1, .more h q2 w1, by omega, by omega⟩
theorem hoist_exact (hf : Flat B) {ρ ρ1 ρ' : Env} {s s2 : List Int} {n n2 : Nat} (h : Run B ρ s n ρ1 true) (l : Loop B t ρ1 s2 n2 ρ' true) : ∃ n' k, Run (ahd [] B ++ [.blk .agn t (stp [] B)]) ρ (s ++ s2) n' ρ' true ∧ n2 = k * (B.length + 1) + 1 ∧ n' + k * (ahd [] B).length = n + n2 := by
  obtain ⟨m, ρ2, q1, q2, q3⟩ := first_round B [] h
  obtain ⟨rfl, rfl⟩ := q3 rfl
  rcases run_split q2 with ⟨e, _⟩ | ⟨ρa, sa, na, sb, nb, k1, k2, e1, e2⟩
  · cases e
  · subst e1 e2
    have S1 : Stable (ahd [] B) ρ2 := (ahd_stable B [] k1).keep k2 ahd_keys
    obtain ⟨m', k, w1, w2, w3⟩ := later_exact hf n2 l S1
    refine ⟨na + (nb + m'), k, ?_, w2, by omega⟩
    rw [List.append_assoc]
    exact run_join k1 (run_one (.agn1 k2 w1))
/-- the two programs of the law -/
theorem saves (hf : Flat B) (hd : ∀ {ρ ρ' : Env} {s : List Int} {n : Nat}, Run B ρ s n ρ' true → ρ'.val (.inr t) = (ρ.val (.inr t) - 1) % 1000000) (hB : B.length ≤ 40) {r : Nat} (hr : r ≤ 6) (kvs : List (Key × V)) :
    ∃ st1 st2 o, evs [.lt t .add (.inl r) (.inl 0), .blk .whn t [.blk .agn t B]] ⟨kvs, [], 100000⟩ = (st1, o) ∧ evs [.lt t .add (.inl r) (.inl 0), .blk .whn t (ahd [] B ++ [.blk .agn t (stp [] B)])] ⟨kvs, [], 100000⟩ = (st2, o) ∧ st2.said = st1.said ∧ st1.left ≤ st2.left ∧ st2.left ≤ 100000 ∧
      (o = .done → (∀ s, lookO st2.kvs s = lookO st1.kvs s) ∧ st2.left = st1.left + (ahd [] B).length * (r - 1)) := by
  have one : ∀ R : Env → List Int → Nat → Env → Bool → Prop, ∀ {X : List Row}, True := fun _ _ => trivial
  have head : ∀ {X : List Row} {ρ' : Env} {s : List Int} {n : Nat} {o : Bool}, Run1 (.blk .whn t X) ((lookO kvs).put t r) s n ρ' o → Run [.lt t .add (.inl r) (.inl 0), .blk .whn t X] (lookO kvs) s (1 + n) ρ' o := fun {X ρ' s n o} h => by
    have e : (came .add ((lookO kvs).val (.inl r)) ((lookO kvs).val (.inl 0))) = (r : Int) := by
      show ((r : Int) + 0) % 1000000 = r
      omega
    have l : Run1 (.lt t .add (.inl r) (.inl 0)) (lookO kvs) [] 1 ((lookO kvs).put t r) true := by
      have := Rn.lt (to := t) (sg := .add) (x := .inl (r : Int)) (y := .inl 0) (ρ := lookO kvs) (fun z => nomatch z.1)
      rw [e] at this
      exact this
    exact .cons l (run_one h)
  have key : ∀ {X1 X2 : List Row} {ρ1 ρ2 : Env} {s : List Int} {n1 n2 : Nat} {o : Bool}, Run [.lt t .add (.inl r) (.inl 0), .blk .whn t X1] (lookO kvs) s n1 ρ1 o → Run [.lt t .add (.inl r) (.inl 0), .blk .whn t X2] (lookO kvs) s n2 ρ2 o → n1 ≤ 100000 → n2 ≤ n1 → (o = true → ρ2 = ρ1) → ∀ d, (o = true → n2 + d = n1) →
      ∃ st1 st2 o', evs [.lt t .add (.inl r) (.inl 0), .blk .whn t X1] ⟨kvs, [], 100000⟩ = (st1, o') ∧ evs [.lt t .add (.inl r) (.inl 0), .blk .whn t X2] ⟨kvs, [], 100000⟩ = (st2, o') ∧ st2.said = st1.said ∧ st1.left ≤ st2.left ∧ st2.left ≤ 100000 ∧ (o' = .done → (∀ s, lookO st2.kvs s = lookO st1.kvs s) ∧ st2.left = st1.left + d) := fun {X1 X2 ρ1 ρ2 s n1 n2 o} h1 h2 l1 l2 he d hdd => by
    obtain ⟨st1, a1, a2, a3, a4⟩ := h1.comp ⟨kvs, [], 100000⟩ rfl l1
    obtain ⟨st2, b1, b2, b3, b4⟩ := h2.comp ⟨kvs, [], 100000⟩ rfl (Nat.le_trans l2 l1)
    replace a4 : st1.left + n1 = 100000 := a4
    replace b4 : st2.left + n2 = 100000 := b4
    refine ⟨st1, st2, ocOf o, a1, b1, by rw [a3, b3], by omega, by omega, fun e => ?_⟩
    have eo : o = true := by cases o with | true => rfl | false => cases e
    have := hdd eo
    refine ⟨fun x => ?_, by omega⟩
    rw [a2, b2, he eo]
  have v0 : ((lookO kvs).put t r).val (.inr t) = (r : Int) := by
    show (((lookO kvs).put t r) t).getD 0 = _
    rw [put_same]
    rfl
  obtain rfl | ⟨r', rfl⟩ : r = 0 ∨ ∃ r', r = r' + 1 := by
    rcases r with _ | r
    · exact .inl rfl
    · exact .inr ⟨r, rfl⟩
  · exact key (head (.whn0 v0)) (head (.whn0 v0)) (by decide) (Nat.le_refl _) (fun _ => rfl) _ (fun _ => by omega)
  have c0 : ¬ ((lookO kvs).put t ((r' + 1 : Nat) : Int)).val (.inr t) = 0 := by
    rw [v0]
    omega
  obtain ⟨s, n, ρ1, o, R, hn⟩ := flat_run hf ((lookO kvs).put t ((r' + 1 : Nat) : Int))
  cases o with
  | false =>
    obtain ⟨n', ρ2, q1, q2⟩ := hoist_bad (t := t) R
    exact key (head (.whn1 c0 (run_one (.agn0 R)))) (head (.whn1 c0 q2)) (by omega) (by omega) (fun e => nomatch e) 0 (fun e => nomatch e) |>.imp fun st1 h => h.imp fun st2 h => h.imp fun o h => ⟨h.1, h.2.1, h.2.2.1, h.2.2.2.1, h.2.2.2.2.1, fun e => by
      subst e
      exfalso
      obtain ⟨st', a1, _⟩ := (head (.whn1 c0 (run_one (.agn0 R)))).comp ⟨kvs, [], 100000⟩ rfl (by show 1 + (n + 1) ≤ 100000; omega)
      have := h.1.symm.trans a1
      cases this⟩
  | true =>
    have e2 := hd R
    rw [v0] at e2
    obtain ⟨s2, n2, ρ', o, l, h2⟩ := loop_exists hf hd r' (by omega) (ρ := ρ1) (by rw [e2]; omega)
    have hb : r' * (B.length + 1) ≤ 6 * 41 := Nat.mul_le_mul (by omega) (by omega)
    cases o with
    | false =>
      obtain ⟨n', q1, q2⟩ := hoist R l
      exact key (head (.whn1 c0 (run_one (.agn1 R l)))) (head (.whn1 c0 q2)) (by omega) (by omega) (fun e => nomatch e) 0 (fun e => nomatch e) |>.imp fun st1 h => h.imp fun st2 h => h.imp fun o h => ⟨h.1, h.2.1, h.2.2.1, h.2.2.2.1, h.2.2.2.2.1, fun e => by
        subst e
        exfalso
        obtain ⟨st', a1, _⟩ := (head (.whn1 c0 (run_one (.agn1 R l)))).comp ⟨kvs, [], 100000⟩ rfl (by show 1 + (n + n2 + 1) ≤ 100000; omega)
        have := h.1.symm.trans a1
        cases this⟩
    | true =>
      obtain ⟨n', k, q1, q2, q3⟩ := hoist_exact hf R l
      have e3 := loop_steps hf hd r' (by omega) (by rw [e2]; omega) l
      have ek : k = r' := by
        have : k * (B.length + 1) = r' * (B.length + 1) := by omega
        exact Nat.eq_of_mul_eq_mul_right (by omega) this
      subst ek
      have ec : (ahd [] B).length * (k + 1 - 1) = k * (ahd [] B).length := by rw [Nat.add_sub_cancel, Nat.mul_comm]
      rw [ec]
      exact key (head (.whn1 c0 (run_one (.agn1 R l)))) (head (.whn1 c0 q1)) (by omega) (by omega) (fun _ => rfl) _ (fun _ => by omega)
end
/-! ### the law: one loop saves -/
theorem atI_at {ns : List Str} {i : Int} (h0 : 0 ≤ i) (h : i < ns.length) : ∃ s, ns[i.toNat]? = some s ∧ s ∈ ns ∧ atI (ns.map V.str) i = some (.str s) := by
  obtain ⟨k, rfl⟩ : ∃ k : Nat, i = k := ⟨i.toNat, by omega⟩
  have hk : k < ns.length := by omega
  refine ⟨ns[k], by rw [Int.toNat_natCast, List.getElem?_eq_getElem hk], List.getElem_mem hk, atI_nat ?_⟩
  rw [List.getElem?_map, List.getElem?_eq_getElem hk]
  rfl
theorem nd_un {α : Type} {l : List α} (h : l.Nodup) {i j : Nat} {x y : α} (hi : l[i]? = some x) (hj : l[j]? = some y) (n : i ≠ j) : x ≠ y := fun e => by
  obtain ⟨h1, e1⟩ := List.getElem?_eq_some_iff.mp hi
  obtain ⟨h2, e2⟩ := List.getElem?_eq_some_iff.mp hj
  rw [List.Nodup, List.pairwise_iff_getElem] at h
  rcases Nat.lt_or_gt_of_ne n with g | g
  · exact h i j h1 h2 g (e1.trans (e.trans e2.symm))
  · exact h j i h2 h1 g (e2.trans (e.symm.trans e1.symm))
def zz (k : Nat) : Str := tx [97 + k, 122, 122]
theorem zz_at {k : Nat} (h : k < 25) : atI ("abcdefghijklmnopqrstuvwxy" : Str).cps.toList (k : Int) = some (97 + k) := by
  refine atI_nat ?_
  have : ∀ i : Fin 25, ("abcdefghijklmnopqrstuvwxy" : Str).cps.toList[i.val]? = some (97 + i.val) := by decide +kernel
  exact this ⟨k, h⟩
theorem zz_cat (k : Nat) : (⟨#[97 + k]⟩ : Str) ++ ("zz" : Str) = zz k := by
  have e1 : (⟨#[97 + k]⟩ : Str) = tx [97 + k] := rfl
  have e2 : ("zz" : Str) = tx [122, 122] := by decide +kernel
  rw [e1, e2, tx_append]
  rfl
theorem KeyOk.wide {ns ms : List Str} (h : ∀ s ∈ ns, s ∈ ms) : ∀ {k : Key}, KeyOk ns k → KeyOk ms k
  | .inl _, q => q
  | .inr s, q => h s q
theorem NumsIn.wide {ns ms : List Str} (h : ∀ s ∈ ns, s ∈ ms) {kvs : List (Key × V)} (N : NumsIn ns kvs) : NumsIn ms kvs := ⟨N.1, fun kv hk => by obtain ⟨s, i, e, h1, h2⟩ := N.2 kv hk; exact ⟨s, i, e, h s h1, h2⟩⟩
theorem Flat.deps : ∀ {rs : List Row}, Flat rs → deps rs = 0
  | [], _ => by rw [LM.deps]
  | r :: rs, h => by rw [LM.deps, h r List.mem_cons_self, Flat.deps h.tail]; rfl
theorem Flat.cnts : ∀ {rs : List Row}, Flat rs → cnts rs = rs.length
  | [], _ => by rw [LM.cnts]; rfl
  | r :: rs, h => by
    have e : r.cnt = 1 := by
      cases r with
      | lt _ _ _ _ => rw [Row.cnt]
      | say _ => rw [Row.cnt]
      | blk _ _ _ => exact (not_flat (h _ List.mem_cons_self)).elim
    rw [LM.cnts, e, Flat.cnts h.tail, List.length_cons, Nat.add_comm]
theorem Flat.app {rs ss : List Row} (h : Flat rs) (k : Flat ss) : Flat (rs ++ ss) := fun q hq => (List.mem_append.mp hq).elim (h q) (k q)
theorem parts_len {B : List Row} (h : Flat B) : (ahd [] B).length + (stp [] B).length = B.length := by
  have e := parts_cnts B
  rw [parts_eq] at e
  replace e : LM.cnts (ahd [] B) + LM.cnts (stp [] B) = LM.cnts B := e
  have h1 : Flat (ahd [] B) := fun q hq => h q (ahd_mem B [] hq)
  have h2 : Flat (stp [] B) := fun q hq => h q (stp_mem B [] hq)
  rw [h.cnts] at e
  have e1 := h1.cnts
  have e2 := h2.cnts
  omega
section
variable {P : Program} {w : World} {K : PySem.W.Frag} {mg : Str → Option Value} {base : Heap}
def spLet8 (K : PySem.W.Frag) : Sp := fun vs H Q _ => ∃ (n : Int) (a : Addr) (ns : List Str), vs = [.int n, .ref a] ∧ SqL K H a (ns.map V.str) ∧ ns.length = 16 ∧
  ∀ (t : Addr) (H' : Hp) (to : Str) (i : Nat) (sg : Sg) (x y : Key), Same H H' → H' t = some (.tup [.str "let", .str to, .str sg.nm, kV x, kV y]) → i < 8 → ns[i]? = some to → to ∈ ns → KeyOk ns x → KeyOk ns y → Q (.ref t) H'
theorem ok_let8 (T : Txt K mg) : CallOk P w K mg base 2 "_law_let" ["_law_number", "_law_names_here"] (spLet8 K) := by
  have GV : CallOk P w K mg base 1 "_law_value" ["_law_kind", "_law_number", "_law_names_here"] (spValue K) := ok_value T
  refine go_l_let T.d_l_let (fun vs H Q E h => ?_) ?_
  · obtain ⟨n, a, ns, rfl, _⟩ := h
    rfl
  intro X e1 e2 e3 e4 e5 C sc hr vs H Q E h
  subst e1 e2 e3 e4 e5
  obtain ⟨n, a, ns, rfl, hS, hl, q⟩ := h
  show WSs X _ _ [some (.int n), some (.ref a), none, none] H
  refine s_cons ?_
  wtm_at "lm"
  refine ⟨_, _, a, ns, rfl, by omega, hS, hl, by omega, fun x hx => ?_⟩
  wtm_at "lm"
  refine ⟨_, _, a, ns, rfl, by omega, hS, hl, by omega, fun y hy => ?_⟩
  wtm_at "lm"
  obtain ⟨to, hi, ht, e⟩ := atI_at (ns := ns) (i := n % 8) (by omega) (by omega)
  refine i_lst hS e ?_
  wtm_at "lm"
  obtain ⟨sg, c, e1, e2⟩ := sg_of (n / 8 % 5) (by omega) (by omega)
  refine i_str (by decide +kernel) e1 ?_
  wtm_at "lm"
  intro t H' hn s h
  rw [e2] at h
  exact q t H' to _ sg x y s h (by omega) hi ht hx hy
def spLaw (K : PySem.W.Frag) : Sp := fun vs H Q _ => ∃ (a : Addr) (ns : List Int), vs = [.ref a] ∧ SqL K H a (ns.map V.int) ∧ ns.length ≤ 63 ∧ ∀ H', Q (.bl true) H'
theorem ok_law {f : Addr} {fd : FuncData} (F : Fun K "law" "law" s_law f fd) (T : Txt K mg) : FnOk P w K mg base CX0 150 f fd ["_law_script"] (spLaw K) := by
  have G1 : CallOk P w K mg base 1 "_law_cell_at" ["_law_script", "_law_k"] (spCellAt K) := ok_cell_at T
  have G2 : CallOk P w K mg base 1 "_law_mixed" ["_law_cell", "_law_k"] spMixed := ok_mixed T
  have G3 : CallOk P w K mg base 1 "_law_names" ["_law_cell"] spNames := ok_names T
  have G4 : CallOk P w K mg base 1 "_law_value" ["_law_kind", "_law_number", "_law_names_here"] (spValue K) := ok_value T
  have G5 : CallOk P w K mg base 2 "_law_let" ["_law_number", "_law_names_here"] (spLet8 K) := ok_let8 T
  have G8 : CallOk P w K mg base (0 + 1) "_law_copied" ["_law_rows"] (spCopied 0) := ok_copied T 0
  have G9 : CallOk P w K mg base 2 "_law_given" ["_law_cell", "_law_names_here"] (spGiven K) := ok_given T
  have G10 : CallOk P w K mg base (0 + 4 + 1) "parted" ["body"] (spParted 0) := ok_parted T 0
  have G11 : CallOk P w K mg base (2 * 0 + 4) "_law_sound" ["_law_rows"] (spSound 0) := ok_sound T 0
  have G12 : CallOk P w K mg base (2 * 2 + 6) "_law_tale" ["_law_rows", "_law_given_here", "_law_most"] (spTale 2) := ok_tale T 2
  refine go_law F (fun vs H Q E h => ?_) ?_
  · obtain ⟨a, ns, rfl, _⟩ := h
    rfl
  intro X e1 e2 e3 e4 e5 C sc hr vs H Q E h
  subst e1 e2 e3 e4 e5
  obtain ⟨a, ns, rfl, hS, hl, q⟩ := h
  show WSs X _ _ [some (.ref a), none, none, none, none, none, none, none, none, none, none, none] H
  have hu := hu_of hr
  have b1 := T.b_isinstance
  have b3 := T.b_range
  have b6 := T.b_max
  have b6' := T.b_min
  have b7 := T.b_tuple
  have b8 := T.b_len
  refine s_cons ?_
  wtm_at "lm"
  refine ⟨a, ns, 0, rfl, hS, ?_⟩
  wtm_at "lm"
  refine ⟨_, rfl, fun A H1 nm s1 hA1 h1 nl nok nk => ?_⟩
  have hS1 := s1.seq hS
  wtm_at "lm"
  refine ⟨a, ns, 1, rfl, hS1, ?_⟩
  wtm_at "lm"
  refine ⟨_, A, nm, rfl, SqL.of h1, nl, fun g H4 kvs s4 hg4 h4 N4 => ?_⟩
  have hS4 := s4.seq hS1
  have h14 := s4 _ _ h1
  wtm_at "lm"
  refine ⟨a, ns, 2, rfl, hS4, ?_⟩
  wtm_at "lm"
  obtain ⟨r, er, hr6⟩ : ∃ r : Nat, ns.getD 2 0 % 7 = (r : Int) ∧ r ≤ 6 := ⟨(ns.getD 2 0 % 7).toNat, by omega, by omega⟩
  rw [er]
  intro D H5 hD5 s5 h5
  have hS5 := s5.seq hS4
  have h15 := s5 _ _ h14
  obtain ⟨t, it, mt, et⟩ := atI_at (ns := nm) (i := 15) (by omega) (by omega)
  replace it : nm[15]? = some t := it
  obtain ⟨ms, ems⟩ : ∃ ms, ms = nm ++ (List.range 25).map zz := ⟨_, rfl⟩
  have wid : ∀ s ∈ nm, s ∈ ms := fun s hs => by rw [ems]; exact List.mem_append_left _ hs
  have mz : ∀ k, k < 25 → zz k ∈ ms := fun k hk => by rw [ems]; exact List.mem_append_right _ (List.mem_map.mpr ⟨k, List.mem_range.mpr hk, rfl⟩)
  have ml : ms.length = 41 := by rw [ems, List.length_append, nl, List.length_map, List.length_range]
  have zt : ∀ k, zz k ≠ t := fun k e => nk.zz (97 + k) (by rw [it, ← e]; rfl)
  clear ems
  wtm_at "lms"
  -- the body but its last row
  refine s_cut (fun σ' H' => ∃ (o5 o6 o7 : Option V) (vs : List V) (rs : List Row), σ' = [some (.ref a), some (.ref A), some (.ref g), some (.int r), some (.ref D), o5, o6, o7, none, none, none, none] ∧ Same H4 H' ∧ H' D = some (.lst vs) ∧ AllIn H' vs rs [] ∧ Flat rs ∧ RowsOk ms rs ∧ (.inr t : Key) ∉ sts rs ∧ rs.length ≤ 30) ?_ ?_
  · wtm_at "lm"
    refine l_lst hS5 fun s H6 hs6 s6 h6 => ?_
    rw [show cutV (ns.map V.int) (some 3) none = (ns.drop 3).map V.int from drop_ints ns 3] at h6
    wtm_at "lm"
    obtain ⟨n, en, hn⟩ : ∃ n : Nat, (if ((((ns.drop 3).map V.int).length : Nat) : Int) < 30 then ((((ns.drop 3).map V.int).length : Nat) : Int) else 30) = (n : Int) ∧ n ≤ 30 ∧ n ≤ (ns.drop 3).length := by
      rw [List.length_map]
      split
      · exact ⟨_, rfl, by omega, Nat.le_refl _⟩
      · exact ⟨30, rfl, by omega, by omega⟩
    rw [en]
    refine ⟨by omega, by omega, ?_⟩
    rw [Int.toNat_natCast]
    refine for_r (n := n) (fun i σ' H' => ∃ (o5 o6 o7 : Option V) (vs : List V) (rs : List Row), σ' = [some (.ref a), some (.ref A), some (.ref g), some (.int r), some (.ref D), o5, o6, o7, none, none, none, none] ∧ Same H4 H' ∧ H' D = some (.lst vs) ∧ AllIn H' vs rs [] ∧ Flat rs ∧ RowsOk ms rs ∧ (.inr t : Key) ∉ sts rs ∧ rs.length = i) ⟨none, none, none, [], [], rfl, s5.trans s6, s6 _ _ h5, .nil, (fun _ h => nomatch h), by rw [RowsOk]; trivial, by rw [sts]; exact List.not_mem_nil, rfl⟩ ?_ ?_
    · rintro k σ' H' hk ⟨o5, o6, o7, us, rs, rfl, s, hD, hA, fl, ok, nt, le⟩
      refine ⟨_, by wtm_at "lm.put", ?_⟩
      have hS' := s.seq hS4
      have h1' := s _ _ h14
      wtm_at "lm"
      rw [show (3 : Int) + (k : Int) = ((3 + k : Nat) : Int) by omega]
      refine i_lst hS' (atI_map (by rw [List.length_drop] at hn; omega)) ?_
      wtm_at "lm"
      refine ⟨_, _, rfl, ?_⟩
      have m0 := mixed_lo (ns.getD (3 + k) 0) k
      generalize mixed (ns.getD (3 + k) 0) k = m at m0 ⊢
      wtm_at "lm"
      refine ⟨_, A, nm, rfl, SqL.of h1', nl, fun t0 H7 to i sg x y s7 h7 hi8 hit hto hx hy => ?_⟩
      have tot : to ≠ t := nd_un nk.nd hit it (by omega)
      have hD7 := s7 _ _ hD
      have hA7 := hA.mono s7
      have h17 := s7 _ _ h1'
      have s47 := s.trans s7
      wtm_at "lms"
      -- a name of its own
      refine s_cut (fun σ' H' => ∃ (t1 : Addr) (to1 : Str), σ' = [some (.ref a), some (.ref A), some (.ref g), some (.int r), some (.ref D), some (.int k), some (.int m), some (.ref t1), none, none, none, none] ∧ Same H7 H' ∧ H' t1 = some (.tup [.str "let", .str to1, .str sg.nm, kV x, kV y]) ∧ to1 ∈ ms ∧ to1 ≠ t) ?_ ?_
      · refine s_if ?_
        refine WT.mono (Q := fun b H1 => H1 = H7 ∧ (b = true → k < 25)) ?_ ?_
        · wtm_at "lm"
          refine ite_dec (fun c => ?_) (fun c => ?_)
          · wtm_at "lm"
            exact ⟨rfl, fun e => by have := of_decide_eq_true e; omega⟩
          · exact ⟨rfl, fun e => nomatch e⟩
        · rintro b _ ⟨rfl, hb⟩
          cases b with
          | true =>
            have k25 := hb rfl
            wtm_at "lm"
            refine i_str (by decide +kernel) (zz_at k25) ?_
            wtm_at "lm"
            refine b_adds (by rw [show ("zz" : Str).length = 2 by decide +kernel]; show 1 + 2 ≤ sizeLine; exact sz (by decide)) ?_
            rw [zz_cat]
            wtm_at "lm"
            intro t1 H8 ht1 s8 h8
            wtm_at "lm"
            exact ⟨t1, zz k, rfl, s8, h8, mz k k25, zt k⟩
          | false =>
            wtm_at "lm"
            exact ⟨t0, to, rfl, Same.refl _, h7, wid _ hto, tot⟩
      rintro σ' H8 ⟨t1, to1, rfl, s8, h8, mto1, to1t⟩
      have hD8 := s8 _ _ hD7
      have hA8 := hA7.mono s8
      have h18 := s8 _ _ h17
      have s48 := s47.trans s8
      refine s_cut (fun σ' H' => ∃ (t2 : Addr) (r2 : Row), σ' = [some (.ref a), some (.ref A), some (.ref g), some (.int r), some (.ref D), some (.int k), some (.int m), some (.ref t2), none, none, none, none] ∧ Same H8 H' ∧ RowIn H' (.ref t2) r2 [] ∧ r2.dep = 0 ∧ RowOk ms r2 ∧ (.inr t : Key) ∉ r2.st) ?_ ?_
      · wtm_at "lm"
        refine ite_dec (fun c => ?_) (fun c => ?_)
        · wtm_at "lm"
          refine ⟨_, _, A, nm, rfl, by omega, SqL.of h18, nl, by omega, fun z hz => ?_⟩
          wtm_at "lm"
          intro t2 H9 ht2 s9 h9
          wtm_at "lm"
          exact ⟨t2, .say z, rfl, s9, .say h9, rfl, by rw [RowOk]; exact hz.wide wid, by rw [Row.st]; exact List.not_mem_nil⟩
        · wtm_at "lm"
          refine ⟨t1, .lt to1 sg x y, rfl, Same.refl _, .lt h8, rfl, by rw [RowOk]; exact ⟨mto1, hx.wide wid, hy.wide wid⟩, ?_⟩
          rw [Row.st, List.mem_singleton]
          exact fun e => to1t (Sum.inr.inj e).symm
      rintro σ' H9 ⟨t2, r2, rfl, s9, hr2, d2, ok2, nt2⟩
      have hD9 := s9 _ _ hD8
      have hA9 := hA8.mono s9
      have s49 := s48.trans s9
      have ll := hA.len
      wtm_at "lm"
      refine x_app hD9 (by omega) ?_
      wtm_at "lm"
      have hsn := hA9.snoc hr2
      rw [List.append_nil] at hsn
      refine ⟨_, _, _, us ++ [.ref t2], rs ++ [r2], rfl, Same.mut s49 hD5, upd_same, hsn.keep (Kept.upd hD9 List.not_mem_nil), fl.app (fun q hq => by rw [List.mem_singleton.mp hq]; exact d2), RowsOk_append ok (RowsOk_one ok2), ?_, by rw [List.length_append, le]; rfl⟩
      rw [sts_append, sts_one]
      exact fun e => (List.mem_append.mp e).elim nt nt2
    · rintro σ' H' ⟨o5, o6, o7, us, rs, rfl, s, hD, hA, fl, ok, nt, le⟩
      wtm_at "lm"
      exact ⟨_, _, _, us, rs, rfl, s, hD, hA, fl, ok, nt, by omega⟩
  rintro σ' H6 ⟨o5, o6, o7, us, rs, rfl, s6, hD6, hA6, fl, ok, nt, le⟩
  have h16 := s6 _ _ h14
  have h46 := s6 _ _ h4
  have ll := hA6.len
  wtm_at "lm"
  refine i_lst (SqL.of h16) et ?_
  wtm_at "lm"
  refine i_lst (SqL.of h16) et ?_
  wtm_at "lm"
  intro t3 H7 ht3 s7 h7
  wtm_at "lm"
  intro l1 H8 hl1 s8 h8
  refine b_cat ((s7.trans s8) _ _ hD6) h8 (sz (by show us.length + 1 ≤ _; omega)) fun B H9 hB9 s9 h9 => ?_
  have R9 : RowsIn H9 B (rs ++ [.lt t .sub (.inr t) (.inl 1)]) [B] := by
    have := (hA6.mono ((s7.trans s8).trans s9)).snoc (RowIn.lt (sg := .sub) (x := .inr t) (y := .inl 1) ((s8.trans s9) _ _ h7))
    exact .mk h9 this
  have hdv : ∀ {ρ ρ' : Env} {s : List Int} {n : Nat}, Run (rs ++ [.lt t .sub (.inr t) (.inl 1)]) ρ s n ρ' true → ρ'.val (.inr t) = (ρ.val (.inr t) - 1) % 1000000 := fun h => dec_val nt h
  have fB : Flat (rs ++ [.lt t .sub (.inr t) (.inl 1)]) := fl.app fun q hq => by rw [List.mem_singleton.mp hq]; rfl
  have okB : RowsOk ms (rs ++ [.lt t .sub (.inr t) (.inl 1)]) := RowsOk_append ok (RowsOk_one (by rw [RowOk]; exact ⟨wid _ mt, wid _ mt, by decide, by decide⟩))
  have lB : (rs ++ [Row.lt t .sub (.inr t) (.inl 1)]).length ≤ 31 := by rw [List.length_append]; show rs.length + 1 ≤ 31; omega
  generalize (rs ++ [Row.lt t .sub (.inr t) (.inl 1)]) = BB at R9 hdv fB okB lB
  have dB := fB.deps
  have cB := fB.cnts
  have s69 := (s7.trans s8).trans s9
  have h19 := s69 _ _ h16
  have h49 := s69 _ _ h46
  wtm_at "lm"
  refine ⟨B, BB, [B], rfl, R9, by omega, by omega, fun c H10 fpc s10 R10 _ _ => ?_⟩
  wtm_at "lm"
  refine ⟨c, BB, fpc, ms, rfl, R10, by omega, by omega, okB, by omega, fun p u1 u2 H11 g1 g2 s11 hp R1 R2 _ _ => ?_⟩
  rw [parts_eq] at R1 R2
  replace R1 : RowsIn H11 u1 (ahd [] BB) g1 := R1
  replace R2 : RowsIn H11 u2 (stp [] BB) g2 := R2
  have pl := parts_len fB
  have f1 : Flat (ahd [] BB) := fun q hq => fB q (ahd_mem BB [] hq)
  have f2 : Flat (stp [] BB) := fun q hq => fB q (stp_mem BB [] hq)
  have d1 := f1.deps
  have d2 := f2.deps
  have c1 := f1.cnts
  have c2 := f2.cnts
  have po := parts_ok okB
  rw [parts_eq] at po
  have ok1 : RowsOk ms (ahd [] BB) := po.1
  have ok2 : RowsOk ms (stp [] BB) := po.2
  wtm_at "lms"
  refine s_cons ?_
  wtm_at "lm"
  refine ⟨u1, _, g1, rfl, R1, by omega, by omega, fun H12 s12 => ?_⟩
  have hp12 := s12 _ _ hp
  wtm_at "lm"
  refine ⟨u2, _, g2, rfl, R2.mono s12, by omega, by omega, fun H13 s13 => ?_⟩
  have hp13 := s13 _ _ hp12
  have s11' := ((s10.trans s11).trans s12).trans s13
  have R1' := R1.mono (s12.trans s13)
  have R2' := R2.mono (s12.trans s13)
  have RB' := R9.mono s11'
  have h113 := s11' _ _ h19
  have h413 := s11' _ _ h49
  cases R1' with
  | @mk _ v1 _ g1' hu1 ha1 =>
  cases R2' with
  | @mk _ v2 _ g2' hu2 ha2 =>
  cases RB' with
  | @mk _ vB _ gB hB haB =>
  have le1 := ha1.len
  have le2 := ha2.len
  have leB := haB.len
  wtm_at "lm"
  rw [decide_eq_true (show ((v1.length : Int) + (v2.length : Int)) = (vB.length : Int) by omega)]
  wtm_at "lm"
  refine i_lst (SqL.of h113) et ?_
  wtm_at "lm"
  intro bt Ha hbt sa ha
  have h1a := sa _ _ h113
  wtm_at "lm"
  refine i_lst (SqL.of h1a) et ?_
  wtm_at "lm"
  refine i_lst (SqL.of h1a) et ?_
  wtm_at "lm"
  intro t5 Hb ht5 sb hb
  wtm_at "lm"
  intro l5 Hc hl5 sc' hc
  wtm_at "lm"
  intro t6 Hd ht6 sd hd
  wtm_at "lm"
  intro P1 He hP1 se he
  have sae := (((sa.trans sb).trans sc').trans sd).trans se
  have RPi : RowsIn He l5 [.blk .agn t BB] _ := .mk ((sd.trans se) _ _ hc) (.cons (.blk (kd := .agn) (((sc'.trans sd).trans se) _ _ hb) (.mk (sae _ _ hB) (haB.mono sae))) .nil)
  have RP1 : RowsIn He P1 [.lt t .add (.inl r) (.inl 0), .blk .whn t [.blk .agn t BB]] _ := .mk he (.cons (.lt (sg := .add) (x := .inl r) (y := .inl 0) ((((sb.trans sc').trans sd).trans se) _ _ ha)) (.cons (.blk (kd := .whn) (se _ _ hd) RPi) .nil))
  have mt' := wid _ mt
  have rk : KeyOk ms (.inl (r : Int)) := ⟨by omega, by omega⟩
  have okP1 : RowsOk ms [.lt t .add (.inl r) (.inl 0), .blk .whn t [.blk .agn t BB]] := by
    rw [RowsOk, RowsOk, RowsOk, RowOk, RowOk, RowsOk, RowsOk, RowOk]
    exact ⟨⟨mt', rk, by decide, by decide⟩, ⟨mt', ⟨mt', okB⟩, trivial⟩, trivial⟩
  have dP1 : deps [.lt t .add (.inl r) (.inl 0), .blk .whn t [.blk .agn t BB]] ≤ 2 := by
    rw [deps, deps, deps, Row.dep, Row.dep, deps, deps, Row.dep, dB]
    decide
  have N' := N4.wide wid
  obtain ⟨st1, st2, o, eR1, eR2, es, le1', le2', hdone⟩ := saves fB hdv (by omega) hr6 kvs
  have h4e := sae _ _ h413
  wtm_at "lm"
  refine ⟨P1, g, 100000, ms, _, _, kvs, rfl, RP1, dP1, okP1, by omega, h4e, N', by decide, fun tt vv uu Hf sf htt Af => ?_⟩
  have St1 : StOk ms 200000 (evs [.lt t .add (.inl r) (.inl 0), .blk .whn t [.blk .agn t BB]] ⟨kvs, [], 100000⟩).1 := StOk.rows okP1 ⟨N', by show 0 + 100000 ≤ 200000; decide⟩
  rw [eR1] at Af St1
  replace Af : TaleAt Hf tt vv uu st1 100000 o.nm := Af
  replace St1 : StOk ms 200000 st1 := St1
  have saf := sae.trans sf
  have h1f := saf _ _ h113
  have hpf := saf _ _ hp13
  have hu1f := saf _ _ hu1
  have hu2f := saf _ _ hu2
  have haf := ((((sb.trans sc').trans sd).trans se).trans sf) _ _ ha
  wtm_at "lm"
  refine i_lst (SqL.of h1f) et ?_
  wtm_at "lm"
  refine i_lst (SqL.of h1f) et ?_
  wtm_at "lm"
  intro t7 Hg ht7 sg hg
  wtm_at "lm"
  intro l7 Hh hl7 sh hh
  refine b_cat ((sg.trans sh) _ _ hu1f) hh (sz (by show v1.length + 1 ≤ _; omega)) fun l8 Hi hl8 si hi => ?_
  wtm_at "lm"
  intro t8 Hj ht8 sj hj
  wtm_at "lm"
  intro P2 Hk hP2 sk hk
  have sfk := (((sg.trans sh).trans si).trans sj).trans sk
  have RQi : RowsIn Hk l8 (ahd [] BB ++ [.blk .agn t (stp [] BB)]) _ := .mk ((sj.trans sk) _ _ hi) ((ha1.mono (saf.trans sfk)).snoc (.blk (kd := .agn) ((((sh.trans si).trans sj).trans sk) _ _ hg) (.mk (sfk _ _ hu2f) (ha2.mono (saf.trans sfk)))))
  have RP2 : RowsIn Hk P2 [.lt t .add (.inl r) (.inl 0), .blk .whn t (ahd [] BB ++ [.blk .agn t (stp [] BB)])] _ := .mk hk (.cons (.lt (sg := .add) (x := .inl r) (y := .inl 0) (sfk _ _ haf)) (.cons (.blk (kd := .whn) (sk _ _ hj) RQi) .nil))
  have okP2 : RowsOk ms [.lt t .add (.inl r) (.inl 0), .blk .whn t (ahd [] BB ++ [.blk .agn t (stp [] BB)])] := by
    rw [RowsOk, RowsOk, RowsOk, RowOk, RowOk]
    exact ⟨⟨mt', rk, by decide, by decide⟩, ⟨mt', RowsOk_append ok1 (RowsOk_one (by rw [RowOk]; exact ⟨mt', ok2⟩))⟩, trivial⟩
  have dP2 : deps [.lt t .add (.inl r) (.inl 0), .blk .whn t (ahd [] BB ++ [.blk .agn t (stp [] BB)])] ≤ 2 := by
    rw [deps, deps, deps, Row.dep, Row.dep, deps_append, deps, deps, Row.dep, d1, d2]
    decide
  have h4k := sfk _ _ (sf _ _ h4e)
  wtm_at "lm"
  refine ⟨P2, g, 100000, ms, _, _, kvs, rfl, RP2, dP2, okP2, by omega, h4k, N', by decide, fun t' v' u' Hl sl htl Al => ?_⟩
  have St2 : StOk ms 200000 (evs [.lt t .add (.inl r) (.inl 0), .blk .whn t (ahd [] BB ++ [.blk .agn t (stp [] BB)])] ⟨kvs, [], 100000⟩).1 := StOk.rows okP2 ⟨N', by show 0 + 100000 ≤ 200000; decide⟩
  rw [eR2] at Al St2
  replace Al : TaleAt Hl t' v' u' st2 100000 o.nm := Al
  replace St2 : StOk ms 200000 st2 := St2
  have Al1 := (Af.mono sfk).mono sl
  have hpl := sl _ _ (sfk _ _ hpf)
  have hu1l := sl _ _ (sfk _ _ hu1f)
  wtm_at "lm"
  refine ⟨t', _, rfl, dg Al.ht t_said, ?_⟩
  wtm_at "lm"
  refine ⟨tt, _, rfl, dg Al1.ht t_said, ?_⟩
  have hs2 := Al.hs
  rw [es] at hs2
  refine c_neD (d := .list (st1.said.map .int)) (e := .list (st1.said.map .int)) (by have := hr.un; omega) (ints_dp (SqL.of hs2)) (ints_dp (SqL.of Al1.hs)) (PySem.W.shaped_ints _) (PySem.W.shaped_ints _) ?_
  rw [ints_eqv]
  wtm_at "lm"
  refine ⟨t', _, rfl, dg Al.ht t_ending, ?_⟩
  wtm_at "lm"
  refine ⟨tt, _, rfl, dg Al1.ht t_ending, ?_⟩
  wtm_at "lm"
  rw [decide_eq_true rfl]
  wtm_at "lm"
  refine ⟨tt, _, rfl, dg Al1.ht t_ending, ?_⟩
  wtm_at "lm"
  by_cases ho : o = .done
  · subst ho
    refine ite_bF (by decide +kernel) ?_
    obtain ⟨e3, e4⟩ := hdone rfl
    wtm_at "lm"
    refine ⟨t', _, rfl, dg Al.ht t_values, ?_⟩
    wtm_at "lm"
    refine ⟨tt, _, rfl, dg Al1.ht t_values, ?_⟩
    refine c_eqKs hu Al.hv Al1.hv (same_hits St2.nums St1.nums e3) (same_len St2.nums St1.nums e3) ?_
    wtm_at "lm"
    refine ⟨t', _, rfl, dg Al.ht t_steps, ?_⟩
    wtm_at "lm"
    refine ⟨tt, _, rfl, dg Al1.ht t_steps, ?_⟩
    wtm_at "lm"
    rw [show (if (r : Int) - 1 > 0 then (r : Int) - 1 else 0) = ((r - 1 : Nat) : Int) by split <;> omega]
    refine b_mul (.inl ⟨by omega, by omega⟩) ?_
    rw [← Int.natCast_mul, le1]
    generalize (ahd [] BB).length * (r - 1) = z at e4 ⊢
    wtm_at "lm"
    rw [decide_eq_true (show (((100000 : Nat) : Int) - (st2.left : Int)) = ((100000 : Nat) : Int) - (st1.left : Int) - (z : Int) by omega)]
    exact q _
  · refine ite_bT (by cases o <;> first | exact absurd rfl ho | decide +kernel) ?_
    wtm_at "lm"
    refine ⟨t', _, rfl, dg Al.ht t_steps, ?_⟩
    wtm_at "lm"
    refine ⟨tt, _, rfl, dg Al1.ht t_steps, ?_⟩
    wtm_at "lm"
    rw [decide_eq_true (show (((100000 : Nat) : Int) - (st2.left : Int)) ≤ ((100000 : Nat) : Int) - (st1.left : Int) by omega)]
    exact q _
end
theorem all_mk {l : PySem.W.OpenLaw} {w : World} {K : PySem.W.Frag} {h : Heap} {mg : Str → Option Value} {fa : Addr} (X : K.In h) (G : h.Ns mainGlobals mg) (hfa : mg "law" = some (.ref fa))
    {f0 : Addr} {od0 an0 : Option Addr} {sl0 : Array (Option Value)} {oc0 kV0 dc0 pm0 cd0 ct0 : Value}
    (a0 : PySem.W.nsIn K mainGlobals "gathered" = some (some (.ref f0))) (l0 : K.lookup f0 = some ⟨oc0, od0, .func (PySem.W.fnOf "gathered" "gathered" (defArgs s_p_gathered) (defBody s_p_gathered) (defScope s_p_gathered) .none kV0 dc0 pm0 an0 cd0 ct0), sl0⟩) (c0 : PySem.W.codeIn K cd0 "gathered" = true) (k0 : PySem.W.keepIn K (.ref f0) = true)
    {f1 : Addr} {od1 an1 : Option Addr} {sl1 : Array (Option Value)} {oc1 kV1 dc1 pm1 cd1 ct1 : Value}
    (a1 : PySem.W.nsIn K mainGlobals "operands" = some (some (.ref f1))) (l1 : K.lookup f1 = some ⟨oc1, od1, .func (PySem.W.fnOf "operands" "operands" (defArgs s_p_operands) (defBody s_p_operands) (defScope s_p_operands) .none kV1 dc1 pm1 an1 cd1 ct1), sl1⟩) (c1 : PySem.W.codeIn K cd1 "operands" = true) (k1 : PySem.W.keepIn K (.ref f1) = true)
    {f2 : Addr} {od2 an2 : Option Addr} {sl2 : Array (Option Value)} {oc2 kV2 dc2 pm2 cd2 ct2 : Value}
    (a2 : PySem.W.nsIn K mainGlobals "reads" = some (some (.ref f2))) (l2 : K.lookup f2 = some ⟨oc2, od2, .func (PySem.W.fnOf "reads" "reads" (defArgs s_p_reads) (defBody s_p_reads) (defScope s_p_reads) .none kV2 dc2 pm2 an2 cd2 ct2), sl2⟩) (c2 : PySem.W.codeIn K cd2 "reads" = true) (k2 : PySem.W.keepIn K (.ref f2) = true)
    {f3 : Addr} {od3 an3 : Option Addr} {sl3 : Array (Option Value)} {oc3 kV3 dc3 pm3 cd3 ct3 : Value}
    (a3 : PySem.W.nsIn K mainGlobals "sets" = some (some (.ref f3))) (l3 : K.lookup f3 = some ⟨oc3, od3, .func (PySem.W.fnOf "sets" "sets" (defArgs s_p_sets) (defBody s_p_sets) (defScope s_p_sets) .none kV3 dc3 pm3 an3 cd3 ct3), sl3⟩) (c3 : PySem.W.codeIn K cd3 "sets" = true) (k3 : PySem.W.keepIn K (.ref f3) = true)
    {f4 : Addr} {od4 an4 : Option Addr} {sl4 : Array (Option Value)} {oc4 kV4 dc4 pm4 cd4 ct4 : Value}
    (a4 : PySem.W.nsIn K mainGlobals "may_fail" = some (some (.ref f4))) (l4 : K.lookup f4 = some ⟨oc4, od4, .func (PySem.W.fnOf "may_fail" "may_fail" (defArgs s_p_may_fail) (defBody s_p_may_fail) (defScope s_p_may_fail) .none kV4 dc4 pm4 an4 cd4 ct4), sl4⟩) (c4 : PySem.W.codeIn K cd4 "may_fail" = true) (k4 : PySem.W.keepIn K (.ref f4) = true)
    {f5 : Addr} {od5 an5 : Option Addr} {sl5 : Array (Option Value)} {oc5 kV5 dc5 pm5 cd5 ct5 : Value}
    (a5 : PySem.W.nsIn K mainGlobals "speaks" = some (some (.ref f5))) (l5 : K.lookup f5 = some ⟨oc5, od5, .func (PySem.W.fnOf "speaks" "speaks" (defArgs s_p_speaks) (defBody s_p_speaks) (defScope s_p_speaks) .none kV5 dc5 pm5 an5 cd5 ct5), sl5⟩) (c5 : PySem.W.codeIn K cd5 "speaks" = true) (k5 : PySem.W.keepIn K (.ref f5) = true)
    {f6 : Addr} {od6 an6 : Option Addr} {sl6 : Array (Option Value)} {oc6 kV6 dc6 pm6 cd6 ct6 : Value}
    (a6 : PySem.W.nsIn K mainGlobals "goes_ahead" = some (some (.ref f6))) (l6 : K.lookup f6 = some ⟨oc6, od6, .func (PySem.W.fnOf "goes_ahead" "goes_ahead" (defArgs s_p_goes_ahead) (defBody s_p_goes_ahead) (defScope s_p_goes_ahead) .none kV6 dc6 pm6 an6 cd6 ct6), sl6⟩) (c6 : PySem.W.codeIn K cd6 "goes_ahead" = true) (k6 : PySem.W.keepIn K (.ref f6) = true)
    {f7 : Addr} {od7 an7 : Option Addr} {sl7 : Array (Option Value)} {oc7 kV7 dc7 pm7 cd7 ct7 : Value}
    (a7 : PySem.W.nsIn K mainGlobals "parted" = some (some (.ref f7))) (l7 : K.lookup f7 = some ⟨oc7, od7, .func (PySem.W.fnOf "parted" "parted" (defArgs s_p_parted) (defBody s_p_parted) (defScope s_p_parted) .none kV7 dc7 pm7 an7 cd7 ct7), sl7⟩) (c7 : PySem.W.codeIn K cd7 "parted" = true) (k7 : PySem.W.keepIn K (.ref f7) = true)
    {f8 : Addr} {od8 an8 : Option Addr} {sl8 : Array (Option Value)} {oc8 kV8 dc8 pm8 cd8 ct8 : Value}
    (a8 : PySem.W.nsIn K mainGlobals "copied" = some (some (.ref f8))) (l8 : K.lookup f8 = some ⟨oc8, od8, .func (PySem.W.fnOf "copied" "copied" (defArgs s_p_copied) (defBody s_p_copied) (defScope s_p_copied) .none kV8 dc8 pm8 an8 cd8 ct8), sl8⟩) (c8 : PySem.W.codeIn K cd8 "copied" = true) (k8 : PySem.W.keepIn K (.ref f8) = true)
    {f9 : Addr} {od9 an9 : Option Addr} {sl9 : Array (Option Value)} {oc9 kV9 dc9 pm9 cd9 ct9 : Value}
    (a9 : PySem.W.nsIn K mainGlobals "_law_cell_at" = some (some (.ref f9))) (l9 : K.lookup f9 = some ⟨oc9, od9, .func (PySem.W.fnOf "_law_cell_at" "_law_cell_at" (defArgs s_l_cell_at) (defBody s_l_cell_at) (defScope s_l_cell_at) .none kV9 dc9 pm9 an9 cd9 ct9), sl9⟩) (c9 : PySem.W.codeIn K cd9 "_law_cell_at" = true) (k9 : PySem.W.keepIn K (.ref f9) = true)
    {f10 : Addr} {od10 an10 : Option Addr} {sl10 : Array (Option Value)} {oc10 kV10 dc10 pm10 cd10 ct10 : Value}
    (a10 : PySem.W.nsIn K mainGlobals "_law_mixed" = some (some (.ref f10))) (l10 : K.lookup f10 = some ⟨oc10, od10, .func (PySem.W.fnOf "_law_mixed" "_law_mixed" (defArgs s_l_mixed) (defBody s_l_mixed) (defScope s_l_mixed) .none kV10 dc10 pm10 an10 cd10 ct10), sl10⟩) (c10 : PySem.W.codeIn K cd10 "_law_mixed" = true) (k10 : PySem.W.keepIn K (.ref f10) = true)
    {f11 : Addr} {od11 an11 : Option Addr} {sl11 : Array (Option Value)} {oc11 kV11 dc11 pm11 cd11 ct11 : Value}
    (a11 : PySem.W.nsIn K mainGlobals "_law_names" = some (some (.ref f11))) (l11 : K.lookup f11 = some ⟨oc11, od11, .func (PySem.W.fnOf "_law_names" "_law_names" (defArgs s_l_names) (defBody s_l_names) (defScope s_l_names) .none kV11 dc11 pm11 an11 cd11 ct11), sl11⟩) (c11 : PySem.W.codeIn K cd11 "_law_names" = true) (k11 : PySem.W.keepIn K (.ref f11) = true)
    {f12 : Addr} {od12 an12 : Option Addr} {sl12 : Array (Option Value)} {oc12 kV12 dc12 pm12 cd12 ct12 : Value}
    (a12 : PySem.W.nsIn K mainGlobals "_law_value" = some (some (.ref f12))) (l12 : K.lookup f12 = some ⟨oc12, od12, .func (PySem.W.fnOf "_law_value" "_law_value" (defArgs s_l_value) (defBody s_l_value) (defScope s_l_value) .none kV12 dc12 pm12 an12 cd12 ct12), sl12⟩) (c12 : PySem.W.codeIn K cd12 "_law_value" = true) (k12 : PySem.W.keepIn K (.ref f12) = true)
    {f13 : Addr} {od13 an13 : Option Addr} {sl13 : Array (Option Value)} {oc13 kV13 dc13 pm13 cd13 ct13 : Value}
    (a13 : PySem.W.nsIn K mainGlobals "_law_let" = some (some (.ref f13))) (l13 : K.lookup f13 = some ⟨oc13, od13, .func (PySem.W.fnOf "_law_let" "_law_let" (defArgs s_l_let) (defBody s_l_let) (defScope s_l_let) .none kV13 dc13 pm13 an13 cd13 ct13), sl13⟩) (c13 : PySem.W.codeIn K cd13 "_law_let" = true) (k13 : PySem.W.keepIn K (.ref f13) = true)
    {f14 : Addr} {od14 an14 : Option Addr} {sl14 : Array (Option Value)} {oc14 kV14 dc14 pm14 cd14 ct14 : Value}
    (a14 : PySem.W.nsIn K mainGlobals "_law_given" = some (some (.ref f14))) (l14 : K.lookup f14 = some ⟨oc14, od14, .func (PySem.W.fnOf "_law_given" "_law_given" (defArgs s_l_given) (defBody s_l_given) (defScope s_l_given) .none kV14 dc14 pm14 an14 cd14 ct14), sl14⟩) (c14 : PySem.W.codeIn K cd14 "_law_given" = true) (k14 : PySem.W.keepIn K (.ref f14) = true)
    {f15 : Addr} {od15 an15 : Option Addr} {sl15 : Array (Option Value)} {oc15 kV15 dc15 pm15 cd15 ct15 : Value}
    (a15 : PySem.W.nsIn K mainGlobals "_law_whole" = some (some (.ref f15))) (l15 : K.lookup f15 = some ⟨oc15, od15, .func (PySem.W.fnOf "_law_whole" "_law_whole" (defArgs s_l_whole) (defBody s_l_whole) (defScope s_l_whole) .none kV15 dc15 pm15 an15 cd15 ct15), sl15⟩) (c15 : PySem.W.codeIn K cd15 "_law_whole" = true) (k15 : PySem.W.keepIn K (.ref f15) = true)
    {f16 : Addr} {od16 an16 : Option Addr} {sl16 : Array (Option Value)} {oc16 kV16 dc16 pm16 cd16 ct16 : Value}
    (a16 : PySem.W.nsIn K mainGlobals "_law_copied" = some (some (.ref f16))) (l16 : K.lookup f16 = some ⟨oc16, od16, .func (PySem.W.fnOf "_law_copied" "_law_copied" (defArgs s_l_copied) (defBody s_l_copied) (defScope s_l_copied) .none kV16 dc16 pm16 an16 cd16 ct16), sl16⟩) (c16 : PySem.W.codeIn K cd16 "_law_copied" = true) (k16 : PySem.W.keepIn K (.ref f16) = true)
    {f17 : Addr} {od17 an17 : Option Addr} {sl17 : Array (Option Value)} {oc17 kV17 dc17 pm17 cd17 ct17 : Value}
    (a17 : PySem.W.nsIn K mainGlobals "_law_sound_row" = some (some (.ref f17))) (l17 : K.lookup f17 = some ⟨oc17, od17, .func (PySem.W.fnOf "_law_sound_row" "_law_sound_row" (defArgs s_l_sound_row) (defBody s_l_sound_row) (defScope s_l_sound_row) .none kV17 dc17 pm17 an17 cd17 ct17), sl17⟩) (c17 : PySem.W.codeIn K cd17 "_law_sound_row" = true) (k17 : PySem.W.keepIn K (.ref f17) = true)
    {f18 : Addr} {od18 an18 : Option Addr} {sl18 : Array (Option Value)} {oc18 kV18 dc18 pm18 cd18 ct18 : Value}
    (a18 : PySem.W.nsIn K mainGlobals "_law_sound" = some (some (.ref f18))) (l18 : K.lookup f18 = some ⟨oc18, od18, .func (PySem.W.fnOf "_law_sound" "_law_sound" (defArgs s_l_sound) (defBody s_l_sound) (defScope s_l_sound) .none kV18 dc18 pm18 an18 cd18 ct18), sl18⟩) (c18 : PySem.W.codeIn K cd18 "_law_sound" = true) (k18 : PySem.W.keepIn K (.ref f18) = true)
    {f19 : Addr} {od19 an19 : Option Addr} {sl19 : Array (Option Value)} {oc19 kV19 dc19 pm19 cd19 ct19 : Value}
    (a19 : PySem.W.nsIn K mainGlobals "_law_value_of" = some (some (.ref f19))) (l19 : K.lookup f19 = some ⟨oc19, od19, .func (PySem.W.fnOf "_law_value_of" "_law_value_of" (defArgs s_l_value_of) (defBody s_l_value_of) (defScope s_l_value_of) .none kV19 dc19 pm19 an19 cd19 ct19), sl19⟩) (c19 : PySem.W.codeIn K cd19 "_law_value_of" = true) (k19 : PySem.W.keepIn K (.ref f19) = true)
    {f20 : Addr} {od20 an20 : Option Addr} {sl20 : Array (Option Value)} {oc20 kV20 dc20 pm20 cd20 ct20 : Value}
    (a20 : PySem.W.nsIn K mainGlobals "_law_step" = some (some (.ref f20))) (l20 : K.lookup f20 = some ⟨oc20, od20, .func (PySem.W.fnOf "_law_step" "_law_step" (defArgs s_l_step) (defBody s_l_step) (defScope s_l_step) .none kV20 dc20 pm20 an20 cd20 ct20), sl20⟩) (c20 : PySem.W.codeIn K cd20 "_law_step" = true) (k20 : PySem.W.keepIn K (.ref f20) = true)
    {f21 : Addr} {od21 an21 : Option Addr} {sl21 : Array (Option Value)} {oc21 kV21 dc21 pm21 cd21 ct21 : Value}
    (a21 : PySem.W.nsIn K mainGlobals "_law_let_done" = some (some (.ref f21))) (l21 : K.lookup f21 = some ⟨oc21, od21, .func (PySem.W.fnOf "_law_let_done" "_law_let_done" (defArgs s_l_let_done) (defBody s_l_let_done) (defScope s_l_let_done) .none kV21 dc21 pm21 an21 cd21 ct21), sl21⟩) (c21 : PySem.W.codeIn K cd21 "_law_let_done" = true) (k21 : PySem.W.keepIn K (.ref f21) = true)
    {f22 : Addr} {od22 an22 : Option Addr} {sl22 : Array (Option Value)} {oc22 kV22 dc22 pm22 cd22 ct22 : Value}
    (a22 : PySem.W.nsIn K mainGlobals "_law_row_done" = some (some (.ref f22))) (l22 : K.lookup f22 = some ⟨oc22, od22, .func (PySem.W.fnOf "_law_row_done" "_law_row_done" (defArgs s_l_row_done) (defBody s_l_row_done) (defScope s_l_row_done) .none kV22 dc22 pm22 an22 cd22 ct22), sl22⟩) (c22 : PySem.W.codeIn K cd22 "_law_row_done" = true) (k22 : PySem.W.keepIn K (.ref f22) = true)
    {f23 : Addr} {od23 an23 : Option Addr} {sl23 : Array (Option Value)} {oc23 kV23 dc23 pm23 cd23 ct23 : Value}
    (a23 : PySem.W.nsIn K mainGlobals "_law_done" = some (some (.ref f23))) (l23 : K.lookup f23 = some ⟨oc23, od23, .func (PySem.W.fnOf "_law_done" "_law_done" (defArgs s_l_done) (defBody s_l_done) (defScope s_l_done) .none kV23 dc23 pm23 an23 cd23 ct23), sl23⟩) (c23 : PySem.W.codeIn K cd23 "_law_done" = true) (k23 : PySem.W.keepIn K (.ref f23) = true)
    {f24 : Addr} {od24 an24 : Option Addr} {sl24 : Array (Option Value)} {oc24 kV24 dc24 pm24 cd24 ct24 : Value}
    (a24 : PySem.W.nsIn K mainGlobals "_law_tale" = some (some (.ref f24))) (l24 : K.lookup f24 = some ⟨oc24, od24, .func (PySem.W.fnOf "_law_tale" "_law_tale" (defArgs s_l_tale) (defBody s_l_tale) (defScope s_l_tale) .none kV24 dc24 pm24 an24 cd24 ct24), sl24⟩) (c24 : PySem.W.codeIn K cd24 "_law_tale" = true) (k24 : PySem.W.keepIn K (.ref f24) = true)
    {f25 : Addr} {od25 an25 : Option Addr} {sl25 : Array (Option Value)} {oc25 kV25 dc25 pm25 cd25 ct25 : Value}
    (a25 : PySem.W.nsIn K mainGlobals "law" = some (some (.ref f25))) (l25 : K.lookup f25 = some ⟨oc25, od25, .func (PySem.W.fnOf "law" "law" (defArgs s_law) (defBody s_law) (defScope s_law) .none kV25 dc25 pm25 an25 cd25 ct25), sl25⟩) (c25 : PySem.W.codeIn K cd25 "law" = true) (k25 : PySem.W.keepIn K (.ref f25) = true)
    (z_all : PySem.W.nsIn K mainGlobals "all" = some none)
    (z_bool : PySem.W.nsIn K mainGlobals "bool" = some none)
    (z_dict : PySem.W.nsIn K mainGlobals "dict" = some none)
    (z_int : PySem.W.nsIn K mainGlobals "int" = some none)
    (z_isinstance : PySem.W.nsIn K mainGlobals "isinstance" = some none)
    (z_len : PySem.W.nsIn K mainGlobals "len" = some none)
    (z_list : PySem.W.nsIn K mainGlobals "list" = some none)
    (z_max : PySem.W.nsIn K mainGlobals "max" = some none)
    (z_min : PySem.W.nsIn K mainGlobals "min" = some none)
    (z_range : PySem.W.nsIn K mainGlobals "range" = some none)
    (z_sorted : PySem.W.nsIn K mainGlobals "sorted" = some none)
    (z_str : PySem.W.nsIn K mainGlobals "str" = some none)
    (z_tuple : PySem.W.nsIn K mainGlobals "tuple" = some none)
    {q_BLOCKS : Addr} {qd_BLOCKS : Option Addr} {qn_BLOCKS : Nat} {qs_BLOCKS : Array (Option Value)} {t_BLOCKS0 t_BLOCKS1 t_BLOCKS2 : Tok}
    (m_BLOCKS : PySem.W.nsIn K mainGlobals "BLOCKS" = some (some (.ref q_BLOCKS))) (v_BLOCKS : K.lookup q_BLOCKS = some ⟨.type "tuple", qd_BLOCKS, .seq #[.str "when" t_BLOCKS0, .str "loop" t_BLOCKS1, .str "again" t_BLOCKS2] qn_BLOCKS, qs_BLOCKS⟩)
    : ∃ fd : FuncData, (∀ (s : Shared) (v : Value), BindsTo s fd ⟨[v], []⟩ [("_law_script", v)]) ∧ ∀ base : Heap, K.In base → base.Ns mainGlobals mg → FnOk l.prog w K mg base CX0 150 fa fd ["_law_script"] (spLaw K) := by
  have e := hfa.symm.trans (PySem.W.mg_of X G a25)
  cases e
  have F0 := fun_mk (x := "gathered") (st := s_p_gathered) l0 c0 k0
  have D0 : Def K mg "gathered" s_p_gathered ["rows", "found", "is_read"] := ⟨_, _, F0, PySem.W.mg_of X G a0, F0.binds fun _ _ _ _ _ _ us hl => match us, hl with | [_, _, _], _ => rfl⟩
  have F1 := fun_mk (x := "operands") (st := s_p_operands) l1 c1 k1
  have D1 : Def K mg "operands" s_p_operands ["row"] := ⟨_, _, F1, PySem.W.mg_of X G a1, F1.binds fun _ _ _ _ _ _ us hl => match us, hl with | [_], _ => rfl⟩
  have F2 := fun_mk (x := "reads") (st := s_p_reads) l2 c2 k2
  have D2 : Def K mg "reads" s_p_reads ["rows"] := ⟨_, _, F2, PySem.W.mg_of X G a2, F2.binds fun _ _ _ _ _ _ us hl => match us, hl with | [_], _ => rfl⟩
  have F3 := fun_mk (x := "sets") (st := s_p_sets) l3 c3 k3
  have D3 : Def K mg "sets" s_p_sets ["rows"] := ⟨_, _, F3, PySem.W.mg_of X G a3, F3.binds fun _ _ _ _ _ _ us hl => match us, hl with | [_], _ => rfl⟩
  have F4 := fun_mk (x := "may_fail") (st := s_p_may_fail) l4 c4 k4
  have D4 : Def K mg "may_fail" s_p_may_fail ["rows"] := ⟨_, _, F4, PySem.W.mg_of X G a4, F4.binds fun _ _ _ _ _ _ us hl => match us, hl with | [_], _ => rfl⟩
  have F5 := fun_mk (x := "speaks") (st := s_p_speaks) l5 c5 k5
  have D5 : Def K mg "speaks" s_p_speaks ["rows"] := ⟨_, _, F5, PySem.W.mg_of X G a5, F5.binds fun _ _ _ _ _ _ us hl => match us, hl with | [_], _ => rfl⟩
  have F6 := fun_mk (x := "goes_ahead") (st := s_p_goes_ahead) l6 c6 k6
  have D6 : Def K mg "goes_ahead" s_p_goes_ahead ["row", "staying", "behind"] := ⟨_, _, F6, PySem.W.mg_of X G a6, F6.binds fun _ _ _ _ _ _ us hl => match us, hl with | [_, _, _], _ => rfl⟩
  have F7 := fun_mk (x := "parted") (st := s_p_parted) l7 c7 k7
  have D7 : Def K mg "parted" s_p_parted ["body"] := ⟨_, _, F7, PySem.W.mg_of X G a7, F7.binds fun _ _ _ _ _ _ us hl => match us, hl with | [_], _ => rfl⟩
  have F8 := fun_mk (x := "copied") (st := s_p_copied) l8 c8 k8
  have D8 : Def K mg "copied" s_p_copied ["rows"] := ⟨_, _, F8, PySem.W.mg_of X G a8, F8.binds fun _ _ _ _ _ _ us hl => match us, hl with | [_], _ => rfl⟩
  have F9 := fun_mk (x := "_law_cell_at") (st := s_l_cell_at) l9 c9 k9
  have D9 : Def K mg "_law_cell_at" s_l_cell_at ["_law_script", "_law_k"] := ⟨_, _, F9, PySem.W.mg_of X G a9, F9.binds fun _ _ _ _ _ _ us hl => match us, hl with | [_, _], _ => rfl⟩
  have F10 := fun_mk (x := "_law_mixed") (st := s_l_mixed) l10 c10 k10
  have D10 : Def K mg "_law_mixed" s_l_mixed ["_law_cell", "_law_k"] := ⟨_, _, F10, PySem.W.mg_of X G a10, F10.binds fun _ _ _ _ _ _ us hl => match us, hl with | [_, _], _ => rfl⟩
  have F11 := fun_mk (x := "_law_names") (st := s_l_names) l11 c11 k11
  have D11 : Def K mg "_law_names" s_l_names ["_law_cell"] := ⟨_, _, F11, PySem.W.mg_of X G a11, F11.binds fun _ _ _ _ _ _ us hl => match us, hl with | [_], _ => rfl⟩
  have F12 := fun_mk (x := "_law_value") (st := s_l_value) l12 c12 k12
  have D12 : Def K mg "_law_value" s_l_value ["_law_kind", "_law_number", "_law_names_here"] := ⟨_, _, F12, PySem.W.mg_of X G a12, F12.binds fun _ _ _ _ _ _ us hl => match us, hl with | [_, _, _], _ => rfl⟩
  have F13 := fun_mk (x := "_law_let") (st := s_l_let) l13 c13 k13
  have D13 : Def K mg "_law_let" s_l_let ["_law_number", "_law_names_here"] := ⟨_, _, F13, PySem.W.mg_of X G a13, F13.binds fun _ _ _ _ _ _ us hl => match us, hl with | [_, _], _ => rfl⟩
  have F14 := fun_mk (x := "_law_given") (st := s_l_given) l14 c14 k14
  have D14 : Def K mg "_law_given" s_l_given ["_law_cell", "_law_names_here"] := ⟨_, _, F14, PySem.W.mg_of X G a14, F14.binds fun _ _ _ _ _ _ us hl => match us, hl with | [_, _], _ => rfl⟩
  have F15 := fun_mk (x := "_law_whole") (st := s_l_whole) l15 c15 k15
  have D15 : Def K mg "_law_whole" s_l_whole ["_law_found"] := ⟨_, _, F15, PySem.W.mg_of X G a15, F15.binds fun _ _ _ _ _ _ us hl => match us, hl with | [_], _ => rfl⟩
  have F16 := fun_mk (x := "_law_copied") (st := s_l_copied) l16 c16 k16
  have D16 : Def K mg "_law_copied" s_l_copied ["_law_rows"] := ⟨_, _, F16, PySem.W.mg_of X G a16, F16.binds fun _ _ _ _ _ _ us hl => match us, hl with | [_], _ => rfl⟩
  have F17 := fun_mk (x := "_law_sound_row") (st := s_l_sound_row) l17 c17 k17
  have D17 : Def K mg "_law_sound_row" s_l_sound_row ["_law_row"] := ⟨_, _, F17, PySem.W.mg_of X G a17, F17.binds fun _ _ _ _ _ _ us hl => match us, hl with | [_], _ => rfl⟩
  have F18 := fun_mk (x := "_law_sound") (st := s_l_sound) l18 c18 k18
  have D18 : Def K mg "_law_sound" s_l_sound ["_law_rows"] := ⟨_, _, F18, PySem.W.mg_of X G a18, F18.binds fun _ _ _ _ _ _ us hl => match us, hl with | [_], _ => rfl⟩
  have F19 := fun_mk (x := "_law_value_of") (st := s_l_value_of) l19 c19 k19
  have D19 : Def K mg "_law_value_of" s_l_value_of ["_law_thing", "_law_tale_here"] := ⟨_, _, F19, PySem.W.mg_of X G a19, F19.binds fun _ _ _ _ _ _ us hl => match us, hl with | [_, _], _ => rfl⟩
  have F20 := fun_mk (x := "_law_step") (st := s_l_step) l20 c20 k20
  have D20 : Def K mg "_law_step" s_l_step ["_law_tale_here"] := ⟨_, _, F20, PySem.W.mg_of X G a20, F20.binds fun _ _ _ _ _ _ us hl => match us, hl with | [_], _ => rfl⟩
  have F21 := fun_mk (x := "_law_let_done") (st := s_l_let_done) l21 c21 k21
  have D21 : Def K mg "_law_let_done" s_l_let_done ["_law_row", "_law_tale_here"] := ⟨_, _, F21, PySem.W.mg_of X G a21, F21.binds fun _ _ _ _ _ _ us hl => match us, hl with | [_, _], _ => rfl⟩
  have F22 := fun_mk (x := "_law_row_done") (st := s_l_row_done) l22 c22 k22
  have D22 : Def K mg "_law_row_done" s_l_row_done ["_law_row", "_law_tale_here"] := ⟨_, _, F22, PySem.W.mg_of X G a22, F22.binds fun _ _ _ _ _ _ us hl => match us, hl with | [_, _], _ => rfl⟩
  have F23 := fun_mk (x := "_law_done") (st := s_l_done) l23 c23 k23
  have D23 : Def K mg "_law_done" s_l_done ["_law_rows", "_law_tale_here"] := ⟨_, _, F23, PySem.W.mg_of X G a23, F23.binds fun _ _ _ _ _ _ us hl => match us, hl with | [_, _], _ => rfl⟩
  have F24 := fun_mk (x := "_law_tale") (st := s_l_tale) l24 c24 k24
  have D24 : Def K mg "_law_tale" s_l_tale ["_law_rows", "_law_given_here", "_law_most"] := ⟨_, _, F24, PySem.W.mg_of X G a24, F24.binds fun _ _ _ _ _ _ us hl => match us, hl with | [_, _, _], _ => rfl⟩
  have F25 := fun_mk (x := "law") (st := s_law) l25 c25 k25
  have D25 : Def K mg "law" s_law ["_law_script"] := ⟨_, _, F25, PySem.W.mg_of X G a25, F25.binds fun _ _ _ _ _ _ us hl => match us, hl with | [_], _ => rfl⟩
  have T : Txt K mg := ⟨D0, D1, D2, D3, D4, D5, D6, D7, D8, D9, D10, D11, D12, D13, D14, D15, D16, D17, D18, D19, D20, D21, D22, D23, D24, PySem.W.mg_none_of X G z_all, PySem.W.mg_none_of X G z_bool, PySem.W.mg_none_of X G z_dict, PySem.W.mg_none_of X G z_int, PySem.W.mg_none_of X G z_isinstance, PySem.W.mg_none_of X G z_len, PySem.W.mg_none_of X G z_list, PySem.W.mg_none_of X G z_max, PySem.W.mg_none_of X G z_min, PySem.W.mg_none_of X G z_range, PySem.W.mg_none_of X G z_sorted, PySem.W.mg_none_of X G z_str, PySem.W.mg_none_of X G z_tuple, ⟨_, PySem.W.mg_of X G m_BLOCKS, fun _ => .inr ⟨_, _, _, v_BLOCKS, rfl, rfl, (by show 3 ≤ sizeLine; decide), .cons ⟨_, rfl⟩ (.cons ⟨_, rfl⟩ (.cons ⟨_, rfl⟩ (.nil)))⟩⟩⟩
  refine ⟨PySem.W.fnOf "law" "law" (defArgs s_law) (defBody s_law) (defScope s_law) .none kV25 dc25 pm25 an25 cd25 ct25, fun s v => .of_eq rfl, fun base _ _ => ?_⟩
  exact ok_law F25 T
theorem walk {l : PySem.W.OpenLaw} {q : Program} {loose : List Str} {XP : (Str → Option Value) → Heap → Prop} {YP : World → Heap → Prop} {d : DefRec} {K : Params → PySem.W.Frag} (hn : l.most = some 63) (hdf : d.params.defaults = [])
    (hY : ∀ (w : World) (h : Heap), YP w h → (K w.params).In h)
    (F : ∀ (w : World) (mg : Str → Option Value) (fa : Addr) (h : Heap), (K w.params).In h → h.Ns mainGlobals mg → mg d.name = some (.ref fa) →
      ∃ fd : FuncData, (∀ (s : Shared) (u : Value), BindsTo s fd ⟨[u], []⟩ [("_law_script", u)]) ∧ ∀ base : Heap, (K w.params).In base → base.Ns mainGlobals mg → FnOk l.prog w (K w.params) mg base CX0 150 fa fd ["_law_script"] (spLaw (K w.params))) :
    PySem.W.WalkO q loose XP YP l.row.toRowW d [] (fun f vs => PySem.call f vs) :=
  L2.walk_of (n := 63) (k := 150) (x := "_law_script") (CX := fun _ => CX0) (sp := fun w => spLaw (K w.params)) hn (by decide) hdf ⟨rfl, by decide, by decide⟩ hY F (fun _ _ a ns hl _ hS => ⟨a, ns, rfl, hS, hl, fun _ => rfl⟩) fun _ _ _ _ _ z => z
end LM
open PySem PySem.W PyProof.Rows
set_option maxRecDepth 100000 in
set_option maxHeartbeats 0 in
theorem PySem.Challenge.cw_loopmover_k08_one_loop_saves_holds : PySem.Challenge.rw_loopmover_k08_one_loop_saves.Holds := by
  w_on; o_law; k_head; (case hw => w_witness2)
  k_fill
  refine LM.walk (l := PySem.Challenge.rw_loopmover_k08_one_loop_saves) rfl rfl (fun w h Y => PySem.W.kIn_of Y) ?F
  case F =>
    intro w mg fa h KX G hmg
    refine' LM.all_mk KX G hmg ?a0 ?l0 ?c0 ?k0 ?a1 ?l1 ?c1 ?k1 ?a2 ?l2 ?c2 ?k2 ?a3 ?l3 ?c3 ?k3 ?a4 ?l4 ?c4 ?k4 ?a5 ?l5 ?c5 ?k5 ?a6 ?l6 ?c6 ?k6 ?a7 ?l7 ?c7 ?k7 ?a8 ?l8 ?c8 ?k8 ?a9 ?l9 ?c9 ?k9 ?a10 ?l10 ?c10 ?k10 ?a11 ?l11 ?c11 ?k11 ?a12 ?l12 ?c12 ?k12 ?a13 ?l13 ?c13 ?k13 ?a14 ?l14 ?c14 ?k14 ?a15 ?l15 ?c15 ?k15 ?a16 ?l16 ?c16 ?k16 ?a17 ?l17 ?c17 ?k17 ?a18 ?l18 ?c18 ?k18 ?a19 ?l19 ?c19 ?k19 ?a20 ?l20 ?c20 ?k20 ?a21 ?l21 ?c21 ?k21 ?a22 ?l22 ?c22 ?k22 ?a23 ?l23 ?c23 ?k23 ?a24 ?l24 ?c24 ?k24 ?a25 ?l25 ?c25 ?k25 ?z_all ?z_bool ?z_dict ?z_int ?z_isinstance ?z_len ?z_list ?z_max ?z_min ?z_range ?z_sorted ?z_str ?z_tuple ?m_BLOCKS ?v_BLOCKS
    (case a0 => k_is)
    (case l0 => k_is)
    (case c0 => k_is)
    (case k0 => k_is)
    (case a1 => k_is)
    (case l1 => k_is)
    (case c1 => k_is)
    (case k1 => k_is)
    (case a2 => k_is)
    (case l2 => k_is)
    (case c2 => k_is)
    (case k2 => k_is)
    (case a3 => k_is)
    (case l3 => k_is)
    (case c3 => k_is)
    (case k3 => k_is)
    (case a4 => k_is)
    (case l4 => k_is)
    (case c4 => k_is)
    (case k4 => k_is)
    (case a5 => k_is)
    (case l5 => k_is)
    (case c5 => k_is)
    (case k5 => k_is)
    (case a6 => k_is)
    (case l6 => k_is)
    (case c6 => k_is)
    (case k6 => k_is)
    (case a7 => k_is)
    (case l7 => k_is)
    (case c7 => k_is)
    (case k7 => k_is)
    (case a8 => k_is)
    (case l8 => k_is)
    (case c8 => k_is)
    (case k8 => k_is)
    (case a9 => k_is)
    (case l9 => k_is)
    (case c9 => k_is)
    (case k9 => k_is)
    (case a10 => k_is)
    (case l10 => k_is)
    (case c10 => k_is)
    (case k10 => k_is)
    (case a11 => k_is)
    (case l11 => k_is)
    (case c11 => k_is)
    (case k11 => k_is)
    (case a12 => k_is)
    (case l12 => k_is)
    (case c12 => k_is)
    (case k12 => k_is)
    (case a13 => k_is)
    (case l13 => k_is)
    (case c13 => k_is)
    (case k13 => k_is)
    (case a14 => k_is)
    (case l14 => k_is)
    (case c14 => k_is)
    (case k14 => k_is)
    (case a15 => k_is)
    (case l15 => k_is)
    (case c15 => k_is)
    (case k15 => k_is)
    (case a16 => k_is)
    (case l16 => k_is)
    (case c16 => k_is)
    (case k16 => k_is)
    (case a17 => k_is)
    (case l17 => k_is)
    (case c17 => k_is)
    (case k17 => k_is)
    (case a18 => k_is)
    (case l18 => k_is)
    (case c18 => k_is)
    (case k18 => k_is)
    (case a19 => k_is)
    (case l19 => k_is)
    (case c19 => k_is)
    (case k19 => k_is)
    (case a20 => k_is)
    (case l20 => k_is)
    (case c20 => k_is)
    (case k20 => k_is)
    (case a21 => k_is)
    (case l21 => k_is)
    (case c21 => k_is)
    (case k21 => k_is)
    (case a22 => k_is)
    (case l22 => k_is)
    (case c22 => k_is)
    (case k22 => k_is)
    (case a23 => k_is)
    (case l23 => k_is)
    (case c23 => k_is)
    (case k23 => k_is)
    (case a24 => k_is)
    (case l24 => k_is)
    (case c24 => k_is)
    (case k24 => k_is)
    (case a25 => k_is)
    (case l25 => k_is)
    (case c25 => k_is)
    (case k25 => k_is)
    (case z_all => k_is)
    (case z_bool => k_is)
    (case z_dict => k_is)
    (case z_int => k_is)
    (case z_isinstance => k_is)
    (case z_len => k_is)
    (case z_list => k_is)
    (case z_max => k_is)
    (case z_min => k_is)
    (case z_range => k_is)
    (case z_sorted => k_is)
    (case z_str => k_is)
    (case z_tuple => k_is)
    (case m_BLOCKS => k_is)
    (case v_BLOCKS => k_is)
