import PyProof.Rows.All
import Wide.All
import OpenK.AllK
import Wide.FinOn
import HandS.Base
import HandS.Call
import HandS.List
import HandS.Comp
import HandS.Ends
import HandS.Dict
import HandS.Iter
import HandS.Text
import HandS.Words
import HandS.EndBits
import HandS.Defaults
import HandS.Wide
import HandS.SlotsOwn
import HandS.More
import HandS.FStr
import PyProof.FString
import PyProof.FString4
import HandS.IsInst
import HandS.Property
import HandS.MakeKw
import HandS.MakeKwOnly
import HandS.Walk
import HandS.OwnEq
import KE.IntTextLaws
import HandS.NoneIn
import PyProof.StrLawsRepr
import HandS.WordsExc
import HandS.ExcInit
import HandS.HeadHook2
import HandS.HeadEnd
import HandS.Head2
import HandS.TupAny
import HandS.TupMul
import HandS.TryMany
import HandS.RaiseMore
import HandS.WordsDict
import HandS.Style
import HandS.SetKeys
import HandS.SortKw
import HandS.DictComp
import KE.KExcInit
import HandS.ExcIs
import HandS.ExcField
import HandS.ExcValue
import KE.KSuper
import HandS.Lambda
import HandS.EndTab
import HandS.HeadWalk
import HandS.HeadHook4
import PySem.Challenge.RW_delaynets_k04_numbers_refused
set_option Elab.async false
set_option linter.all false
set_option maxRecDepth 100000
set_option maxHeartbeats 4000000
/-! own layer: forward steps upon the syntax -/
namespace G
open PySem PySem.Spec L2
/-- what holds behind an expression, said of the syntax itself -/
def Go (X : Cx) (e : Expr) : TE := fun σ H Q => ∀ pins s, Inv X pins σ H s → wpAny (model X.prog X.w) X.A (eval e X.env) (EP X pins σ Q) X.xe s
def Gt (X : Cx) (e : Expr) : TT := fun σ H Q => ∀ pins s, Inv X pins σ H s → wpAny (model X.prog X.w) X.A (isTrue e X.env (eval e X.env)) (TP X pins σ Q) X.xe s
def Ga (X : Cx) (es : List Expr) : TA := fun σ H Q => ∀ pos pins s, Inv X pins σ H s → wpAny (model X.prog X.w) X.A (spliced (backTo pos (starEach es X.env))) (AP X pins σ Q) X.xe s
def Gs (X : Cx) (st : Stmt) : TS := fun D σ H => ∀ pins s, Inv X pins σ H s → wpAny (model X.prog X.w) X.A (exec st X.env) (SP X pins D) X.xe s
def Gb (X : Cx) (st : List Stmt) : TS := fun D σ H => ∀ pins s, Inv X pins σ H s → wpAny (model X.prog X.w) X.A (execs st X.env) (SP X pins D) X.xe s
def Gg (X : Cx) (tg : Expr) : TG := fun v σ H Q => ∀ pins s u, Inv X pins σ H s → RelV v u → wpAny (model X.prog X.w) X.A (assign tg X.env u) (fun _ s' => ∃ σ' H', Inv X pins σ' H' s' ∧ Q σ' H') X.xe s
section
variable {X : Cx} {e : Expr} {es : List Expr} {st : Stmt} {sts : List Stmt} {σ : St} {H : Hp} {Q : VK} {D : Ends}
theorem pe : PE X e (Go X e) := ⟨fun pins s σ H Q I h => h pins s I⟩
theorem pt : PT X e (Gt X e) := ⟨fun pins s σ H Q I h => h pins s I⟩
theorem pa : PA X es (Ga X es) := ⟨fun pos pins s σ H Q I h => h pos pins s I⟩
theorem ps : PS X st (Gs X st) := ⟨fun pins s σ H D I h => h pins s I⟩
theorem pb : PSs X sts (Gb X sts) := ⟨fun pins s σ H D I h => h pins s I⟩
theorem pg : PG X e (Gg X e) := ⟨fun pins s σ H v u Q I r h => h pins s u I r⟩
theorem ge {t : TE} (p : PE X e t) (h : t σ H Q) : Go X e σ H Q := fun pins s I => p.run pins s σ H Q I h
theorem gt {t : TT} {Q : Bool → Hp → Prop} (p : PT X e t) (h : t σ H Q) : Gt X e σ H Q := fun pins s I => p.run pins s σ H Q I h
theorem ga {t : TA} {Q : List V → Hp → Prop} (p : PA X es t) (h : t σ H Q) : Ga X es σ H Q := fun pos pins s I => p.run pos pins s σ H Q I h
theorem gs {t : TS} (p : PS X st t) (h : t D σ H) : Gs X st D σ H := fun pins s I => p.run pins s σ H D I h
theorem gb {t : TS} (p : PSs X sts t) (h : t D σ H) : Gb X sts D σ H := fun pins s I => p.run pins s σ H D I h
theorem gg {t : TG} {v : V} {Q : St → Hp → Prop} (p : PG X e t) (h : t v σ H Q) : Gg X e v σ H Q := fun pins s u I r => p.run pins s σ H v u Q I r h
end
/-- a name of the def at place i -/
structure Sl (X : Cx) (i : Nat) (x : Str) : Prop where
  n : X.N[i]? = some x
  v : Vis X.env.scope x
  db : (x == ("__debug__" : Str)) = false
  cd : (x == ("__classdict__" : Str)) = false
/-- .. that may be stored -/
structure Sw (X : Cx) (i : Nat) (x : Str) : Prop where
  n : X.N[i]? = some x
  l : Loc X.env.scope x
  f : X.fn x = true ∨ X.env.scope.names.lookup x = some .local
  nd : X.N.Nodup
/-- a global name: its value -/
structure Gn (X : Cx) (x : Str) (v : V) : Prop where
  g : Gl X x
  m : ∃ u, X.mg x = some u ∧ RelV v u
  db : (x == ("__debug__" : Str)) = false
/-- a builtin's name, not of the module -/
structure Bn (X : Cx) (x : Str) (u : Value) : Prop where
  g : Gl X x
  m : X.mg x = none
  b : bootBuiltins x = some u
  nn : x ≠ "__name__"
  db : (x == ("__debug__" : Str)) = false
section
variable {X : Cx} {σ : St} {H : Hp} {Q : VK} {a b c : Expr} {pos : Pos} {x : Str} {v : V}
theorem e_name {i : Nat} (l : Sl X i x) (h : σ[i]? = some (some v)) (q : Q v H) : Go X (.Name x pos) σ H Q := ge (pe_var l.n l.v l.db l.cd) ⟨v, h, q⟩
theorem e_glob (g : Gn X x v) (q : Q v H) : Go X (.Name x pos) σ H Q := by
  obtain ⟨u, hm, r⟩ := g.m
  exact ge (pe_glob g.g hm r g.db) q
theorem e_blt {u : Value} (g : Bn X x u) (r : RelV v u) (q : Q v H) : Go X (.Name x pos) σ H Q := ge (pe_bltn g.g g.m g.b r g.nn g.db) q
theorem e_int {i j} (q : Q (.int i) H) : Go X (.Constant (.int i) j pos) σ H Q := ge pe_int q
theorem e_bl {i j} (q : Q (.bl i) H) : Go X (.Constant (.bool i) j pos) σ H Q := ge pe_bl q
theorem e_str {i j} (q : Q (.str i) H) : Go X (.Constant (.str i) j pos) σ H Q := ge pe_str q
theorem e_non {j} (q : Q .non H) : Go X (.Constant .none j pos) σ H Q := ge pe_non q
/-! ### binary operators -/
def opR (X : Cx) (op : Operator) : R2 := fun x y H Q => ∀ pins σ s v u, Inv X pins σ H s → RelV x v → RelV y u → wpAny (model X.prog X.w) X.A (binaryOp op v u) (EP X pins σ Q) X.xe s
theorem opR_ok {op : Operator} : OpR X (binaryOp op) (opR X op) := fun pins s σ H x y v u Q I r1 r2 h => h pins σ s v u I r1 r2
theorem e_bin {op : Operator} (h : Go X a σ H fun x H1 => Go X b σ H1 fun y H2 => opR X op x y H2 Q) : Go X (.BinOp a op b pos) σ H Q := ge (pe_op opR_ok pe pe) h
theorem o_of {op : Operator} {r : R2} {x y : V} (p : OpR X (binaryOp op) r) (h : r x y H Q) : opR X op x y H Q := fun pins σ s v u I r1 r2 => p pins s σ H x y v u Q I r1 r2 h
variable {i j : Int}
theorem o_add (q : Q (.int (i + j)) H) : opR X .Add (.int i) (.int j) H Q := o_of op_add ⟨i, j, rfl, rfl, q⟩
theorem o_sub (q : Q (.int (i - j)) H) : opR X .Sub (.int i) (.int j) H Q := o_of op_sub ⟨i, j, rfl, rfl, q⟩
theorem o_mul (c : CMul i j) (q : Q (.int (i * j)) H) : opR X .Mult (.int i) (.int j) H Q := o_of op_mul ⟨i, j, rfl, rfl, c, q⟩
theorem o_mod (c : 0 < j) (q : Q (.int (i % j)) H) : opR X .Mod (.int i) (.int j) H Q := o_of op_mod ⟨i, j, rfl, rfl, c, q⟩
theorem o_fdiv (c : CDiv i j) (q : Q (.int (i / j)) H) : opR X .FloorDiv (.int i) (.int j) H Q := o_of op_fdiv ⟨i, j, rfl, rfl, c, q⟩
theorem o_pow (c : CPow i j) (q : Q (.int (i ^ j.toNat)) H) : opR X .Pow (.int i) (.int j) H Q := o_of op_pow ⟨i, j, rfl, rfl, c, q⟩
theorem o_adds {s t : Str} (c : s.length + t.length ≤ sizeLine) (q : Q (.str (s ++ t)) H) : opR X .Add (.str s) (.str t) H Q := o_of op_add_str ⟨s, t, rfl, rfl, c, q⟩
end
/-! ### a test's outcome -/
abbrev cnd (c : Bool) (A B : Prop) : Prop := if c = true then A else B
theorem cT {A B : Prop} (h : A) : cnd true A B := by show (if true = true then A else B); rw [if_pos rfl]; exact h
theorem cF {A B : Prop} (h : B) : cnd false A B := by show (if false = true then A else B); rw [if_neg (by decide)]; exact h
theorem cAny {c : Bool} {A B : Prop} (h1 : c = true → A) (h2 : c = false → B) : cnd c A B := by
  cases c
  · exact cF (h2 rfl)
  · exact cT (h1 rfl)
theorem cDec {p A B : Prop} [Decidable p] (h1 : p → A) (h2 : ¬p → B) : cnd (decide p) A B := cAny (fun h => h1 (of_decide_eq_true h)) fun h => h2 (of_decide_eq_false h)
theorem cDecT {p A B : Prop} [Decidable p] (h : p) (h1 : A) : cnd (decide p) A B := cDec (fun _ => h1) fun n => absurd h n
theorem cDecF {p A B : Prop} [Decidable p] (h : ¬p) (h1 : B) : cnd (decide p) A B := cDec (fun n => absurd n h) fun _ => h1
theorem cNot {c : Bool} {A B : Prop} (h : cnd c B A) : cnd (!c) A B := by
  cases c
  · exact cT h
  · exact cF h
theorem cAnd {a b : Bool} {A B : Prop} (h : cnd a (cnd b A B) B) : cnd (a && b) A B := by
  cases a
  · exact cF h
  · exact h
theorem cOr {a b : Bool} {A B : Prop} (h : cnd a A (cnd b A B)) : cnd (a || b) A B := by
  cases a
  · exact h
  · exact cT h
/-! ### comparisons -/
def cmR (X : Cx) (op : CmpOp) : R2 := fun x y H Q => ∀ pins σ s v u, Inv X pins σ H s → RelV x v → RelV y u → wpAny (model X.prog X.w) X.A (compareOp op v u) (EP X pins σ Q) X.xe s
section
variable {X : Cx} {σ : St} {H : Hp} {Q : VK} {a b c : Expr} {pos : Pos} {x y : V} {i j : Int} {op : CmpOp}
theorem cmR_ok : OpR X (compareOp op) (cmR X op) := fun pins s σ H x y v u Q I r1 r2 h => h pins σ s v u I r1 r2
theorem c_of {r : R2} (p : OpR X (compareOp op) r) (h : r x y H Q) : cmR X op x y H Q := fun pins σ s v u I r1 r2 => p pins s σ H x y v u Q I r1 r2 h
theorem e_cmp (hm : behindInMarks op b = false) (h : Go X a σ H fun x H1 => Go X b σ H1 fun y H2 => cmR X op x y H2 Q) : Go X (.Compare a [op] [b] pos) σ H Q := ge (pe_cmpR cmR_ok pe pe hm) h
theorem t_cmp {Q : Bool → Hp → Prop} (hm : behindInMarks op b = false) (h : Go X a σ H fun x H1 => Go X b σ H1 fun y H2 => cmR X op x y H2 fun z H3 => ∃ k, z = .bl k ∧ Q k H3) : Gt X (.Compare a [op] [b] pos) σ H Q := gt (pt_cmpR cmR_ok pe pe hm) h
/-- a comparison in a chain -/
theorem t_chain {op' : CmpOp} {Q : Bool → Hp → Prop} (hm : lastMarks [op, op'] [b, c] = false) (h : Go X a σ H fun x H1 => Go X b σ H1 fun y H2 => cmR X op x y H2 fun z H3 => ∃ k, z = .bl k ∧
    cnd k (Go X c σ H3 fun w' H4 => cmR X op' y w' H4 fun z H3 => ∃ k, z = .bl k ∧ Q k H3) (∃ k, V.bl false = .bl k ∧ Q k H3)) : Gt X (.Compare a [op, op'] [b, c] pos) σ H Q := gt (pt_chain cmR_ok cmR_ok pe pe pe hm) h
theorem c_lt (q : Q (.bl (decide (i < j))) H) : cmR X .Lt (.int i) (.int j) H Q := c_of op_lt ⟨i, j, rfl, rfl, q⟩
theorem c_le (q : Q (.bl (decide (i ≤ j))) H) : cmR X .LtE (.int i) (.int j) H Q := c_of op_le ⟨i, j, rfl, rfl, q⟩
theorem c_gt (q : Q (.bl (decide (j < i))) H) : cmR X .Gt (.int i) (.int j) H Q := c_of op_gt ⟨i, j, rfl, rfl, q⟩
theorem c_ge (q : Q (.bl (decide (j ≤ i))) H) : cmR X .GtE (.int i) (.int j) H Q := c_of op_ge ⟨i, j, rfl, rfl, q⟩
theorem dI : decide (V.int i = V.int j) = decide (i = j) := by
  by_cases h : i = j
  · subst h; simp
  · rw [decide_eq_false h, decide_eq_false (fun e => h (V.int.inj e))]
theorem dS {s t : Str} : decide (V.str s = V.str t) = decide (s = t) := by
  by_cases h : s = t
  · subst h; simp
  · rw [decide_eq_false h, decide_eq_false (fun e => h (V.str.inj e))]
theorem c_eqI (q : Q (.bl (decide (i = j))) H) : cmR X .Eq (.int i) (.int j) H Q := c_of op_eq ⟨rfl, by rw [dI]; exact q⟩
theorem c_neI (q : Q (.bl (!decide (i = j))) H) : cmR X .NotEq (.int i) (.int j) H Q := c_of op_ne ⟨rfl, by rw [dI]; exact q⟩
theorem c_eqS {s t : Str} (q : Q (.bl (decide (s = t))) H) : cmR X .Eq (.str s) (.str t) H Q := c_of op_eq ⟨rfl, by rw [dS]; exact q⟩
theorem c_neS {s t : Str} (q : Q (.bl (!decide (s = t))) H) : cmR X .NotEq (.str s) (.str t) H Q := c_of op_ne ⟨rfl, by rw [dS]; exact q⟩
theorem c_isN (q : Q (.bl (decide (x = .non))) H) : cmR X .Is x .non H Q := c_of op_isN ⟨rfl, q⟩
theorem c_notN (q : Q (.bl (!decide (x = .non))) H) : cmR X .IsNot x .non H Q := c_of op_notN ⟨rfl, q⟩
end
/-! ### and, or, not, if-else -/
def Gw (X : Cx) (e : Expr) : TT := fun σ H Q => ∀ whole pins s, Inv X pins σ H s → wpAny (model X.prog X.w) X.A (isTrue e X.env whole) (TP X pins σ Q) X.xe s
section
variable {X : Cx} {σ : St} {H : Hp} {Q : VK} {a b c e : Expr} {rest : List Expr} {pos : Pos} {R : Bool → Hp → Prop}
theorem pw : PW X e (Gw X e) := ⟨fun wh pins s σ H Q I h => h wh pins s I⟩
theorem gw {t : TT} (p : PW X e t) (h : t σ H R) : Gw X e σ H R := fun wh pins s I => p.run wh pins s σ H R I h
theorem w_and1 (h : Gt X a σ H R) : Gw X (.BoolOp .And [a] pos) σ H R := gw (pw_and1 pt) h
theorem w_or1 (h : Gt X a σ H R) : Gw X (.BoolOp .Or [a] pos) σ H R := gw (pw_or1 pt) h
theorem w_and (h : Gt X a σ H fun c H1 => cnd c (Gw X (.BoolOp .And (b :: rest) pos) σ H1 R) (R false H1)) : Gw X (.BoolOp .And (a :: b :: rest) pos) σ H R := gw (pw_and pt pw) h
theorem w_or (h : Gt X a σ H fun c H1 => cnd c (R true H1) (Gw X (.BoolOp .Or (b :: rest) pos) σ H1 R)) : Gw X (.BoolOp .Or (a :: b :: rest) pos) σ H R := gw (pw_or pt pw) h
theorem t_and (h : Gw X (.BoolOp .And rest pos) σ H R) : Gt X (.BoolOp .And rest pos) σ H R := gt (PW.pt pw) h
theorem t_or (h : Gw X (.BoolOp .Or rest pos) σ H R) : Gt X (.BoolOp .Or rest pos) σ H R := gt (PW.pt pw) h
theorem t_not (h : Gt X a σ H fun c H1 => R (!c) H1) : Gt X (.UnaryOp .Not a pos) σ H R := gt (pt_not pt) h
theorem e_one {op} (h : Go X a σ H Q) : Go X (.BoolOp op [a] pos) σ H Q := ge (pe_one pe) h
theorem e_and (h : Go X a σ H fun x H1 => ∃ c, x = .bl c ∧ cnd c (Go X (.BoolOp .And (b :: rest) pos) σ H1 Q) (Q (.bl false) H1)) : Go X (.BoolOp .And (a :: b :: rest) pos) σ H Q := ge (pe_and pe pe) h
theorem e_or (h : Go X a σ H fun x H1 => ∃ c, x = .bl c ∧ cnd c (Q (.bl true) H1) (Go X (.BoolOp .Or (b :: rest) pos) σ H1 Q)) : Go X (.BoolOp .Or (a :: b :: rest) pos) σ H Q := ge (pe_or pe pe) h
theorem e_not (h : Go X a σ H fun x H1 => ∃ c, x = .bl c ∧ Q (.bl (!c)) H1) : Go X (.UnaryOp .Not a pos) σ H Q := ge (pe_not pe) h
theorem e_neg {i : Int} {x : V} (e : x = .int i) (q : Q (.int (-i)) H) : (rU fun i => V.int (-i)) x H Q := ⟨i, e, q⟩
theorem e_usub (h : Go X a σ H fun x H1 => ∃ i, x = .int i ∧ Q (.int (-i)) H1) : Go X (.UnaryOp .USub a pos) σ H Q := ge (pe_un un_neg pe) h
theorem e_if (h : Gt X c σ H fun k H1 => cnd k (Go X a σ H1 Q) (Go X b σ H1 Q)) : Go X (.IfExp c a b pos) σ H Q := ge (pe_ifExp pt pe pe) h
/-- a test that is a value, True or False -/
theorem t_val (he : ∀ whole, isTrue a X.env whole = (do let v ← whole; standAt a.pos; holding [v] (truthy v))) (h : Go X a σ H fun x H1 => ∃ c, x = .bl c ∧ R c H1) : Gt X a σ H R := gt (pt_val pe he) h
theorem t_tru (he : ∀ whole, isTrue a X.env whole = (do let v ← whole; standAt a.pos; holding [v] (truthy v))) (h : Go X a σ H fun x H1 => ∃ k, TruV X.K x H1 k ∧ R k H1) : Gt X a σ H R := gt (pt_truth pe he) h
end
/-! ### arguments, displays -/
section
variable {X : Cx} {σ : St} {H : Hp} {Q : VK} {a b c e : Expr} {es : List Expr} {pos : Pos} {R : List V → Hp → Prop}
theorem a_nil (q : R [] H) : Ga X [] σ H R := ga pa_nil q
theorem a_cons (hs : starEach (e :: es) X.env = (false, eval e X.env) :: starEach es X.env) (h : Go X e σ H fun x H1 => Ga X es σ H1 fun xs H2 => R (x :: xs) H2) : Ga X (e :: es) σ H R := ga (pa_cons pe pa hs) h
/-- the heap has grown -/
def Ex (H H' : Hp) : Prop := ∀ a o, H a = some o → H' a = some o
theorem Ex.rfl' {H : Hp} : Ex H H := fun _ _ h => h
theorem Ex.tr {H H1 H2 : Hp} (a : Ex H H1) (b : Ex H1 H2) : Ex H H2 := fun x o h => b x o (a x o h)
/-- all but p stays -/
def ExB (p : Addr) (H H' : Hp) : Prop := ∀ a o, a ≠ p → H a = some o → H' a = some o
theorem Ex.new {H : Hp} {p : Addr} {o : HO} (h : H p = none) : Ex H (upd H p o) := fun a u e => by rw [upd_ne (ne_of_none e h)]; exact e
theorem Ex.fr {H H' : Hp} (e : Ex H H') {p : Addr} (h : H' p = none) : H p = none := by
  cases q : H p with
  | none => rfl
  | some o => rw [e p o q] at h; cases h
theorem Ex.mut {H H1 : Hp} {p : Addr} {o : HO} (e : Ex H H1) (h : H p = none) : Ex H (upd H1 p o) := fun a u q => by rw [upd_ne (ne_of_none q h)]; exact e a u q
theorem e_tup {k} (h : Ga X es σ H fun xs H1 => xs.length ≤ 1000 ∧ ∀ p H2, H1 p = none → Ex H1 H2 → H2 p = some (.tup xs) → Q (.ref p) H2) : Go X (.Tuple es k pos) σ H Q := ge (pe_tup (t := Ga X es) pa) (fun pos pins s I => (thn (h pos pins s I) fun us s1 ⟨xs, H1, I1, r, hl, q⟩ => ⟨xs, H1, I1, r, Nat.le_of_lt (small1000 hl), fun p hp => q p _ hp (Ex.new hp) upd_same⟩))
theorem e_lst (h : Ga X es σ H fun xs H1 => xs.length ≤ 1000 ∧ ∀ p H2, H1 p = none → Ex H1 H2 → H2 p = some (.lst xs) → Q (.ref p) H2) : Go X (.List es pos) σ H Q := ge (pe_lst (t := Ga X es) pa) (fun pos pins s I => (thn (h pos pins s I) fun us s1 ⟨xs, H1, I1, r, hl, q⟩ => ⟨xs, H1, I1, r, Nat.le_of_lt (small1000 hl), fun p hp => q p _ hp (Ex.new hp) upd_same⟩))
end
/-! ### statements -/
section
variable {X : Cx} {σ : St} {H : Hp} {Q : VK} {a b c e tg : Expr} {es : List Expr} {st : Stmt} {rest body els : List Stmt} {pos p' : Pos} {D : Ends} {i j : Nat} {x y : Str}
theorem b_nil (q : D.nx σ H) : Gb X [] D σ H := gb pss_nil q
theorem b_one (h : Gs X st D σ H) : Gb X [st] D σ H := gb (pss_one ps) h
theorem b_cons (h : Gs X st { D with nx := Gb X rest D } σ H) : Gb X (st :: rest) D σ H := gb (pss_cons ps pb) h
theorem s_ret (h : Go X e σ H D.rt) : Gs X (.Return (some e) pos) D σ H := gs (ps_ret pe) h
theorem s_retN (h : D.rt .non H) : Gs X (.Return none pos) D σ H := gs ps_retN h
theorem s_pass (h : D.nx σ H) : Gs X (.Pass pos) D σ H := gs ps_pass h
theorem s_brk (h : D.bk σ H) : Gs X (.Break pos) D σ H := gs ps_break h
theorem s_ct (h : D.ct σ H) : Gs X (.Continue pos) D σ H := gs ps_continue h
theorem s_expr (hs : swapsWith e none pos.line X.env = pure false) (h : Go X e σ H fun _ H1 => D.nx σ H1) : Gs X (.Expr e pos) D σ H := gs (ps_expr pe hs) h
theorem s_if (h : Gt X c σ H fun k H1 => cnd k (Gb X body D σ H1) (Gb X els D σ H1)) : Gs X (.If c body els pos) D σ H := gs (ps_if pt pb pb) h
/-- a slot is stored -/
def stR (i : Nat) (v : V) (σ : St) (H : Hp) (Q : St → Hp → Prop) : Prop := Q (σ.set i (some v)) H
theorem st_ok {v : V} {σ' : St} {Q : St → Hp → Prop} (hs : σ.set i (some v) = σ') (q : Q σ' H) : stR i v σ H Q := by unfold stR; rw [hs]; exact q
theorem s_set (w : Sw X i x) (hs : swapsWith e (some (.Name x p')) pos.line X.env = pure false) (h : Go X e σ H fun v H1 => stR i v σ H1 D.nx) : Gs X (.Assign [.Name x p'] e pos) D σ H := gs (ps_set w.nd w.n w.l pe hs w.f) h
theorem s_asg (hs : swapsWithSole [tg] e pos.line X.env = pure false) (hw : swappedStores [tg] e X.env = pure none) (h1 : (assignEach [tg] X.env).map (·.2) = [assign tg X.env]) (h : Go X e σ H fun v H1 => Gg X tg v σ H1 D.nx) : Gs X (.Assign [tg] e pos) D σ H := gs (ps_asg pe pg hs hw h1) h
/-- a, b = e1, e2 of two local names -/
theorem s_par {px py pt' : Pos} {kt k2 pt2} (hc : X.calm = true) (w1 : Sw X i x) (w2 : Sw X j y) (hij : i ≠ j) (hx : X.env.scope.names.lookup x = some .local) (hy : X.env.scope.names.lookup y = some .local)
    (hw : swappedStores [.Tuple [.Name x px, .Name y py] kt pt'] (.Tuple [a, b] k2 pt2) X.env = pure (some [x, y])) (hs : swapsWithSole [.Tuple [.Name x px, .Name y py] kt pt'] (.Tuple [a, b] k2 pt2) pos.line X.env = pure false)
    (h : Ga X [a, b] σ H fun vs H1 => ∃ v w, vs = [v, w] ∧ stR i v σ H1 fun σ' H' => stR j w σ' H' D.nx) : Gs X (.Assign [.Tuple [.Name x px, .Name y py] kt pt'] (.Tuple [a, b] k2 pt2) pos) D σ H := gs (ps_par hc w1.nd w1.n w2.n hij hx hy pa hw hs) h
theorem g_name {v : V} {Q : St → Hp → Prop} (w : Sw X i x) (h : stR i v σ H Q) : Gg X (.Name x pos) v σ H Q := gg (pg_name w.nd w.n w.l w.f) h
/-! ### loops -/
def Gi (X : Cx) (tg iter : Expr) : TI := fun σ H R => ∀ pins s, Inv X pins σ H s → wpAny (model X.prog X.w) X.A (eval iter X.env) (fun v s1 => wpAny (model X.prog X.w) X.A (pyIter v) (PIE X pins σ tg R) X.xe s1) X.xe s
theorem pi : PI X tg e (Gi X tg e) := ⟨fun pins s σ H R I h => h pins s I⟩
theorem gi {t : TI} {R : It → Hp → Prop} (p : PI X tg e t) (h : t σ H R) : Gi X tg e σ H R := fun pins s I => p.run pins s σ H R I h
theorem s_for (hp : PassesOwn (model X.prog X.w) X.A X.env X.xe) (hc : X.calm = true) (hs : ∀ x, foldedSetIterable e X.env x = pure x)
    (h : Gi X tg e σ H fun J H1 => ∃ W : Nat → Nat → St → Hp → Prop, (∃ m, W 0 m σ H1) ∧ ∀ i m σ H, W i m σ H →
  (J.stop i H ∧ D.nx σ H) ∨ (J.go i H ∧ ∃ N : St → Hp → Prop, (∀ σ' H', N σ' H' → ∃ m', m' < m ∧ W (i + 1) m' σ' H') ∧ ∀ x H', J.yld i H x H' → Gg X tg x σ H' fun σ2 H2 => Gb X body { D with nx := N, ct := N, bk := D.nx } σ2 H2)) :
  Gs X (.For tg e body [] pos) D σ H := gs (ps_for hp hc pi pg pb hs) h
theorem s_while (hp : PassesOwn (model X.prog X.w) X.A X.env X.xe) (h : ∃ W : Nat → St → Hp → Prop, (∃ m, W m σ H) ∧ ∀ m σ H, W m σ H →
  Gt X c σ H fun b H1 => cnd b (∃ N : St → Hp → Prop, (∀ σ' H', N σ' H' → ∃ m', m' < m ∧ W m' σ' H') ∧ Gb X body { D with nx := N, ct := N, bk := D.nx } σ H1) (D.nx σ H1)) : Gs X (.While c body [] pos) D σ H := gs (ps_while hp pt pb) h
/-- over a list -/
theorem i_list {R : It → Hp → Prop} (h : Go X e σ H fun x H1 => ∃ a, x = .ref a ∧ (∃ xs, SqL X.K H1 a xs) ∧ R (Itl X.K a) H1) : Gi X tg e σ H R := gi (pi_list pe) h
theorem i_tup {R : It → Hp → Prop} (h : Go X e σ H fun x H1 => ∃ a, x = .ref a ∧ (∃ xs, SqT X.K H1 a xs) ∧ R (Itt X.K a) H1) : Gi X tg e σ H R := gi (pi_tup pe) h
theorem i_rng1 {R : It → Hp → Prop} {p : Pos} (bn : Bn X "range" (.type "range")) (hs : starEach [a] X.env = [(false, eval a X.env)]) (h : Go X a σ H fun x H1 => ∃ j : Int, x = .int j ∧ -(2 ^ 62) ≤ j ∧ j < 2 ^ 62 ∧ R (Itr 0 j.toNat) H1) : Gi X tg (.Call (.Name "range" p) [a] [] pos) σ H R :=
  gi (pi_range1 bn.g bn.m pa hs) (show Ga X [a] σ H _ from a_cons hs (fun pins s I => thn (h pins s I) fun v s1 ⟨x, H1, I1, r, j, e, h1, h2, q⟩ => ⟨x, H1, I1, r, a_nil ⟨j, by rw [e], h1, h2, q⟩⟩))
end
/-! ### calls -/
/-- how a global name is reached -/
inductive Rch (X : Cx) (x : Str) : Value → Prop
  | own {f : Addr} (hm : X.mg x = some (.ref f)) (hk : PySem.W.keepIn X.K (.ref f) = true) : Rch X x (.ref f)
  | blt {id : String} (bn : Bn X x (.builtin id)) : Rch X x (.builtin id)
  | typ {T : String} (bn : Bn X x (.type T)) : Rch X x (.type T)
/-- a call of the name x keeps sp -/
structure Fn (X : Cx) (x : Str) (sp : List V → Hp → VK → Prop) : Prop where
  ex : ∃ u, CallR X u sp ∧ Rch X x u
  g : Gl X x
  db : (x == ("__debug__" : Str)) = false
section
variable {X : Cx} {σ : St} {H : Hp} {Q : VK} {a b c e o : Expr} {es : List Expr} {p pos apos : Pos} {x m : Str} {sp : List V → Hp → VK → Prop} {CX : CXT} {k : Nat} {f C : Addr} {fd : FuncData} {ps : List Str} {sq : Sp} {dvs : List V} {ds : List Value} {E : XK}
theorem cr_fn (F : FnOk X.prog X.w X.K X.mg X.base CX k f fd ps sq) (hr : Room k X.A) (hb : Binds X.K fd ps ds) (hd : Vals dvs ds) (hx : Passes CX X E) : CallR X (.ref f) (fun vs H Q => sq (vs ++ dvs) H Q E) := fun _ _ _ _ _ _ _ I r h => run_fn F hr hb hd hx I r h
theorem cr_mk (M : Mk X.K C f) (F : FnOk X.prog X.w X.K X.mg X.base CX k f fd ps sq) (hr : Room (k + 1) X.A) (hb : Binds X.K fd ps ds) (hd : Vals dvs ds) (hx : Passes CX X E) :
    CallR X (.ref C) (fun vs H Q => ∀ x dx, H x = none → H dx = none → dx ≠ x → sq (.ref x :: (vs ++ dvs)) (upd (upd H dx (.own x)) x (.ins C dx [])) (fun v H2 => v = .non ∧ Q (.ref x) H2) E) := fun _ _ _ _ _ _ _ I r h => run_make M F hr hb hd hx I r h
theorem CallR.imp' {u : Value} {sp' : List V → Hp → VK → Prop} (F : CallR X u sp) (h : ∀ vs H Q, sp' vs H Q → sp vs H Q) : CallR X u sp' := fun pins s σ H xs us Q I r q => F pins s σ H xs us Q I r (h _ _ _ q)
theorem CallR.or {u : Value} {r r' : List V → Hp → VK → Prop} (h : CallR X u r) (h' : CallR X u r') : CallR X u (fun xs H Q => r xs H Q ∨ r' xs H Q) := fun pins s σ H xs us Q I rv q => q.elim (h pins s σ H xs us Q I rv) (h' pins s σ H xs us Q I rv)
theorem fn_own (F : CallR X (.ref f) sp) (hg : Gl X x) (hm : X.mg x = some (.ref f)) (hk : PySem.W.keepIn X.K (.ref f) = true) (hdb : (x == ("__debug__" : Str)) = false) : Fn X x sp := ⟨⟨_, F, .own hm hk⟩, hg, hdb⟩
theorem cb_mk {id : String} {r : List V → Hp → VK → Prop} (hc : CallR X (.builtin id) r) (bn : Bn X x (.builtin id)) : Fn X x r := ⟨⟨_, hc, .blt bn⟩, bn.g, bn.db⟩
theorem ct_mk {T : String} {r : List V → Hp → VK → Prop} (hc : CallR X (.type T) r) (bn : Bn X x (.type T)) : Fn X x r := ⟨⟨_, hc, .typ bn⟩, bn.g, bn.db⟩
theorem Fn.imp {sp' : List V → Hp → VK → Prop} (F : Fn X x sp) (h : ∀ vs H Q, sp' vs H Q → sp vs H Q) : Fn X x sp' := let ⟨u, c, r⟩ := F.ex; ⟨⟨u, CallR.imp' c h, r⟩, F.g, F.db⟩
theorem e_call (F : Fn X x sp) (he : starEach (e :: es) X.env = (false, eval e X.env) :: starEach es X.env) (hpl : (backTo pos (starEach es X.env)).any (·.1) = false) (h : Ga X (e :: es) σ H fun vs H1 => sp vs H1 Q) : Go X (.Call (.Name x p) (e :: es) [] pos) σ H Q := by
  obtain ⟨u, hc, r⟩ := F.ex
  intro pins s I
  cases r with
  | own hm hk => exact wpAny_Call_Name_kw (ld_glob I F.g hm (PySem.W.callWith_K (h₀ := X.base) I.ok.mod.kin hk (thn (h pos pins s I) fun us s1 ⟨vs, H1, I1, r, q⟩ => ⟨I1.kIn, hc pins s1 σ H1 vs us Q I1 r q⟩) he hpl) F.db)
  | blt bn => exact wpAny_Call_Name_kw (ld_blt I F.g bn.m bn.b (PyProof.Rows.callWith_builtin1 (thn (h pos pins s I) fun us s1 ⟨vs, H1, I1, r, q⟩ => hc pins s1 σ H1 vs us Q I1 r q) he hpl) bn.nn F.db)
  | typ bn => exact wpAny_Call_Name_kw (ld_blt I F.g bn.m bn.b (PyProof.Rows.callWith_type1 (thn (h pos pins s I) fun us s1 ⟨vs, H1, I1, r, q⟩ => hc pins s1 σ H1 vs us Q I1 r q) he hpl) bn.nn F.db)
/-! ### attributes -/
theorem e_fld {f : Str} (hb : attributeBase e f X.env (eval e X.env) = eval e X.env) (h : Go X e σ H fun x H1 => ∃ a C dx fs v, x = .ref a ∧ H1 a = some (.ins C dx fs) ∧ Cls X.K C ∧ NoAttr X.K C f ∧ fs.lookup f = some v ∧ Q v H1) : Go X (.Attribute e f pos) σ H Q := ge (pe_fld pe hb) h
/-- a field is stored -/
def flR (X : Cx) (f : Str) (y x : V) (H : Hp) (Q : Hp → Prop) : Prop := ∃ a C dx fs, x = .ref a ∧ H a = some (.ins C dx fs) ∧ Cls X.K C ∧ NoAttr X.K C f ∧ fs.length < 1000 ∧ Q (upd H a (.ins C dx (putF f y fs)))
theorem fl_ok {f : Str} {y : V} {a dx : Addr} {fs fs' : List (Str × V)} {Q : Hp → Prop} (c : Cls X.K C) (n : NoAttr X.K C f) (h : H a = some (.ins C dx fs)) (hl : fs.length < 1000) (hp : putF f y fs = fs') (q : ∀ H', ExB a H H' → H' a = some (.ins C dx fs') → Q H') : flR X f y (.ref a) H Q :=
  ⟨a, C, dx, fs, rfl, h, c, n, hl, q _ (fun b o n e => by rw [upd_ne n]; exact e) (by rw [hp]; exact upd_same)⟩
theorem s_fld {f : Str} {value : Expr} {pos' : Pos} {D : Ends} (hs : swapsWith value (some (.Attribute o f pos')) pos.line X.env = pure false)
    (h : Go X value σ H fun y H1 => Go X o σ H1 fun x H2 => flR X f y x H2 (D.nx σ)) : Gs X (.Assign [.Attribute o f pos'] value pos) D σ H := gs (ps_fld pe pe hs) h
/-! ### subscripts -/
def ixR (X : Cx) : R2 := fun x y H Q => ∀ (value slice : Expr) pins s σ v u, Inv X pins σ H s → RelV x v → RelV y u → subscripted slice false v u = operate [v, u] (getItem v u) → wpAny (model X.prog X.w) X.A (PyProof.Rows.subscriptTail value slice v u) (EP X pins σ Q) X.xe s
theorem ixR_ok : IxR X (ixR X) := fun value slice pins s σ H x y v u Q I r1 r2 h hs => h value slice pins s σ v u I r1 r2 hs
theorem ix_of {r : R2} {x y : V} (p : IxR X r) (h : r x y H Q) : ixR X x y H Q := fun value slice pins s σ v u I r1 r2 hs => p value slice pins s σ H x y v u Q I r1 r2 h hs
theorem e_ix (hs : PlainIx b) (h : Go X a σ H fun x H1 => Go X b σ H1 fun y H2 => ixR X x y H2 Q) : Go X (.Subscript a b pos) σ H Q := ge (pe_ix ixR_ok pe pe hs) h
theorem ix_l {p : Addr} {xs : List V} {i : Int} {v : V} (h : H p = some (.lst xs)) (hi : atI xs i = some v) (q : Q v H) : ixR X (.ref p) (.int i) H Q := ix_of ix_list ⟨p, xs, i, v, rfl, rfl, SqL.of h, hi, q⟩
theorem ix_t {p : Addr} {xs : List V} {i : Int} {v : V} (h : H p = some (.tup xs)) (hi : atI xs i = some v) (q : Q v H) : ixR X (.ref p) (.int i) H Q := ix_of ix_tup ⟨p, xs, i, v, rfl, rfl, SqT.of h, hi, q⟩
theorem ix_L {p : Addr} {xs : List V} {i : Int} {v : V} (h : SqL X.K H p xs) (hi : atI xs i = some v) (q : Q v H) : ixR X (.ref p) (.int i) H Q := ix_of ix_list ⟨p, xs, i, v, rfl, rfl, h, hi, q⟩
/-- xs[i] = v -/
def seR (o i v : V) (H : Hp) (Q : Hp → Prop) : Prop := ∃ p xs k j, o = .ref p ∧ i = .int k ∧ H p = some (.lst xs) ∧ ixN xs.length k = some j ∧ Q (upd H p (.lst (xs.set j v)))
theorem se_l {p : Addr} {xs ys : List V} {k : Int} {j : Nat} {v : V} {Q : Hp → Prop} (h : H p = some (.lst xs)) (hi : ixN xs.length k = some j) (hy : xs.set j v = ys) (q : ∀ H', ExB p H H' → H' p = some (.lst ys) → Q H') : seR (.ref p) (.int k) v H Q :=
  ⟨p, xs, k, j, rfl, rfl, h, hi, q _ (fun a o n e => by rw [upd_ne n]; exact e) (by rw [hy]; exact upd_same)⟩
theorem g_subL {v : V} {Q : St → Hp → Prop} (ha : ∀ v, assign (.Subscript a b pos) X.env v = (do
      let ov ← holding [v] (eval a X.env)
      let iv ← holding [v, ov] (eval b X.env)
      standAt pos
      holding [v, ov, iv] (setItem ov iv v)
      release [v, ov, iv] [])) (h : Go X a σ H fun o H1 => Go X b σ H1 fun i H2 => seR o i v H2 (Q σ)) : Gg X (.Subscript a b pos) v σ H Q := gg (pg_sub pe pe set_list ha) h
end
/-! ### growth; a spring -/
theorem Ex.go {H H' : Hp} {a : Addr} {o : HO} (e : Ex H H') (h : H a = some o) : H' a = some o := e a o h
theorem ExB.go {p : Addr} {H H' : Hp} {a : Addr} {o : HO} (e : ExB p H H') (n : a ≠ p) (h : H a = some o) : H' a = some o := e a o n h
theorem ExB.rfl' {p : Addr} {H : Hp} : ExB p H H := fun _ _ _ h => h
theorem ExB.tr {p : Addr} {H H1 H2 : Hp} (a : ExB p H H1) (b : ExB p H1 H2) : ExB p H H2 := fun x o n h => b x o n (a x o n h)
theorem Ex.b {p : Addr} {H H1 : Hp} (a : Ex H H1) : ExB p H H1 := fun x o _ h => a x o h
theorem ExB.upd {p : Addr} {H : Hp} {o : HO} : ExB p H (upd H p o) := fun a u n h => by rw [upd_ne n]; exact h
def Spr (H : Hp) (p : Addr) : Prop := ∃ a b c, H p = some (.lst [.int a, .int b, .int c]) ∧ 0 ≤ a ∧ 0 ≤ b ∧ b < 1000000007
theorem Spr.go {p : Addr} {H H' : Hp} (s : Spr H p) (e : Ex H H') : Spr H' p := let ⟨a, b, c, h, r⟩ := s; ⟨a, b, c, e _ _ h, r⟩
theorem Spr.ne {p q : Addr} {H : Hp} (s : Spr H p) (h : H q = none) : q ≠ p := let ⟨_, _, _, h', _⟩ := s; (ne_of_none h' h).symm
theorem Spr.neT {p q : Addr} {H : Hp} {xs : List V} (s : Spr H p) (h : H q = some (.tup xs)) : q ≠ p := let ⟨_, _, _, h', _⟩ := s; (ne_of h' h (by intro z; cases z)).symm
theorem Spr.neI {p q C dx : Addr} {H : Hp} {fs} (s : Spr H p) (h : H q = some (.ins C dx fs)) : q ≠ p := let ⟨_, _, _, h', _⟩ := s; (ne_of h' h (by intro z; cases z)).symm
theorem Spr.neF {p q : Addr} {H : Hp} {o u} (s : Spr H p) (h : H q = some (.frz o u)) : q ≠ p := let ⟨_, _, _, h', _⟩ := s; (ne_of h' h (by intro z; cases z)).symm
/-! ### builtins -/
def rInt1 : List V → Hp → VK → Prop := fun xs H Q => (∃ i, xs = [.int i] ∧ Q (.int i) H) ∨ ∃ k, xs = [.bl k] ∧ Q (.int (if k then 1 else 0)) H
theorem r_int {i : Int} {H : Hp} {Q : VK} (q : Q (.int i) H) : rInt1 [.int i] H Q := .inl ⟨i, rfl, q⟩
def rAbs : List V → Hp → VK → Prop := fun xs H Q => ∃ i, xs = [.int i] ∧ Q (.int (if i < 0 then -i else i)) H
theorem r_abs {i : Int} {H : Hp} {Q : VK} (q : Q (.int (if i < 0 then -i else i)) H) : rAbs [.int i] H Q := ⟨i, rfl, q⟩
def rMax2 : List V → Hp → VK → Prop := fun xs H Q => ∃ i j, xs = [.int i, .int j] ∧ Q (.int (if j > i then j else i)) H
theorem r_max {i j : Int} {H : Hp} {Q : VK} (q : Q (.int (if j > i then j else i)) H) : rMax2 [.int i, .int j] H Q := ⟨i, j, rfl, q⟩
def rMin2 : List V → Hp → VK → Prop := fun xs H Q => ∃ i j, xs = [.int i, .int j] ∧ Q (.int (if j < i then j else i)) H
theorem r_min {i j : Int} {H : Hp} {Q : VK} (q : Q (.int (if j < i then j else i)) H) : rMin2 [.int i, .int j] H Q := ⟨i, j, rfl, q⟩
def rLen (K : PySem.W.Frag) : List V → Hp → VK → Prop := fun xs H Q => ∃ x n, xs = [x] ∧ LenV K x H n ∧ Q (.int n) H
theorem r_lenL {K : PySem.W.Frag} {p : Addr} {xs : List V} {H : Hp} {Q : VK} (h : H p = some (.lst xs)) (q : Q (.int xs.length) H) : rLen K [.ref p] H Q := ⟨_, _, rfl, .inl ⟨xs, SqL.of h, rfl⟩, q⟩
theorem r_lenL' {K : PySem.W.Frag} {p : Addr} {xs : List V} {H : Hp} {Q : VK} (h : SqL K H p xs) (q : Q (.int xs.length) H) : rLen K [.ref p] H Q := ⟨_, _, rfl, .inl ⟨xs, h, rfl⟩, q⟩
theorem r_lenT {K : PySem.W.Frag} {p : Addr} {xs : List V} {H : Hp} {Q : VK} (h : H p = some (.tup xs)) (q : Q (.int xs.length) H) : rLen K [.ref p] H Q := ⟨_, _, rfl, .inr ⟨xs, SqT.of h, rfl⟩, q⟩
section
variable {X : Cx} {H : Hp} {Q : VK} {i j : Int}
/-- // of any size -/
theorem o_fdivW (c : 0 < j ∧ j.natAbs.log2 < 9000) (q : Q (.int (i / j)) H) : opR X .FloorDiv (.int i) (.int j) H Q := o_of op_fdivW ⟨i, j, rfl, rfl, c, q⟩
theorem op_fdivWN : OpR X (binaryOp .FloorDiv) (rI (fun _ j => j ≠ 0 ∧ j.natAbs.log2 < 9000) fun i j => .int (i.fdiv j)) := opI fun _ _ _ _ _ _ _ hc q => PyProof.Rows.floordiv_int hc.1 q (.inl (PyProof.noPylong_of_log2 hc.2))
theorem o_fdivWN (c : j ≠ 0 ∧ j.natAbs.log2 < 9000) (q : Q (.int (i.fdiv j)) H) : opR X .FloorDiv (.int i) (.int j) H Q := o_of op_fdivWN ⟨i, j, rfl, rfl, c, q⟩
theorem o_mulW (c : CMulW i j) (q : Q (.int (i * j)) H) : opR X .Mult (.int i) (.int j) H Q := o_of op_mulW ⟨i, j, rfl, rfl, c, q⟩
theorem o_modN (c : j ≠ 0) (q : Q (.int (i.fmod j)) H) : opR X .Mod (.int i) (.int j) H Q := o_of op_modN ⟨i, j, rfl, rfl, c, q⟩
theorem b_int {x : Str} (bn : Bn X x (.type "int")) : Fn X x rInt1 := ct_mk call_int1 bn
theorem b_abs {x : Str} (bn : Bn X x (.builtin "abs")) : Fn X x rAbs := cb_mk call_abs bn
theorem b_max {x : Str} (hc : X.calm = true) (bn : Bn X x (.builtin "max")) : Fn X x rMax2 := cb_mk (call_max2 hc) bn
theorem b_min {x : Str} (hc : X.calm = true) (bn : Bn X x (.builtin "min")) : Fn X x rMin2 := cb_mk (call_min2 hc) bn
theorem b_len {x : Str} (bn : Bn X x (.builtin "len")) : Fn X x (rLen X.K) := cb_mk call_len bn
end
/-! ### a class's own special methods -/
/-- what a call of the class's def m promises, at any depth near the running body -/
structure Dm (X : Cx) (C : Addr) (m : Str) (sp : List V → Hp → VK → Prop) : Prop where
  ex : ∃ (f : Addr) (CX : CXT) (n : Nat) (s : Sp) (E : XK), PySem.W.findIn X.K (.ref C) m = some (some (.ref f)) ∧ PySem.W.isFn X.K (.ref f) = true ∧
    FnR X.prog X.w X.K X.mg X.base CX n f s ∧ Room (n + 4) X.A ∧ Passes CX X E ∧ ∀ vs H Q, sp vs H Q → s vs H Q E
section
variable {X : Cx} {C a dx : Addr} {m : Str} {sp : List V → Hp → VK → Prop} {pins : List (Addr × Obj)} {σ : St} {H : Hp} {s : Shared} {fs : List (Str × V)} {Q : VK}
theorem dm_mk {f : Addr} {CX : CXT} {n : Nat} {fd : FuncData} {ps : List Str} {s0 : Sp} {ds : List Value} {dvs : List V} {E : XK} (h1 : PySem.W.findIn X.K (.ref C) m = some (some (.ref f))) (h2 : PySem.W.isFn X.K (.ref f) = true)
    (F : FnOk X.prog X.w X.K X.mg X.base CX n f fd ps s0) (hb : Binds X.K fd ps ds) (hd : Vals dvs ds) (hr : Room (n + 4) X.A) (hx : Passes CX X E) : Dm X C m (fun vs H Q => s0 (vs ++ dvs) H Q E) := ⟨⟨f, CX, n, _, E, h1, h2, F.raw hb hd, hr, hx, fun _ _ _ h => h⟩⟩
theorem Dm.imp {sp' : List V → Hp → VK → Prop} (D : Dm X C m sp) (h : ∀ vs H Q, sp' vs H Q → sp vs H Q) : Dm X C m sp' := by
  obtain ⟨f, CX, n, s, E, h1, h2, F, hr, hx, hs⟩ := D.ex
  exact ⟨⟨f, CX, n, s, E, h1, h2, F, hr, hx, fun vs H Q q => hs vs H Q (h vs H Q q)⟩⟩
/-- the callee at a place A' of the same frames -/
theorem dm_run {A' : Around} {f : Addr} {CX : CXT} {n : Nat} {s0 : Sp} {E : XK} {vs : List V} {us : List Value} (F : FnR X.prog X.w X.K X.mg X.base CX n f s0) (hr : Room n A') (e0 : Env0 X.prog X.w X.K X.mg X.base A' X.stack s H) (hx : Passes CX X E)
    (I : Inv X pins σ H s) (r : Vals vs us) (h : s0 vs H Q E) : wpAny (model X.prog X.w) A' (call (.ref f) us) (EP X pins σ Q) X.xe s := wpAny_call (SlX.run_at F hr e0 hx I r h)
theorem ins_at (I : Inv X pins σ H s) (e : H a = some (.ins C dx fs)) : ∃ ox od, PySem.W.InstAt s.heap a ox C (some od) := by
  obtain ⟨mA, O, _⟩ := ins_get I.hok e
  obtain ⟨od, J, _⟩ := O.look
  exact ⟨_, od, J⟩
theorem EP.str {v : Value} {s' : Shared} {Q : Value → Shared → Prop} (z : ∃ x H', Inv X pins σ H' s' ∧ RelV x v ∧ ∃ t, x = .str t ∧ ∀ u, v = .str t u → Q v s') : PySem.W.StrBack Q v s' := by
  obtain ⟨x, H', I', r, t, rfl, q⟩ := z
  obtain ⟨u, rfl⟩ := r
  exact q u rfl
/-- what is asked of a def that shows the object -/
def tSh (sp : List V → Hp → VK → Prop) (C : Addr) (x : V) (H : Hp) (Q : VK) : Prop := ∃ a dx fs, x = .ref a ∧ H a = some (.ins C dx fs) ∧ sp [x] H fun z H' => ∃ t, z = .str t ∧ Q z H'
theorem strback {v : Value} {s' : Shared} (z : EP X pins σ (fun z H' => ∃ t, z = .str t ∧ Q z H') v s') : PySem.W.StrBack (EP X pins σ Q) v s' := by
  obtain ⟨x, H', I', r, t, rfl, q⟩ := z
  obtain ⟨u, rfl⟩ := r
  exact ⟨.str t, H', I', ⟨u, rfl⟩, q⟩
/-- str(o), o's class has its own __str__ -/
theorem call_strO (D : Dm X C "__str__" sp) : CallR X (.type "str") (fun xs H Q => ∃ x, xs = [x] ∧ tSh sp C x H Q) := by
  intro pins s σ H xs us Q I r h
  obtain ⟨x, rfl, a, dx, fs, rfl, e, q⟩ := h
  obtain ⟨u, rfl, ru⟩ := vals1 r
  cases ru
  obtain ⟨f, CX, n, s0, E, h1, h2, F, hr, hx, hs⟩ := D.ex
  obtain ⟨ox, od, J⟩ := ins_at I e
  have r1 := hr.in1
  have r2 := r1.in1
  refine PySem.W.kso_call r2.units0 I.kIn J h1 h2 ?_
  exact wpAny_mono (dm_run F (r2.mono (by omega)) I.env0.in1.in1 hx I (.cons (show RelV (.ref a) _ from rfl) .nil) (hs _ _ _ q)) (fun _ _ z => strback z) fun _ _ z => z
/-- repr(o) -/
theorem call_reprO (D : Dm X C "__repr__" sp) : CallR X (.builtin "repr") (fun xs H Q => ∃ x, xs = [x] ∧ tSh sp C x H Q) := by
  intro pins s σ H xs us Q I r h
  obtain ⟨x, rfl, a, dx, fs, rfl, e, q⟩ := h
  obtain ⟨u, rfl, ru⟩ := vals1 r
  cases ru
  obtain ⟨f, CX, n, s0, E, h1, h2, F, hr, hx, hs⟩ := D.ex
  obtain ⟨ox, od, J⟩ := ins_at I e
  obtain ⟨m, hF⟩ := I.fr
  have r1 := hr.in1
  refine PySem.W.repr_K r1.units0 hF I.ok.mod.kin J h1 h2 ?_
  exact wpAny_mono (dm_run F (r1.mono (by omega)) I.env0.in1 hx I (.cons (show RelV (.ref a) _ from rfl) .nil) (hs _ _ _ q)) (fun _ _ z => strback z) fun _ _ z => z
/-- {o} in an f-string -/
theorem e_fmtO {e : Expr} {pos : Pos} (D : Dm X C "__str__" sp) (hf : PySem.W.findIn X.K (.ref C) "__format__" = some (some (.builtin "object.__format__"))) (hm : PySem.W.mroIn X.K C (.type "object") = some true)
    (h : Go X e σ H fun x H1 => tSh sp C x H1 Q) : Go X (.FormattedValue e (-1) none pos) σ H Q := by
  intro pins s I
  refine wpAny_FormattedValue_plain (thn (h pins s I) fun v s1 hv => ?_)
  obtain ⟨x, H1, I1, r1, a, dx, fs, rfl, e1, q⟩ := hv
  cases r1
  obtain ⟨f, CX, n, s0, E, h1, h2, F, hr, hx, hs⟩ := D.ex
  obtain ⟨ox, od, J⟩ := ins_at I1 e1
  have r2 := hr.in1
  have I2 := I1.tok (s1.toks + 1)
  refine PySem.W.kfo_fieldS r2.units0 I1.kIn J hf hm h1 h2 ?_
  exact wpAny_mono (dm_run F (r2.mono (by omega)) I2.env0.in1 hx I2 (.cons (show RelV (.ref a) _ from rfl) .nil) (hs _ _ _ q)) (fun _ _ z => strback z) fun _ _ z => z
/-- x == y by the class's own __eq__ -/
theorem op_eqO (D : Dm X C "__eq__" sp) : OpR X (compareOp .Eq) (fun x y H Q => ∃ a dx fs t, x = .ref a ∧ H a = some (.ins C dx fs) ∧ TyX X.K H y t ∧ PySem.W.notFirst X.K C t = true ∧ sp [x, y] H Q) := by
  intro pins s σ H x y v u Q I rx ry h
  obtain ⟨a, dx, fs, t, rfl, e, ty, nf, q⟩ := h
  cases rx
  obtain ⟨f, CX, n, s0, E, h1, h2, F, hr, hx, hs⟩ := D.ex
  obtain ⟨ox, od, J⟩ := ins_at I e
  obtain ⟨m, hF⟩ := I.fr
  obtain ⟨P, kx, hP, _⟩ := kit_of I ry ty
  refine PySem.W.cmp_ofEq (PySem.W.cmp_K hr.units0 hF I.ok.mod.kin J (kx.ty _ _ I.kIn hP) nf h1 h2 ?_)
  refine wpAny_mono (dm_run F (hr.mono (by omega)) I.env0 hx I (.cons (show RelV (.ref a) _ from rfl) (.cons ry .nil)) (hs _ _ _ q)) (fun v s' z => ?_) fun _ _ z => z
  obtain ⟨z', H', I', rz, qz⟩ := z
  exact SlX.cmpback rz ⟨z', H', I', rz, qz⟩
end
/-! ### attributes by values -/
def atR (X : Cx) (f : Str) (x : V) (H : Hp) (Q : VK) : Prop := ∀ pins σ s v, Inv X pins σ H s → RelV x v → wpAny (model X.prog X.w) X.A (getAttr v f true) (EP X pins σ Q) X.xe s
section
variable {X : Cx} {C a dx : Addr} {f : Str} {m : Str} {sp : List V → Hp → VK → Prop} {σ : St} {H : Hp} {fs : List (Str × V)} {Q : VK} {e o : Expr} {pos : Pos} {v : V}
theorem e_attr (hb : attributeBase e f X.env (eval e X.env) = eval e X.env) (h : Go X e σ H fun x H1 => atR X f x H1 Q) : Go X (.Attribute e f pos) σ H Q := fun pins s I =>
  attr_of hb (thn (h pins s I) fun v s1 ⟨x, H1, I1, r1, q⟩ => q pins σ s1 v I1 r1)
theorem at_fld (c : Cls X.K C) (n : NoAttr X.K C f) (h : H a = some (.ins C dx fs)) (l : fs.lookup f = some v) (q : Q v H) : atR X f (.ref a) H Q := fun pins σ s u I r => by
  cases r
  exact getattr_ok I h c n l fun u s' I' r' => ⟨v, H, I', r', q⟩
/-- a property of the class -/
structure Pr (X : Cx) (C : Addr) (f : Str) (sp : List V → Hp → VK → Prop) : Prop where
  ex : ∃ (p g : Addr) (CX : CXT) (n : Nat) (fd : FuncData) (ps : List Str) (s0 : Sp) (ds : List Value) (dvs : List V) (E : XK), PropOf X.K C f p g ∧ FnOk X.prog X.w X.K X.mg X.base CX n g fd ps s0 ∧ Room (n + 1) X.A ∧ Binds X.K fd ps ds ∧ Vals dvs ds ∧ Passes CX X.nox E ∧ ∀ x H Q, sp [x] H Q → s0 (x :: dvs) H Q E
theorem at_prop (D : Pr X C f sp) (c : Cls X.K C) (h : H a = some (.ins C dx fs)) (q : sp [.ref a] H Q) : atR X f (.ref a) H Q := fun pins σ s u I r => by
  cases r
  obtain ⟨p, g, CX, n, fd, ps, s0, ds, dvs, E, hp, F, hr, hb, hd, hx, hs⟩ := D.ex
  exact getprop_ok I h c hp F hr hb hd hx (hs _ _ _ q)
/-! ### texts put together -/
theorem e_fmt (h : Go X e σ H fun x H1 => (∃ y : Str, x = .str y ∧ y.length ≤ sizeLine ∧ Q (.str y) H1) ∨ ∃ i : Int, x = .int i ∧ i.natAbs.log2 < 1920 ∧ Q (.str (toString i)) H1) : Go X (.FormattedValue e (-1) none pos) σ H Q := ge (pe_fmt pe) h
/-- the parts of an f-string, from acc on -/
def Gj (X : Cx) : List Expr → Str → St → Hp → (Str → Hp → Prop) → Prop
  | [], acc, _, H, Q => Q acc H
  | e :: es, acc, σ, H, Q => Go X e σ H fun x H1 => ∃ y : Str, x = .str y ∧ (acc ++ y).length ≤ sizeLine ∧ Gj X es (acc ++ y) σ H1 Q
theorem pj_go : ∀ es : List Expr, ∃ ts : List TE, PJ X es ts ∧ ∀ acc σ H Q, Gj X es acc σ H Q → tJs ts acc σ H Q
  | [] => ⟨[], .nil, fun _ _ _ _ h => h⟩
  | e :: es => by
    obtain ⟨ts, p, k⟩ := pj_go es
    refine ⟨Go X e :: ts, .cons pe p, fun acc σ H Q h => ?_⟩
    exact fun pins s I => thn (h pins s I) fun u s1 ⟨x, H1, I1, r, y, e1, hl, q⟩ => ⟨x, H1, I1, r, y, e1, hl, k _ _ _ _ q⟩
theorem e_fstr {e1 e2 : Expr} {es : List Expr} (h : Gj X (e1 :: e2 :: es) Str.empty σ H fun t H' => Q (.str t) H') : Go X (.JoinedStr (e1 :: e2 :: es) pos) σ H Q := by
  obtain ⟨ts, p, k⟩ := pj_go (X := X) (e1 :: e2 :: es)
  exact ge (pe_joined p) (k _ _ _ _ h)
theorem e_fstr1 (h : Go X e σ H Q) : Go X (.JoinedStr [e] pos) σ H Q := ge (pe_joined1 pe) h
theorem j_nil {acc : Str} {Q : Str → Hp → Prop} (q : Q acc H) : Gj X [] acc σ H Q := q
theorem j_cons {acc : Str} {es : List Expr} {Q : Str → Hp → Prop} (h : Go X e σ H fun x H1 => ∃ y : Str, x = .str y ∧ (acc ++ y).length ≤ sizeLine ∧ Gj X es (acc ++ y) σ H1 Q) : Gj X (e :: es) acc σ H Q := h
/-! ### isinstance -/
theorem b_isi {x : Str} (bn : Bn X x (.builtin "isinstance")) : Fn X x (rIsi X.K) := cb_mk call_isi bn
theorem r_isi {K : PySem.W.Frag} {x c : V} {t u : Value} {b : Bool} (hc : ClsV c u) (ty : TyX K H x t) (k : PySem.W.kitOne K t u = some b) (q : Q (.bl b) H) : rIsi K [x, c] H Q := ⟨x, c, t, u, b, rfl, hc, ty, k, q⟩
/-! ### small operators -/
theorem o_subB {p q : Bool} (h : Q (.int (PyProof.Rows.b2i p - PyProof.Rows.b2i q)) H) : opR X .Sub (.bl p) (.bl q) H Q := fun pins σ s v u I r1 r2 => by
  cases r1
  cases r2
  exact PyProof.Rows.sub_bool ⟨.int _, H, I.tok _, ⟨_, rfl⟩, h⟩
/-! ### strings and lists of the builtins -/
theorem b_strI {x : Str} (bn : Bn X x (.type "str")) : Fn X x (fun xs H Q => ∃ i : Int, xs = [.int i] ∧ i.natAbs.log2 < 1920 ∧ Q (.str (toString i)) H) := ct_mk call_str_int bn
end
/-! ### a, b = x, y of local names -/
structure Sk (X : Cx) (x : Str) : Prop where
  s : X.env.scope.names.lookup x = some .local
theorem sw_by {X : Cx} {sc : Scope} {tg : List Expr} {v : Expr} {r : Sem (Option (List Str))} (hsc : X.env.scope = sc) (h : ∀ env : Env, swappedStores tg v { env with scope := sc } = r) : swappedStores tg v X.env = r := by
  have q := h X.env
  rw [← hsc] at q
  exact q
/-! ### while -/
section
variable {X : Cx} {c : Expr} {body : List Stmt} {D : Ends} {σ : St} {H : Hp} {pos : Pos}
/-- W: what holds ahead of each turn, by a number that falls -/
theorem s_wh (hp : PassesOwn (model X.prog X.w) X.A X.env X.xe) (W : Nat → St → Hp → Prop) (m : Nat) (w0 : W m σ H)
    (hs : ∀ m σ H, W m σ H → Gt X c σ H fun b H1 => cnd b (∃ N : St → Hp → Prop, (∀ σ' H', N σ' H' → ∃ m', m' < m ∧ W m' σ' H') ∧ Gb X body { D with nx := N, ct := N, bk := D.nx } σ H1) (D.nx σ H1)) : Gs X (.While c body [] pos) D σ H := s_while hp ⟨W, ⟨m, w0⟩, hs⟩
end
theorem e_bty {X : Cx} {σ : St} {H : Hp} {Q : VK} {x : Str} {pos : Pos} {T : String} (g : Bn X x (.type T)) (q : Q (.ty T) H) : Go X (.Name x pos) σ H Q := e_blt g (v := .ty T) rfl q
theorem gcdm {x y : Int} (hx : 0 ≤ x) (hy : 0 ≤ y) : Int.gcd y (x % y) = Int.gcd x y := by
  obtain ⟨n, rfl⟩ := Int.eq_ofNat_of_zero_le hx
  obtain ⟨m, rfl⟩ := Int.eq_ofNat_of_zero_le hy
  rw [← Int.natCast_emod]
  simp only [Int.gcd, Int.natAbs_natCast]
  rw [Nat.gcd_comm m, ← Nat.gcd_rec, Nat.gcd_comm]
/-! ### fractions in lowest terms -/
def dv (a b : Int) : Int := if b < 0 then 0 - (Int.gcd a b : Int) else (Int.gcd a b : Int)
def low (a b : Int) : Int × Int := (Int.fdiv a (dv a b), Int.fdiv b (dv a b))
theorem dv_ne {a b : Int} (h : b ≠ 0) : dv a b ≠ 0 := by
  have h1 : Int.gcd a b ≠ 0 := fun e => h (Int.gcd_eq_zero_iff.mp e).2
  unfold dv
  split <;> omega
theorem dv_abs (a b : Int) : (dv a b).natAbs = Int.gcd a b := by
  unfold dv
  split <;> omega
theorem dv_l (a b : Int) : dv a b ∣ a := by
  rw [← Int.natAbs_dvd_natAbs, dv_abs]
  exact Nat.gcd_dvd_left _ _
theorem dv_r (a b : Int) : dv a b ∣ b := by
  rw [← Int.natAbs_dvd_natAbs, dv_abs]
  exact Nat.gcd_dvd_right _ _
theorem low_l (a b : Int) : (low a b).1 * dv a b = a := Int.fdiv_mul_cancel (dv_l a b)
theorem low_r (a b : Int) : (low a b).2 * dv a b = b := Int.fdiv_mul_cancel (dv_r a b)
theorem low_pos {a b : Int} (h : b ≠ 0) : 0 < (low a b).2 := by
  have e := low_r a b
  have n := dv_ne (a := a) h
  by_cases hb : b < 0
  · have d : dv a b < 0 := by
      have q : dv a b = 0 - (Int.gcd a b : Int) := by unfold dv; rw [if_pos hb]
      omega
    by_cases z : 0 < (low a b).2
    · exact z
    · have := Int.mul_nonneg_of_nonpos_of_nonpos (a := (low a b).2) (b := dv a b) (by omega) (by omega)
      omega
  · have d : 0 < dv a b := by
      have q : dv a b = (Int.gcd a b : Int) := by unfold dv; rw [if_neg hb]
      omega
    by_cases z : 0 < (low a b).2
    · exact z
    · have := Int.mul_nonpos_of_nonpos_of_nonneg (a := (low a b).2) (b := dv a b) (by omega) (by omega)
      omega
theorem low_gcd {a b : Int} (h : b ≠ 0) : Int.gcd (low a b).1 (low a b).2 = 1 := by
  have g : 0 < Int.gcd a b := Nat.pos_of_ne_zero fun e => h (Int.gcd_eq_zero_iff.mp e).2
  have e1 : Int.gcd ((low a b).1 * dv a b) ((low a b).2 * dv a b) = Int.gcd (low a b).1 (low a b).2 * (dv a b).natAbs := Int.gcd_mul_right ..
  rw [low_l, low_r, dv_abs] at e1
  exact (Nat.eq_of_mul_eq_mul_right g (by omega : 1 * Int.gcd a b = Int.gcd (low a b).1 (low a b).2 * Int.gcd a b)).symm
/-- lowest terms are one -/
theorem low_of {a b x y k : Int} (hk : k ≠ 0) (hy : 0 < y) (g : Int.gcd x y = 1) (ha : a = x * k) (hb : b = y * k) : low a b = (x, y) := by
  subst ha
  subst hb
  have e : Int.gcd (x * k) (y * k) = k.natAbs := by rw [Int.gcd_mul_right, g, Nat.one_mul]
  have d : dv (x * k) (y * k) = k := by
    unfold dv
    rw [e]
    by_cases z : k < 0
    · rw [if_pos (Int.mul_neg_of_pos_of_neg hy z)]
      omega
    · rw [if_neg (by have := Int.mul_nonneg (Int.le_of_lt hy) (by omega : 0 ≤ k); omega)]
      omega
  unfold low
  rw [d, Int.mul_fdiv_cancel _ hk, Int.mul_fdiv_cancel _ hk]
theorem low_self {x y : Int} (hy : 0 < y) (g : Int.gcd x y = 1) : low x y = (x, y) := low_of (k := 1) (by decide) hy g (by omega) (by omega)
theorem low_one (x : Int) : low x 1 = (x, 1) := low_self (by decide) (by simp)
theorem low_le {a b : Int} (h : b ≠ 0) : (low a b).1.natAbs ≤ a.natAbs ∧ (low a b).2.natAbs ≤ b.natAbs := by
  have g : 0 < (dv a b).natAbs := by have := dv_ne (a := a) h; omega
  have e1 := congrArg Int.natAbs (low_l a b)
  have e2 := congrArg Int.natAbs (low_r a b)
  rw [Int.natAbs_mul] at e1 e2
  constructor
  · rw [← e1]; exact Nat.le_mul_of_pos_right _ g
  · rw [← e2]; exact Nat.le_mul_of_pos_right _ g
theorem dv_le {a b : Int} (h : b ≠ 0) : (dv a b).natAbs ≤ b.natAbs := by
  rw [dv_abs]
  exact Nat.le_of_dvd (by omega) (Nat.gcd_dvd_right _ _)
theorem log_le {n m : Nat} (h : n ≤ m) : n.log2 ≤ m.log2 := by
  by_cases z : n = 0
  · subst z; simp
  · exact (Nat.le_log2 (by omega)).mpr (Nat.le_trans (Nat.log2_self_le z) h)
/-- the text of a fraction in lowest terms -/
def nTxt (x y : Int) : Str := if y = 1 then toString x else toString x ++ "/" ++ toString y
def nF (x y : Int) : List (Str × V) := [("top", .int x), ("bottom", .int y)]
theorem nF_t (x y : Int) : (nF x y).lookup ("top" : Str) = some (.int x) := rfl
theorem nF_ne : ¬ (("top" : Str) = "bottom") := by decide +kernel
theorem nF_b (x y : Int) : (nF x y).lookup ("bottom" : Str) = some (.int y) := by
  unfold nF
  simp [List.lookup, show (("bottom" : Str) == "top") = false by decide +kernel]
theorem nF_p1 (v : V) : putF "top" v [] = [(("top" : Str), v)] := rfl
theorem nF_p2 (v w : V) : putF "bottom" w [(("top" : Str), v)] = [(("top" : Str), v), (("bottom" : Str), w)] := by
  unfold putF
  rw [if_neg nF_ne]
  rfl
/-- a Number -/
def NumAt (C : Addr) (H : Hp) (p : Addr) (x y : Int) : Prop := ∃ dx, H p = some (.ins C dx (nF x y))
theorem NumAt.go {C : Addr} {H H' : Hp} {p : Addr} {x y : Int} (n : NumAt C H p x y) (e : Ex H H') : NumAt C H' p x y := let ⟨dx, h⟩ := n; ⟨dx, e _ _ h⟩
theorem NumAt.goB {C : Addr} {H H' : Hp} {p q : Addr} {x y : Int} (n : NumAt C H p x y) (s : Spr H q) (e : ExB q H H') : NumAt C H' p x y := let ⟨dx, h⟩ := n; ⟨dx, e _ _ (s.neI h) h⟩
theorem gcd_abs (a b : Int) : Int.gcd (if a < 0 then -a else a) (if b < 0 then -b else b) = Int.gcd a b := by
  split <;> split <;> simp [Int.gcd]
theorem lg {d b : Int} (h : d.natAbs ≤ b.natAbs) (hb : b.natAbs.log2 < 9000) : d.natAbs.log2 < 9000 := Nat.lt_of_le_of_lt (log_le h) hb
/-! ### texts of numbers: their lengths -/
theorem len_i {i : Int} {k : Nat} (h0 : 0 < k) (h : i.natAbs.log2 < k) : (Str.ofString (toString i)).length ≤ k + 1 := by
  have e := int_text_length_le h0 h
  have q := ofString_length (toString i)
  omega
theorem len_app (s t : Str) : (s ++ t).length = s.length + t.length := Str.length_append s t
theorem line_ge : (100000 : Nat) ≤ sizeLine := by decide
theorem kit_same {K : PySem.W.Frag} {t : Value} : PySem.W.kitOne K t t = some true := by unfold PySem.W.kitOne; rw [if_pos (by simp)]
theorem nTxt_len {x y : Int} (hx : x.natAbs.log2 < 1900) (hy : y.natAbs.log2 < 1900) : (nTxt x y).length ≤ 5000 := by
  have h1 := len_i (by decide) hx
  have h2 := len_i (by decide) hy
  unfold nTxt
  split
  · omega
  · rw [len_app, len_app]
    have h3 : (Str.ofString "/").length = 1 := rfl
    omega
/-! ### a comprehension's block -/
def Blk (X : Cx) (scope : Scope) (Y : Cx) : Prop := ∃ (s : Shared) (H : Hp) (C : Addr) (cl : List (Str × Addr)) (fp : List Addr), Y = X.blk s H scope (compEnvC scope cl C X.env) fp
def compS : Expr → Scope
  | .ListComp _ _ sc _ => sc
  | _ => { kind := .function, names := [], isGenerator := false, isCoroutine := false }
/-- the names of the block that runs -/
theorem blk_scope {X Y : Cx} {scope : Scope} (h : Blk X scope Y) : Y.env.scope = relS scope X.env.scope := by
  obtain ⟨s, H, C, cl, fp, rfl⟩ := h
  rfl
theorem sl_blk {X Y : Cx} {scope sc : Scope} {N : List Str} {i : Nat} {x : Str} (h : Blk X scope Y) (hsc : X.env.scope = sc) (hN : X.N = N) (h1 : N[i]? = some x) (h2 : Vis (relS scope sc) x) (h3 : (x == ("__debug__" : Str)) = false) (h4 : (x == ("__classdict__" : Str)) = false) : Sl Y i x := by
  have e := blk_scope h
  obtain ⟨s, H, C, cl, fp, rfl⟩ := h
  exact ⟨by rw [← hN] at h1; exact h1, by rw [e, hsc]; exact h2, h3, h4⟩
theorem sw_blk {X Y : Cx} {scope sc : Scope} {N : List Str} {i : Nat} {x : Str} (h : Blk X scope Y) (hsc : X.env.scope = sc) (hN : X.N = N) (h1 : N[i]? = some x) (h2 : (relS scope sc).names.lookup x = some .local) (nd : N.Nodup) : Sw Y i x := by
  have e := blk_scope h
  obtain ⟨s, H, C, cl, fp, rfl⟩ := h
  exact ⟨by rw [← hN] at h1; exact h1, .inl (by rw [e, hsc]; exact h2), .inr (by rw [e, hsc]; exact h2), by rw [← hN] at nd; exact nd⟩
theorem gl_blk {X Y : Cx} {scope sc : Scope} {x : Str} (h : Blk X scope Y) (hsc : X.env.scope = sc) (h2 : (relS scope sc).names.lookup x = some .globalImplicit) : Gl Y x := by
  have e := blk_scope h
  show Y.env.scope.names.lookup x = _
  rw [e, hsc]
  exact h2
/-- the same code may be called -/
structure Like (X Y : Cx) : Prop where
  prog : Y.prog = X.prog
  w : Y.w = X.w
  K : Y.K = X.K
  mg : Y.mg = X.mg
  base : Y.base = X.base
  A : Y.A = X.A
  calm : Y.calm = X.calm
theorem Blk.like {X Y : Cx} {scope : Scope} (h : Blk X scope Y) : Like X Y := by
  obtain ⟨s, H, C, cl, fp, rfl⟩ := h
  exact ⟨rfl, rfl, rfl, rfl, rfl, rfl, rfl⟩
theorem Like.rfl' {X : Cx} : Like X X := ⟨rfl, rfl, rfl, rfl, rfl, rfl, rfl⟩
/-- a call that never raises, wherever it stands -/
def Cal (X : Cx) (u : Value) (sp : List V → Hp → VK → Prop) : Prop := ∀ Y, Like X Y → CallR Y u sp
theorem cal_fn {X : Cx} {k : Nat} {f : Addr} {fd : FuncData} {ps : List Str} {sq : Sp} {dvs : List V} {ds : List Value} (F : FnOk X.prog X.w X.K X.mg X.base CX0 k f fd ps sq) (hr : Room k X.A) (hb : Binds X.K fd ps ds) (hd : Vals dvs ds) : Cal X (.ref f) (fun vs H Q => sq (vs ++ dvs) H Q E0) := by
  rintro Y ⟨e1, e2, e3, e4, e5, e6, _⟩
  rw [← e1, ← e2, ← e3, ← e4, ← e5] at F
  rw [← e6] at hr
  rw [← e3] at hb
  exact cr_fn F hr hb hd pass0
theorem Cal.at {X Y : Cx} {f : Addr} {x : Str} {sp : List V → Hp → VK → Prop} (c : Cal X (.ref f) sp) (l : Like X Y) (hg : Gl Y x) (hm : X.mg x = some (.ref f)) (hk : PySem.W.keepIn X.K (.ref f) = true) (hdb : (x == ("__debug__" : Str)) = false) : Fn Y x sp :=
  ⟨⟨_, c Y l, .own (by rw [l.mg]; exact hm) (by rw [l.K]; exact hk)⟩, hg, hdb⟩
section
variable {X : Cx} {σ : St} {H : Hp} {Q : VK} {elt iter : Expr} {scope : Scope} {own : List (Str × Nat)} {pos tp : Pos} {tn : Str} {j : Nat}
/-- [elt for tn in iter], by its walk: Pv of the turn and the heap, the new list at D within -/
theorem e_lcw (hc : X.calm = true) (hN : X.N.Nodup) (ok : BlkOk X.N X.env.scope scope own) (hf : ∀ x, foldedSetIterable iter X.env x = pure x) (hw : ∀ Z, Blk X scope Z → Sw Z j tn) (hj : ∀ v, wipe ((wipe σ (own.map (·.2))).set j (some v)) (own.map (·.2)) = wipe σ (own.map (·.2)))
    (h : Gi X (.Name tn tp) iter σ H fun J H1 => ∃ (n : Nat) (G : Hp → Prop) (Y : Nat → Hp → V → Hp → Prop), Walk J n G Y ∧ ∀ D, H1 D = none → ∃ Pv : Nat → Hp → Prop, Pv 0 (upd H1 D (.lst [])) ∧ (∀ i H, i ≤ n → Pv i H → G H) ∧
      (∀ i x H H', i < n → Pv i H → Y i H x H' → ∀ Z, Blk X scope Z → Go Z elt ((wipe σ (own.map (·.2))).set j (some x)) H' fun y H4 => ∃ acc, H4 D = some (.lst acc) ∧ acc.length < sizeLine ∧ Pv (i + 1) (upd H4 D (.lst (acc ++ [y])))) ∧
      ∀ H, Pv n H → Q (.ref D) H) : Go X (.ListComp elt [⟨.Name tn tp, iter, [], 0⟩] scope pos) σ H Q := by
  refine ge (pe_lc (g := gName j) (tt := tYes) (te := fun σ H Q => ∀ Z, Blk X scope Z → Go Z elt σ H Q) hc hN pi ok
    (fun s H C cl fp => ?_) (fun _ _ _ _ _ => pts_nil) (fun s H C cl fp => ⟨fun pins s' σ H Q I h => h _ ⟨s, _, C, cl, fp, rfl⟩ pins s' I⟩) hf) ?_
  · have w := hw _ ⟨s, H, C, cl, fp, rfl⟩
    exact pg_name w.nd w.n w.l w.f
  · intro pins s I
    refine thn (h pins s I) fun v s1 q => thn q fun itv s2 ⟨it, fp, tn, J, H1, e, I2, T, st, f2, n, G, Y, w, k⟩ => ⟨it, fp, tn, J, H1, e, I2, T, st, f2, fun D hD => ?_⟩
    obtain ⟨Pv, h0, hG, hs, hd⟩ := k D hD
    exact lc_it (g := gName j) (tt := tYes) (te := fun σ H Q => ∀ Z, Blk X scope Z → Go Z elt σ H Q) (vs := own.map (·.2)) (σ := σ) (Qd := fun H => Q (.ref D) H) w Pv h0 hG (fun i x H H' hi p y => ⟨hj x, fun Z hZ => hs i x H H' hi p y Z hZ⟩) hd
/-- .. whose elements leave all as it is: R says of each value what it is -/
theorem e_map (hc : X.calm = true) (hN : X.N.Nodup) (ok : BlkOk X.N X.env.scope scope own) (hf : ∀ x, foldedSetIterable iter X.env x = pure x) (hw : ∀ Z, Blk X scope Z → Sw Z j tn) (hj : ∀ v, wipe ((wipe σ (own.map (·.2))).set j (some v)) (own.map (·.2)) = wipe σ (own.map (·.2)))
    (h : Gi X (.Name tn tp) iter σ H fun J H1 => ∃ (n : Nat) (G : Hp → Prop) (Y : Nat → Hp → V → Hp → Prop) (R : Nat → V → Prop), Walk J n G Y ∧ n ≤ 100000 ∧ (∀ H', Ex H1 H' → G H') ∧
      (∀ i x H' H2, i < n → Ex H1 H' → Y i H' x H2 → ∀ Z, Blk X scope Z → Go Z elt ((wipe σ (own.map (·.2))).set j (some x)) H2 fun y H4 => Ex H' H4 ∧ R i y) ∧
      (∀ ys D H', ys.length = n → (∀ i y, ys[i]? = some y → R i y) → H1 D = none → Ex H1 H' → H' D = some (.lst ys) → Q (.ref D) H')) : Go X (.ListComp elt [⟨.Name tn tp, iter, [], 0⟩] scope pos) σ H Q := by
  refine e_lcw hc hN ok hf hw hj fun pins s I => thn (h pins s I) fun v s1 q => thn q fun itv s2 ⟨it, fp, tn, J, H1, e, I2, T, st, f2, n, G, Y, R, w, hn, hG, hs, hd⟩ => ⟨it, fp, tn, J, H1, e, I2, T, st, f2, n, G, Y, w, fun D hD => ?_⟩
  refine ⟨fun i H' => ∃ ys, H' D = some (.lst ys) ∧ ys.length = i ∧ (∀ k y, ys[k]? = some y → R k y) ∧ Ex H1 H', ⟨[], upd_same, rfl, fun k y z => by simp at z, Ex.new hD⟩, fun i H _ ⟨_, _, _, _, e⟩ => hG H e, ?_, ?_⟩
  · rintro i x H2 H3 hi ⟨ys, e1, rfl, hr, ex⟩ hy Z hZ pins s I
    refine thn (hs _ x H2 H3 hi ex hy Z hZ pins s I) fun v s' ⟨y, H4, I4, r4, e4, hR⟩ => ⟨y, H4, I4, r4, ys, e4 _ _ e1, ?_, ys ++ [y], upd_same, by simp, fun k z hz => ?_, fun a o q => ?_⟩
    · have : (100000 : Nat) ≤ sizeLine := by decide
      omega
    · by_cases hk : k < ys.length
      · rw [List.getElem?_append_left hk] at hz
        exact hr k z hz
      · have e : k = ys.length := by
          have := (List.getElem?_eq_some_iff.mp hz).1
          simp at this
          omega
        subst e
        simp at hz
        subst hz
        exact hR
    · rw [upd_ne (ne_of_none q hD)]
      exact e4 _ _ (ex _ _ q)
  · rintro H' ⟨ys, e1, hl, hr, ex⟩
    exact hd ys D H' hl hr hD ex e1
/-- over a text -/
theorem i_str {tg e : Expr} {R : It → Hp → Prop} (h : Go X e σ H fun v H1 => ∃ x, v = .str x ∧ R (Its x) H1) : Gi X tg e σ H R := gi (pi_str pe) h
/-! ### names as a tuple's targets -/
theorem g_tup2 {a b : Str} {pa' pb' : Pos} {i j k : Nat} {v : V} {Q : St → Hp → Prop} (hc : X.calm = true) (w1 : Sw X i a) (w2 : Sw X j b) (h : ∃ p x y, v = .ref p ∧ H p = some (.tup [x, y]) ∧ stR i x σ H fun σ1 H1 => stR j y σ1 H1 Q) : Gg X (.Tuple [.Name a pa', .Name b pb'] k pos) v σ H Q := by
  obtain ⟨p, x, y, e, ht, q⟩ := h
  exact gg (pg_tup (n := 2) hc (pgs_cons (pg_name w1.nd w1.n w1.l w1.f) (pgs_cons (pg_name w2.nd w2.n w2.l w2.f) pgs_nil))) ⟨p, [x, y], e, SqT.of ht, rfl, x, [y], rfl, y, [], rfl, rfl, q⟩
theorem g_tup3 {a b c : Str} {pa' pb' pc' : Pos} {i j l k : Nat} {v : V} {Q : St → Hp → Prop} (hc : X.calm = true) (w1 : Sw X i a) (w2 : Sw X j b) (w3 : Sw X l c) (h : ∃ p x y z, v = .ref p ∧ H p = some (.tup [x, y, z]) ∧ stR i x σ H fun σ1 H1 => stR j y σ1 H1 fun σ2 H2 => stR l z σ2 H2 Q) : Gg X (.Tuple [.Name a pa', .Name b pb', .Name c pc'] k pos) v σ H Q := by
  obtain ⟨p, x, y, z, e, ht, q⟩ := h
  exact gg (pg_tup (n := 3) hc (pgs_cons (pg_name w1.nd w1.n w1.l w1.f) (pgs_cons (pg_name w2.nd w2.n w2.l w2.f) (pgs_cons (pg_name w3.nd w3.n w3.l w3.f) pgs_nil)))) ⟨p, [x, y, z], e, SqT.of ht, rfl, x, [y, z], rfl, y, [z], rfl, z, [], rfl, rfl, q⟩
/-! ### slices, methods of texts -/
theorem e_slS {lo hi : Option Expr} {tl th : TO} {e : Expr} {p2 : Pos} (hl : PO X lo tl) (hu : PO X hi th) (h : Go X e σ H fun x H1 => tl σ H1 fun l H2 => th σ H2 fun u H3 => rSlS x l u H3 Q) : Go X (.Subscript e (.Slice lo hi none p2) pos) σ H Q := ge (pe_slice sl_str pe hl hu) h
theorem e_part {o e : Expr} {apos : Pos} (hs : starEach [e] X.env = [(false, eval e X.env)]) (hbase : attributeBase o "partition" X.env (eval o X.env) = eval o X.env) (hline : (apos.endLine == pos.line) = true)
    (h : Go X o σ H fun x H1 => (∃ a, x = .str a) ∧ Go X e σ H1 fun y H2 => ∃ a b, x = .str a ∧ y = .str b ∧ (b.length == 0) = false ∧ a.length ≤ 100000 ∧ ∀ p H', H2 p = none → Ex H2 H' → H' p = some (.tup [.str (Txt.partition a b).1, .str (Txt.partition a b).2.1, .str (Txt.partition a b).2.2]) → Q (.ref p) H') : Go X (.Call (.Attribute o "partition" apos) [e] [] pos) σ H Q := by
  refine ge (pe_partition pe pe hs hbase hline) ?_
  intro pins s I
  refine thn (h pins s I) fun v s1 ⟨x, H1, I1, r1, q1, q⟩ => ⟨x, H1, I1, r1, q1, fun pins s I => thn (q pins s I) fun u s2 ⟨y, H2, I2, r2, a, b, e1, e2, h1, h2, k⟩ => ⟨y, H2, I2, r2, a, b, e1, by rw [e2], h1, Nat.le_trans h2 (by decide), fun p hp => k p _ hp (Ex.new hp) upd_same⟩⟩
theorem b_all {x : Str} (hc : X.calm = true) (bn : Bn X x (.builtin "all")) : Fn X x (rAll X.K) := cb_mk (cr_all hc) bn
theorem r_all {K : PySem.W.Frag} {p : Addr} {bs : List Bool} (h : H p = some (.lst (bs.map V.bl))) (q : Q (.bl (bs.all id)) H) : rAll K [.ref p] H Q := ⟨p, bs, rfl, SqL.of h, q⟩
def rIntS : List V → Hp → VK → Prop := fun xs H Q => rInt1 xs H Q ∨ ∃ a n, xs = [.str a] ∧ PySem.intText? a = some n ∧ a.length ≤ 640 ∧ Q (.int n) H
theorem b_intS {x : Str} (bn : Bn X x (.type "int")) : Fn X x rIntS := ct_mk (CallR.or call_int1 call_int_str) bn
theorem r_intI {i : Int} (q : Q (.int i) H) : rIntS [.int i] H Q := .inl (r_int q)
theorem r_intT {a : Str} {n : Int} (h : PySem.intText? a = some n) (hl : a.length ≤ 640) (q : Q (.int n) H) : rIntS [.str a] H Q := .inr ⟨a, n, rfl, h, hl, q⟩
/-- one sign in a text -/
theorem c_inS {c : Nat} {z : Str} (q : Q (.bl (decide (c ∈ z.cps.toList))) H) : cmR X .In (.str ⟨#[c]⟩) (.str z) H Q := c_of op_in_sign ⟨c, z, rfl, rfl, q⟩
end
/-! ### texts of numbers, read -/
section
open TL PySem.Builtin PySem.Builtin.Str
theorem np_ok {σ : St} {H : Hp} {Q : Option Int → Hp → Prop} (q : Q none H) : tNoPart σ H Q := q
theorem tp_ok {X : Cx} {e : Expr} {σ : St} {H : Hp} {Q : Option Int → Hp → Prop} (h : Go X e σ H fun x H1 => ∃ i, x = .int i ∧ Q (some i) H1) : tPart (Go X e) σ H Q := h
theorem sls_ok {z : Str} {lo hi : Option Int} {H : Hp} {Q : VK} (hl : z.length ≤ 100000) (q : Q (.str (cutS z lo hi)) H) : rSlS (.str z) lo hi H Q := ⟨z, rfl, Nat.le_trans hl (by decide), q⟩
theorem cutS_1 (z : Str) : cutS z none (some 1) = ⟨(z.cps.toList.take 1).toArray⟩ := by
  unfold cutS
  have e1 : HT.sIx z.length 0 none = 0 := rfl
  have e2 : HT.sIx z.length z.length (some 1) = min 1 z.length := HT.sIx_nat _ _ 1
  rw [e1, e2, List.drop_zero, Nat.sub_zero]
  congr 2
  have hl : z.cps.toList.length = z.length := Array.length_toList
  by_cases h : z.length = 0
  · have : z.cps.toList = [] := List.length_eq_zero_iff.mp (by omega)
    rw [this]
    simp
  · rw [show min 1 z.length = 1 by omega]
theorem cutS_t (z : Str) : cutS z (some 1) none = ⟨(z.cps.toList.drop 1).toArray⟩ := by
  unfold cutS
  have e1 : HT.sIx z.length 0 (some 1) = min 1 z.length := HT.sIx_nat _ _ 1
  have e2 : HT.sIx z.length z.length none = z.length := rfl
  rw [e1, e2]
  have hl : z.cps.toList.length = z.length := Array.length_toList
  congr 2
  by_cases h : z.length = 0
  · have : z.cps.toList = [] := List.length_eq_zero_iff.mp (by omega)
    rw [this]
    simp
  · rw [show min 1 z.length = 1 by omega, List.take_of_length_le (by rw [List.length_drop]; omega)]
theorem str_ext {s t : Str} (h : s.cps.toList = t.cps.toList) : s = t := Str.ext' (Array.ext' h)
theorem slash_tl : tl ("/" : Str) = 47 :: [] := by decide +kernel
theorem dash_tl : tl ("-" : Str) = [45] := by decide +kernel
/-- what partition makes -/
theorem part_of (t : Str) : (∃ a b, t = a ++ ("/" : Str) ++ b ∧ 47 ∉ tl a ∧ Txt.partition t "/" = (a, ("/" : Str), b)) ∨ (47 ∉ tl t ∧ Txt.partition t "/" = (t, Str.empty, Str.empty)) := by
  by_cases h : 47 ∈ tl t
  · refine .inl ?_
    obtain ⟨l, r, e, hl⟩ : ∃ l r, tl t = l ++ 47 :: r ∧ 47 ∉ l := by
      generalize tl t = cs at h
      induction cs with
      | nil => simp at h
      | cons c cs ih =>
        by_cases hc : c = 47
        · subst hc
          exact ⟨[], cs, rfl, by simp⟩
        · obtain ⟨l, r, e, hl⟩ := ih ((List.mem_cons.mp h).resolve_left (Ne.symm hc))
          exact ⟨c :: l, r, by rw [e]; rfl, by simp [hl, Ne.symm hc]⟩
    have et : t = (⟨l.toArray⟩ : Str) ++ ("/" : Str) ++ (⟨r.toArray⟩ : Str) := str_ext (by
      have q : ("/" : Str).cps.toList = [47] := slash_tl
      simp only [Str.cps_append, Array.toList_append, q]
      rw [show t.cps.toList = l ++ 47 :: r from e]
      simp)
    refine ⟨⟨l.toArray⟩, ⟨r.toArray⟩, et, by simpa [tl] using hl, ?_⟩
    conv => lhs; rw [et]
    exact partition_app slash_tl (by simpa [tl] using hl)
  · exact .inr ⟨h, partition_none slash_tl h⟩
theorem part_len (t : Str) : (Txt.partition t "/").1.length ≤ t.length ∧ (Txt.partition t "/").2.2.length ≤ t.length := by
  rcases part_of t with ⟨a, b, e, _, q⟩ | ⟨_, q⟩
  · rw [q, e, len_app, len_app]
    exact ⟨by show a.length ≤ _; omega, by show b.length ≤ _; omega⟩
  · rw [q]
    exact ⟨Nat.le_refl _, Nat.zero_le _⟩
def digs (s : Str) : Bool := decide (s ≠ "") && s.cps.toList.all fun c => decide (c ∈ ("0123456789" : Str).cps.toList)
theorem dig_in {c : Nat} : c ∈ ("0123456789" : Str).cps.toList ↔ 48 ≤ c ∧ c ≤ 57 := by
  have e : ("0123456789" : Str).cps.toList = [48, 49, 50, 51, 52, 53, 54, 55, 56, 57] := by decide +kernel
  rw [e]
  simp
  omega
theorem digs_all {s : Str} (h : digs s = true) : PySem.NumText.AllDigits s.cps.toList ∧ s.cps.toList ≠ [] := by
  unfold digs at h
  rw [Bool.and_eq_true] at h
  refine ⟨fun c hc => dig_in.mp (of_decide_eq_true (List.all_eq_true.mp h.2 c hc)), fun e => of_decide_eq_true h.1 (str_ext (e.trans (by decide +kernel)))⟩
def neg1 (t : Str) : Bool := decide (cutS t none (some 1) = "-")
theorem neg1_of {t : Str} (h : neg1 t = true) : ∃ cs, t.cps.toList = 45 :: cs := by
  have e := of_decide_eq_true h
  rw [cutS_1] at e
  have e2 : t.cps.toList.take 1 = [45] := by
    have q := congrArg (fun s : Str => s.cps.toList) e
    simpa [dash_tl] using q.trans dash_tl
  cases hc : t.cps.toList with
  | nil => rw [hc] at e2; cases e2
  | cons c cs =>
    rw [hc] at e2
    simp at e2
    rw [e2]
    exact ⟨cs, rfl⟩
def numD (t : Str) : Str := if neg1 (Txt.partition t "/").1 = true then cutS (Txt.partition t "/").1 (some 1) none else (Txt.partition t "/").1
def numB (t : Str) : Str := if (Txt.partition t "/").2.1 = "" then "1" else (Txt.partition t "/").2.2
def numV (t : Str) : Int := if neg1 (Txt.partition t "/").1 = true then -((PySem.NumText.digitsVal (numD t).cps.toList : Nat) : Int) else ((PySem.NumText.digitsVal (numD t).cps.toList : Nat) : Int)
def numW (t : Str) : Int := ((PySem.NumText.digitsVal (numB t).cps.toList : Nat) : Int)
def numIn (t : Str) : Option (Int × Int) := if digs (numD t) = true ∧ digs (numB t) = true ∧ numW t ≠ 0 then some (numV t, numW t) else none
theorem cut_len (z : Str) : (cutS z (some 1) none).length ≤ z.length := by
  rw [cutS_t]
  show (z.cps.toList.drop 1).toArray.size ≤ z.cps.size
  simp
theorem numD_len (t : Str) : (numD t).length ≤ t.length := by
  have h := (part_len t).1
  unfold numD
  split
  · exact Nat.le_trans (cut_len _) h
  · exact h
theorem numB_len (t : Str) : (numB t).length ≤ t.length + 1 := by
  have h := (part_len t).2
  unfold numB
  split
  · show 1 ≤ _; omega
  · omega
/-- int(top) -/
theorem int_top {t : Str} (hl : t.length ≤ 600) (h : digs (numD t) = true) : intText? (Txt.partition t "/").1 = some (numV t) := by
  have hp := (part_len t).1
  obtain ⟨hd, hn⟩ := digs_all h
  unfold numV
  unfold numD at hd hn ⊢
  by_cases z : neg1 (Txt.partition t "/").1 = true
  · rw [if_pos z] at hd hn ⊢
    obtain ⟨cs, e⟩ := neg1_of z
    rw [cutS_t, e] at hd hn ⊢
    simp only [List.drop_succ_cons, List.drop_zero, if_pos z] at hd hn ⊢
    exact PySem.intText_neg e hd hn (by omega)
  · rw [if_neg z] at hd hn ⊢
    simp only [if_neg z] at hd hn ⊢
    exact PySem.intText_digits hd hn (by omega)
theorem int_bot {t : Str} (hl : t.length ≤ 600) (h : digs (numB t) = true) : intText? (numB t) = some (numW t) := by
  have hp := numB_len t
  obtain ⟨hd, hn⟩ := digs_all h
  exact PySem.intText_digits hd hn (by omega)
end
/-! ### joining ways -/
theorem go_post {X : Cx} {e : Expr} {σ : St} {H : Hp} {Q : VK} (M : VK) (h : Go X e σ H M) (k : ∀ v H', M v H' → Q v H') : Go X e σ H Q := fun pins s I => thn (h pins s I) fun u s1 ⟨v, H', I', r, q⟩ => ⟨v, H', I', r, k v H' q⟩
theorem gs_post {X : Cx} {st : Stmt} {σ : St} {H : Hp} {D : Ends} (M : St → Hp → Prop) (h : Gs X st { D with nx := M } σ H) (k : ∀ σ' H', M σ' H' → D.nx σ' H') : Gs X st D σ H := fun pins s I => thn (h pins s I) fun f s1 q => by
  cases f with
  | next => obtain ⟨σ', H', I', q⟩ := q; exact ⟨σ', H', I', k _ _ q⟩
  | ret v => exact q
  | brk => exact q
  | cont => exact q
/-! ### for over a tuple, a list, a range: the invariant by the turn -/
section
variable {X : Cx} {σ : St} {H : Hp} {e : Expr} {body : List Stmt} {pos tp : Pos} {D : Ends} {tn : Str} {j : Nat}
theorem s_forT (hp : PassesOwn (model X.prog X.w) X.A X.env X.xe) (hc : X.calm = true) (hf : ∀ x, foldedSetIterable e X.env x = pure x) (w : Sw X j tn)
    (h : Go X e σ H fun x H1 => ∃ a xs, x = .ref a ∧ H1 a = some (.tup xs) ∧ ∃ Pv : Nat → St → Hp → Prop, Pv 0 σ H1 ∧ (∀ i σ H, i ≤ xs.length → Pv i σ H → H a = some (.tup xs)) ∧
      (∀ i x σ H, xs[i]? = some x → Pv i σ H → Gb X body { D with nx := Pv (i + 1), ct := Pv (i + 1), bk := D.nx } (σ.set j (some x)) H) ∧ ∀ σ H, Pv xs.length σ H → D.nx σ H) : Gs X (.For (.Name tn tp) e body [] pos) D σ H := by
  refine gs (ps_for hp hc (pi_tup pe) (pg_name w.nd w.n w.l w.f) pb hf) ?_
  intro pins s I
  refine thn (h pins s I) fun v s1 ⟨x, H1, I1, r, a, xs, e1, ht, Pv, h0, hl, hs, hd⟩ => ⟨x, H1, I1, r, a, e1, ⟨xs, SqT.of ht⟩, ?_⟩
  exact for_tup (K := X.K) (a := a) (xs := xs) Pv h0 (fun i σ H hi p => SqT.of (hl i σ H hi p)) (fun i x σ H hx p => hs i x σ H hx p) hd
theorem s_forL (hp : PassesOwn (model X.prog X.w) X.A X.env X.xe) (hc : X.calm = true) (hf : ∀ x, foldedSetIterable e X.env x = pure x) (w : Sw X j tn)
    (h : Go X e σ H fun x H1 => ∃ a xs, x = .ref a ∧ SqL X.K H1 a xs ∧ ∃ Pv : Nat → St → Hp → Prop, Pv 0 σ H1 ∧ (∀ i σ H, i ≤ xs.length → Pv i σ H → SqL X.K H a xs) ∧
      (∀ i x σ H, xs[i]? = some x → Pv i σ H → Gb X body { D with nx := Pv (i + 1), ct := Pv (i + 1), bk := D.nx } (σ.set j (some x)) H) ∧ ∀ σ H, Pv xs.length σ H → D.nx σ H) : Gs X (.For (.Name tn tp) e body [] pos) D σ H := by
  refine gs (ps_for hp hc (pi_list pe) (pg_name w.nd w.n w.l w.f) pb hf) ?_
  intro pins s I
  refine thn (h pins s I) fun v s1 ⟨x, H1, I1, r, a, xs, e1, ht, Pv, h0, hl, hs, hd⟩ => ⟨x, H1, I1, r, a, e1, ⟨xs, ht⟩, ?_⟩
  exact for_list (K := X.K) (a := a) (xs := xs) Pv h0 hl (fun i x σ H hx p => hs i x σ H hx p) hd
theorem s_forR {a : Expr} {rp cp : Pos} (hp : PassesOwn (model X.prog X.w) X.A X.env X.xe) (hc : X.calm = true) (bn : Bn X "range" (.type "range")) (hst : starEach [a] X.env = [(false, eval a X.env)]) (w : Sw X j tn)
    (h : Go X a σ H fun x H1 => ∃ n : Int, x = .int n ∧ n ≤ 1000000 ∧ -1000000 ≤ n ∧ ∃ Pv : Nat → St → Hp → Prop, Pv 0 σ H1 ∧
      (∀ (i : Nat) σ H, (i : Int) < n → Pv i σ H → Gb X body { D with nx := Pv (i + 1), ct := Pv (i + 1), bk := D.nx } (σ.set j (some (.int (i : Int)))) H) ∧ ∀ σ H, Pv n.toNat σ H → D.nx σ H) : Gs X (.For (.Name tn tp) (.Call (.Name "range" rp) [a] [] cp) body [] pos) D σ H := by
  refine gs (ps_for hp hc (pi_range1 bn.g bn.m pa hst) (pg_name w.nd w.n w.l w.f) pb (by intro _; rfl)) ?_
  refine a_cons hst fun pins s I => thn (h pins s I) fun v s1 ⟨x, H1, I1, r, n, e1, h1, h2, Pv, h0, hs, hd⟩ => ⟨x, H1, I1, r, a_nil ?_⟩
  refine ⟨n, by rw [e1], by omega, by omega, for_range (lo := 0) (n := n.toNat) Pv h0 (fun i σ H hi p => ?_) hd⟩
  have q := hs i σ H (by omega) p
  show Gb X body _ (σ.set j (some (.int (0 + (i : Int))))) H
  rw [Int.zero_add]
  exact q
end
theorem list_of {α : Type} {ys : List α} {f : Nat → α} {n : Nat} (hl : ys.length = n) (h : ∀ (i : Nat) (y : α), ys[i]? = some y → y = f i) : ys = (List.range n).map f := by
  apply List.ext_getElem?
  intro i
  by_cases hi : i < n
  · have e : ys[i]? = some (ys[i]'(by omega)) := List.getElem?_eq_getElem (by omega)
    rw [e, h i _ e]
    simp [hi]
  · rw [List.getElem?_eq_none (by omega), List.getElem?_eq_none (by simp; omega)]
/-- the list of a text's signs, each by f -/
theorem signs_of {z : Str} {ys : List V} {f : Nat → Bool} (hl : ys.length = z.cps.size) (h : ∀ (i : Nat) (y : V), ys[i]? = some y → ∃ c, z.cps[i]? = some c ∧ y = V.bl (f c)) : ys = (z.cps.toList.map f).map V.bl := by
  apply List.ext_getElem?
  intro i
  by_cases hi : i < z.cps.size
  · have e : ys[i]? = some (ys[i]'(by omega)) := List.getElem?_eq_getElem (by omega)
    obtain ⟨c, hc, e2⟩ := h i _ e
    rw [e, e2, List.getElem?_map, List.getElem?_map]
    rw [show z.cps.toList[i]? = z.cps[i]? from Array.getElem?_toList, hc]
    rfl
  · rw [List.getElem?_eq_none (by omega), List.getElem?_eq_none (by simp; omega)]
theorem dval_lt : ∀ (cs : List Nat) (acc : Nat), PySem.NumText.AllDigits cs → cs.foldl (fun acc c => acc * 10 + (c - 48)) acc < (acc + 1) * 16 ^ cs.length
  | [], acc, _ => by simp
  | c :: cs, acc, h => by
    have h1 := h.head
    have ih := dval_lt cs (acc * 10 + (c - 48)) h.tail
    rw [List.foldl_cons, List.length_cons, Nat.pow_succ]
    refine Nat.lt_of_lt_of_le ih ?_
    have e : (acc + 1) * (16 ^ cs.length * 16) = ((acc + 1) * 16) * 16 ^ cs.length := by
      rw [Nat.mul_comm (16 ^ cs.length), Nat.mul_assoc]
    rw [e]
    exact Nat.mul_le_mul_right _ (by omega)
theorem dval_log {cs : List Nat} {n : Nat} (h : PySem.NumText.AllDigits cs) (hl : cs.length ≤ n) : (PySem.NumText.digitsVal cs).log2 < 4 * n + 1 := by
  have h1 := dval_lt cs 0 h
  have h2 : (0 + 1) * 16 ^ cs.length ≤ 2 ^ (4 * n) := by
    rw [Nat.zero_add, Nat.one_mul, Nat.pow_mul]
    exact Nat.pow_le_pow_right (by decide) hl
  have h3 : PySem.NumText.digitsVal cs < 2 ^ (4 * n) := Nat.lt_of_lt_of_le h1 h2
  by_cases z : PySem.NumText.digitsVal cs = 0
  · rw [z]; simp
  · exact Nat.lt_succ_of_lt ((Nat.log2_lt z).mpr h3)
theorem numW_log {t : Str} (hl : t.length ≤ 600) (h : digs (numB t) = true) : (numW t).natAbs.log2 < 9000 := by
  have q := numB_len t
  have e : (numB t).cps.toList.length = (numB t).length := Array.length_toList
  have := dval_log (n := 601) (digs_all h).1 (by omega)
  unfold numW
  rw [Int.natAbs_natCast]
  omega
/-! ### keywords, static methods -/
def Gk (X : Cx) (kws : List Keyword) : TA := fun σ H Q => ∀ pos pins s, Inv X pins σ H s → wpAny (model X.prog X.w) X.A (evalAll ((backToKw pos (keywordEach kws X.env)).map (·.2))) (AP X pins σ Q) X.xe s
section
variable {X : Cx} {σ : St} {H : Hp} {Q : VK} {e o : Expr} {kws : List Keyword} {pos apos p : Pos} {x m : Str} {C g : Addr} {mc : Value} {ks : List Str}
theorem pk : PK X kws (Gk X kws) := ⟨fun pos pins s σ H Q I h => h pos pins s I⟩
theorem k_nil {R : List V → Hp → Prop} (q : R [] H) : Gk X [] σ H R := fun pos pins s I => pk_nil.run pos pins s σ H R I q
theorem k_cons {nm : Option Str} {kpos : Pos} {R : List V → Hp → Prop} (h : Go X e σ H fun v H1 => Gk X kws σ H1 fun vs H2 => R (v :: vs) H2) : Gk X (⟨nm, e, kpos⟩ :: kws) σ H R := fun pos pins s I => (pk_cons pe pk).run pos pins s σ H R I h
/-- a call by keywords alone -/
def CallK (X : Cx) (u : Value) (ks : List Str) (sp : List V → Hp → VK → Prop) : Prop := ∀ pins s σ H zs ws Q, Inv X pins σ H s → Vals zs ws → zs.length = ks.length → sp zs H Q → wpAny (model X.prog X.w) X.A (call u [] (ks.zip ws)) (EP X pins σ Q) X.xe s
theorem ck_fn {CX : CXT} {k : Nat} {f : Addr} {fd : FuncData} {ps : List Str} {sq : Sp} {E : XK} (F : FnOk X.prog X.w X.K X.mg X.base CX k f fd ps sq) (hr : Room k X.A)
    (hb : ∀ (s : Shared) (ws : List Value), X.K.In s.heap → ws.length = ks.length → BindsTo s fd ⟨[], ks.zip ws⟩ (ps.zip ws)) (hx : Passes CX X E) : CallK X (.ref f) ks (fun zs H Q => sq zs H Q E) := by
  intro pins s σ H zs ws Q I r hl h
  refine wpAny_call (codeAny_mono (F.run X.A X.stack s H ⟨[], ks.zip ws⟩ ws zs Q E hr I.env0 (hb s ws I.kIn (by rw [← r.length]; exact hl)) r h) fun r s' hq => ?_)
  cases r with
  | error e => exact hx pins σ H s e s' I hq
  | ok fl =>
    cases fl with
    | ret u => exact I.after hq
    | next => exact hq.elim
    | brk => exact hq.elim
    | cont => exact hq.elim
/-- what of the text a static method must have -/
structure Smt (K : PySem.W.Frag) (C : Addr) (m : Str) (g : Addr) : Prop where
  ex : ∃ (mc : Value) (p : Addr) (rest : List Value), PySem.W.typeIn K (.ref C) = some mc ∧ PySem.W.readsIn K C mc = true ∧ PySem.W.findCls K (.ref C) mc m = some (.get (.builtin "staticmethod.__get__") (.ref p) .none (.ref C)) ∧ PySem.W.recIn K p "staticmethod" = some (.ref g :: rest)
  ga : PySem.W.specialIn K (.ref C) "__getattribute__" = some (some (.builtin "type.__getattribute__"))
  kp : PySem.W.keepIn K (.ref g) = true
theorem sm_get {pins : List (Addr × Obj)} {s : Shared} {pl : Sem Bool} {A : Around} {E : Value → Shared → Prop} {Q : Value × List Value → Shared → Prop} (S : Smt X.K C m g) (I : Inv X pins σ H s) (h : ∀ s', Inv X pins σ H s' → Q (.ref g, []) s') : wpAny (model X.prog X.w) A (getMethod (.ref C) m pl) Q E s := by
  obtain ⟨mc, p, rest, h1, h2, h3, h4⟩ := S.ex
  obtain ⟨mm, hF⟩ := I.fr
  exact PySem.W.method_cls I.kIn S.ga (PySem.W.cls_sm hF I.ok.mod.kin h1 h2 h3 h4 rfl (h _ (I.tok _)))
/-- C.m(k = v, ..), m a static method -/
theorem e_smK {sp : List V → Hp → VK → Prop} {pl : Sem Bool} (S : Smt X.K C m g) (c : CallK X (.ref g) ks sp) (hall : (backToKw pos (keywordEach kws X.env)).all (·.1.isSome) = true) (hks : (backToKw pos (keywordEach kws X.env)).filterMap (·.1) = ks)
    (hpl : ((backTo pos (starEach [] X.env)).any (·.1) || (backToKw pos (keywordEach kws X.env)).any (·.1.isNone)) = false)
    (ht : eval (.Call (.Attribute o m apos) [] kws pos) X.env = (do
      let ov ← eval o X.env
      standAt apos.atName
      let (f, first) ← holding [ov] (getMethod ov m pl)
      callWith pos f first (backTo pos (starEach [] X.env)) (backToKw pos (keywordEach kws X.env))))
    (h : Go X o σ H fun x H1 => x = .ref C ∧ Gk X kws σ H1 fun zs H2 => zs.length = ks.length ∧ sp zs H2 Q) : Go X (.Call (.Attribute o m apos) [] kws pos) σ H Q := by
  intro pins s I
  refine PySem.W.methodCall_KW (pl := pl) (thn (h pins s I) fun v s1 ⟨x, H1, I1, r1, ex, q⟩ => ?_) ht
  subst ex
  cases r1
  refine sm_get S I1 fun s2 I2 => ?_
  refine PySem.W.callWith_KW0 (h₀ := X.base) I.ok.mod.kin S.kp hall (thn (q pos pins s2 I2) fun ws s3 ⟨zs, H3, I3, rz, hl, q3⟩ => ⟨I3.kIn, ?_⟩) hpl
  rw [hks]
  exact c pins s3 σ H3 zs ws Q I3 rz hl q3
/-- C.m(e, ..) -/
theorem e_sm {sp : List V → Hp → VK → Prop} {pl : Sem Bool} {es : List Expr} (S : Smt X.K C m g) (c : CallR X (.ref g) sp) (he : starEach (e :: es) X.env = (false, eval e X.env) :: starEach es X.env) (hpl : (backTo pos (starEach es X.env)).any (·.1) = false)
    (ht : eval (.Call (.Attribute o m apos) (e :: es) [] pos) X.env = (do
      let ov ← eval o X.env
      standAt apos.atName
      let (f, first) ← holding [ov] (getMethod ov m pl)
      callWith pos f first (backTo pos (starEach (e :: es) X.env)) (backToKw pos (keywordEach [] X.env))))
    (h : Go X o σ H fun x H1 => x = .ref C ∧ Ga X (e :: es) σ H1 fun vs H2 => sp vs H2 Q) : Go X (.Call (.Attribute o m apos) (e :: es) [] pos) σ H Q := by
  intro pins s I
  refine PySem.W.methodCall_KW (pl := pl) (thn (h pins s I) fun v s1 ⟨x, H1, I1, r1, ex, q⟩ => ?_) ht
  subst ex
  cases r1
  refine sm_get S I1 fun s2 I2 => ?_
  exact PySem.W.callWith_K (h₀ := X.base) I.ok.mod.kin S.kp (thn (q pos pins s2 I2) fun us s3 ⟨vs, H3, I3, r3, q3⟩ => ⟨I3.kIn, c pins s3 σ H3 vs us Q I3 r3 q3⟩) he hpl
/-- C(k = v, ..), C a class -/
theorem e_mkK {CX : CXT} {k : Nat} {f : Addr} {fd : FuncData} {ps : List Str} {sq : Sp} {E : XK} {gg : List Value → List Value → List Value} {gV : List V → List V → List V} (M : Mk X.K C f) (F : FnOk X.prog X.w X.K X.mg X.base CX k f fd ps sq) (hr : Room (k + 1) X.A) (hg : Gl X x) (hm : X.mg x = some (.ref C)) (hb : KBn X.K fd ps 1 ks gg gV) (hx : Passes CX X E)
    (hall : (backToKw pos (keywordEach kws X.env)).all (·.1.isSome) = true) (hks : (backToKw pos (keywordEach kws X.env)).filterMap (·.1) = ks) (hdb : (x == ("__debug__" : Str)) = false)
    (hpl : ((backTo pos (starEach [] X.env)).any (·.1) || (backToKw pos (keywordEach kws X.env)).any (·.1.isNone)) = false)
    (h : Gk X kws σ H fun zs H2 => zs.length = ks.length ∧ ∀ x dx, H2 x = none → H2 dx = none → dx ≠ x → sq (gV [.ref x] zs) (upd (upd H2 dx (.own x)) x (.ins C dx [])) (fun v H3 => v = .non ∧ Q (.ref x) H3) E) : Go X (.Call (.Name x p) [] kws pos) σ H Q := by
  refine ge (pe_makeK0 M F hr hg hm hb hx pk hall hks hdb hpl) ?_
  exact fun pos pins s I => thn (h pos pins s I) fun ws s' ⟨zs, H', I', r, hl, q⟩ => ⟨zs, H', I', r, rfl, hl, q⟩
end
/-! ### str, repr of ints, texts and own objects -/
section
variable {X : Cx} {H : Hp} {Q : VK} {C : Addr} {sp : List V → Hp → VK → Prop}
def rStrN (C : Addr) (sp : List V → Hp → VK → Prop) : List V → Hp → VK → Prop := fun xs H Q => (∃ i : Int, xs = [.int i] ∧ i.natAbs.log2 < 1920 ∧ Q (.str (toString i)) H) ∨ ∃ x, xs = [x] ∧ tSh sp C x H Q
theorem b_strN {x : Str} (D : Dm X C "__str__" sp) (bn : Bn X x (.type "str")) : Fn X x (rStrN C sp) := ct_mk (CallR.or call_str_int (call_strO D)) bn
end
/-! ### repr of data -/
mutual
theorem dp_go {K : PySem.W.Frag} {H H' : Hp} (e : Ex H H') : ∀ {v : V} {d : PyData}, Dp K H v d → Dp K H' v d
  | _, _, .non => .non
  | _, _, .bl b => .bl b
  | _, _, .int i => .int i
  | _, _, .str x => .str x
  | _, _, .lst h k => .lst (SqL.ext h e) (dpa_go e k)
  | _, _, .tup h k => .tup (SqT.ext h e) (dpa_go e k)
theorem dpa_go {K : PySem.W.Frag} {H H' : Hp} (e : Ex H H') : ∀ {vs : List V} {ds : List PyData}, DpAll K H vs ds → DpAll K H' vs ds
  | _, _, .nil => .nil
  | _, _, .cons h k => .cons (dp_go e h) (dpa_go e k)
end
/-! ### != of an own object that has __eq__ alone -/
section
variable {Pr0 : Program} {W0 : World} {A0 : Around} {Er : Value → Shared → Prop} {sh : Shared} {Kf : PySem.W.Frag} {ax Cx' fq : Addr} {oX : Obj} {oD : Option Obj} {other tO : Value}
open PySem.W Builtin in
theorem ne_body {R : Fin → Shared → Prop} (room : A0.units < cLine) (kin : Kf.In sh.heap) (inst : InstAt sh.heap ax oX Cx' oD) (own : findIn Kf (.ref Cx') "__eq__" = some (some (.ref fq))) (isf : isFn Kf (.ref fq) = true)
    (k : wpAny (model Pr0 W0) A0 (call (.ref fq) [.ref ax, other]) (fun r s' => ∃ c, r = .bool c ∧ R (.done (.ret (.bool (!c)))) s') Er sh) : wpAny (model Pr0 W0) A0 (Builtin.«object.__ne__» ⟨[.ref ax, other], []⟩) R Er sh := by
  unfold Builtin.«object.__ne__»
  refine wpAny_bind (m := slotArgs "__ne__" 1 _) (wpAny_pure ?_)
  refine wpAny_bind (m := cRoomFor _ _) (wpAny_cRoomFor room ?_)
  refine wpAny_bind (m := callSpecialIfBound? (.ref ax) (Str.ofString "__eq__") _) (ifBound_K kin inst own isf (thn k fun r s' z => ?_))
  obtain ⟨c, rfl, q⟩ := z
  exact wpAny_bind (m := truthy (.bool _)) (wpAny_truthy_bool (wpAny_pure q))
open PySem.W in
theorem special_slot {nm : Str} {slot : String} {more : List Value} {R : Option Value → Shared → Prop} (kin : Kf.In sh.heap) (inst : InstAt sh.heap ax oX Cx' oD) (at' : findIn Kf (.ref Cx') nm = some (some (.builtin slot))) (bd : ∀ z, bindSpecial (.builtin slot) z = pure (.builtin slot, [z]))
    (k : wpAny (model Pr0 W0) A0 (call (.builtin slot) (.ref ax :: more)) (fun r => R (some r)) Er sh) : wpAny (model Pr0 W0) A0 (callSpecialIfBound? (.ref ax) nm more) R Er sh := by
  simp only [callSpecialIfBound?, bindSpecialIfBound?]
  refine wpAny_holding (wpAny_bind (wpAny_bind (wpAny_bind (inst.type.here ((looks_findIn kin at').here ?_)))))
  refine wpAny_bind (wpAny_askSetting (wpAny_ite ?_))
  have last : wpAny (model Pr0 W0) A0 (call (.builtin slot) ([.ref ax] ++ more) >>= fun r => pure (some r)) R Er sh := wpAny_bind (thn k fun _ _ z => wpAny_pure z)
  split
  · exact wpAny_bind ((Looks.of_pure (bd _)).here (wpAny_pure (by exact last)))
  · exact wpAny_tryCatch (wpAny_bind ((Looks.of_pure (bd _)).here (wpAny_pure (by exact last))))
open PySem.W in
theorem ne_own {R : Value → Shared → Prop} (room : A0.in1.units < cLine) (kin : Kf.In sh.heap) (inst : InstAt sh.heap ax oX Cx' oD) (ot : Looks (model Pr0 W0) sh.heap (typeOf other) tO) (nf : notFirst Kf Cx' tO = true)
    (hne : findIn Kf (.ref Cx') "__ne__" = some (some (.builtin "object.__ne__"))) (hm : mroIn Kf Cx' (.type "object") = some true) (own : findIn Kf (.ref Cx') "__eq__" = some (some (.ref fq))) (isf : isFn Kf (.ref fq) = true)
    (k : wpAny (model Pr0 W0) A0.in1 (call (.ref fq) [.ref ax, other]) (fun r s' => ∃ c, r = .bool c ∧ R (.bool (!c)) s') Er sh) : wpAny (model Pr0 W0) A0 (compareOp .NotEq (.ref ax) other) R Er sh := by
  have tc : wpAny (model Pr0 W0) A0 (tryCompare (.ref ax) (cmpInfo .NotEq).2.1 other) (fun r s' => ∃ y, r = some y ∧ R y s') Er sh := by
    unfold tryCompare
    refine wpAny_bind (special_slot kin inst hne PySem.F.slot_object_ne.bind (wpAny_call (codeAny_call_builtin PySem.F.slot_object_ne.plain PySem.F.entry_object_ne
      (check_slot (i := "object.__ne__") (owner := "object") (n := "__ne__") (by decide +kernel) (by decide +kernel) (inst.type.andThen (looks_mroIn kin hm)) (PySem.F.args_object_ne_2 _ _) ?_))))
    refine ne_body room kin inst own isf (thn k fun r s' z => ?_)
    obtain ⟨c, rfl, q⟩ := z
    exact ⟨c, rfl, wpAny_pure ⟨_, rfl, q⟩⟩
  have fin : ∀ {r : Option Value} {s' : Shared} {t : Sem Value}, (∃ y, r = some y ∧ R y s') → wpAny (model Pr0 W0) A0 (match r with | some v => pure v | none => t) R Er s' := by
    rintro r s' t ⟨y, rfl, q⟩
    exact wpAny_pure q
  refine cmp_ofNotEq ?_
  unfold richCompare
  simp only [oneThing_ref]
  refine wpAny_holding (wpAny_bind (wpAny_cRoomFor (Nat.lt_of_succ_lt room) ?_))
  refine wpAny_bind (inst.type.here (wpAny_bind (ot.here ?_)))
  split
  · rename_i d
    have noSub : subIn Kf tO (.ref Cx') = some false := by
      rcases Bool.or_eq_true_iff.mp nf with z | z
      · rw [beq_iff_eq.mp z] at d; simp at d
      · exact beq_iff_eq.mp z
    refine wpAny_bind ((looks_subIn kin noSub).here ?_)
    simp only [Bool.false_eq_true, if_false]
    refine wpAny_bind (thn tc fun r s' z => ?_)
    obtain ⟨y, rfl, q⟩ := z
    exact wpAny_pure q
  · refine wpAny_bind (wpAny_pure ?_)
    simp only [Bool.false_eq_true, if_false]
    refine wpAny_bind (thn tc fun r s' z => ?_)
    obtain ⟨y, rfl, q⟩ := z
    exact wpAny_pure q
end
section
variable {X : Cx} {C a dx : Addr} {sp : List V → Hp → VK → Prop} {H : Hp} {Q : VK}
theorem op_neO (D : Dm X C "__eq__" sp) (hne : PySem.W.findIn X.K (.ref C) "__ne__" = some (some (.builtin "object.__ne__"))) (hm : PySem.W.mroIn X.K C (.type "object") = some true) :
    OpR X (compareOp .NotEq) (fun x y H Q => ∃ a dx fs t, x = .ref a ∧ H a = some (.ins C dx fs) ∧ TyX X.K H y t ∧ PySem.W.notFirst X.K C t = true ∧ sp [x, y] H fun z H' => ∃ c, z = .bl c ∧ Q (.bl (!c)) H') := by
  intro pins s σ H x y v u Q I rx ry h
  obtain ⟨a, dx, fs, t, rfl, e, ty, nf, q⟩ := h
  cases rx
  obtain ⟨f, CX, n, s0, E, h1, h2, F, hr, hx, hs⟩ := D.ex
  obtain ⟨ox, od, J⟩ := ins_at I e
  obtain ⟨P, kx, hP, _⟩ := kit_of I ry ty
  have r1 := hr.in1
  refine ne_own r1.units0 I.kIn J (kx.ty _ _ I.kIn hP) nf hne hm h1 h2 ?_
  refine thn (dm_run F (r1.mono (by omega)) I.env0.in1 hx I (.cons (show RelV (.ref a) _ from rfl) (.cons ry .nil)) (hs _ _ _ q)) fun v s' z => ?_
  obtain ⟨z', H', I', rz, c, rfl, qz⟩ := z
  cases rz
  exact ⟨c, rfl, .bl (!c), H', I', rfl, qz⟩
end
open PyProof.Rows
/-! ### functions that need the guards' list to be known and empty (repr of a list) -/
/-- as FnOk, for a place whose guards are known: none -/
structure FnG (Pg : Program) (Wd : World) (Kf : PySem.W.Frag) (gl : Str → Option Value) (bs : Heap) (T : CXT) (lvl : Nat) (at' : Addr) (code : FuncData) (pars : List Str) (pr : Sp) : Prop where
  arity : ∀ xs h k e, pr xs h k e → xs.length = pars.length
  go : ∀ (Ar : Around) (out : List Env) (sh : Shared) (h : Hp) (ar : Args) (ws : List Value) (xs : List V) (k : VK) (e : XK), Ar.guards = some [] → Room lvl Ar → Env0 Pg Wd Kf gl bs Ar out sh h → BindsTo sh code ar (pars.zip ws) → Vals xs ws → pr xs h k e →
    codeAny (model Pg Wd) Ar (.call (.ref at') ar) (CR T out Pg Wd h sh k e) sh
theorem FnOk.g {Pg : Program} {Wd : World} {Kf : PySem.W.Frag} {gl : Str → Option Value} {bs : Heap} {T : CXT} {lvl : Nat} {at' : Addr} {code : FuncData} {pars : List Str} {pr : Sp} (F : FnOk Pg Wd Kf gl bs T lvl at' code pars pr) : FnG Pg Wd Kf gl bs T lvl at' code pars pr := ⟨F.len, fun _ _ _ _ _ _ _ _ _ _ => F.run _ _ _ _ _ _ _ _ _⟩
theorem FnG.mono {Pg : Program} {Wd : World} {Kf : PySem.W.Frag} {gl : Str → Option Value} {bs : Heap} {T : CXT} {i j : Nat} {at' : Addr} {code : FuncData} {pars : List Str} {pr : Sp} (F : FnG Pg Wd Kf gl bs T i at' code pars pr) (h : i ≤ j) : FnG Pg Wd Kf gl bs T j at' code pars pr := ⟨F.arity, fun _ _ _ _ _ _ _ _ _ hg r => F.go _ _ _ _ _ _ _ _ _ hg (r.mono h)⟩
theorem fnG_of {T : CXT} {Pg : Program} {Wd : World} {Kf : PySem.W.Frag} {gl : Str → Option Value} {bs : Heap} {lvl : Nat} {at' : Addr} {nm qn : Str} {prm : Arguments} {bd : List Stmt} {sc : Scope} {d1 d2 d3 d4 cv d5 oc : Value} {o1 o2 : Option Addr}
    {sl : Array (Option Value)} {slots pars : List Str} {pr : Sp} (look : Kf.lookup at' = some ⟨oc, o2, .func (PySem.W.fnOf nm qn prm bd sc d1 d2 d3 d4 o1 cv d5), sl⟩) (isc : PySem.W.codeIn Kf cv qn = true) (S : FnScope slots pars sc)
    (ar : ∀ xs h k e, pr xs h k e → xs.length = pars.length)
    (body : ∀ (Ar : Around) (out : List Env) (sh : Shared) (h : Hp) (xs : List V) (k : VK) (e : XK), Ar.guards = some [] → Room lvl (Ar.deeper (envOfC qn sc sh.heap.objs.size at' cv)) → pr xs h k e →
      ∃ t, PSs (cxOf T Pg Wd Kf gl bs slots qn sc at' cv Ar out sh h e) bd t ∧ t { nx := fun _ h' => k .non h', rt := k } (start slots xs) h) :
    FnG Pg Wd Kf gl bs T (lvl + 1) at' (PySem.W.fnOf nm qn prm bd sc d1 d2 d3 d4 o1 cv d5) pars pr := by
  refine ⟨ar, fun Ar out sh h ag ws xs k e hg room en bnd rv hp => ?_⟩
  have kin : Kf.In sh.heap := en.mod.kin.keeps fun b o z => (en.bs b o z).1
  have nolim : sh.heap.NoLimit := en.mod.nolimit.keeps fun b o z => (en.bs b o z).1
  have kinds : ∀ y ∈ pars.zip ws, sc.names.lookup y.1 = some .local ∨ (sc.names.lookup y.1 = some .cell ∧ ((cellsFrom (sh.heap.objs.size + 1) sc.names []).lookup y.1).isSome = true) := by
    rintro ⟨y1, y2⟩ hy
    refine (S.par y1 (List.of_mem_zip hy).1).imp id fun c => ⟨c, PySem.W.cellsFrom_some _ _ _ (.inl c)⟩
  refine codeAny_call_function room.depth (kin _ _ look) rfl S.co S.gen rfl (PySem.W.codeRec_of kin isc) (bnd _ _ _ _ ?_)
  refine wpAny_newFunctionEnv_cells S.kind kinds fun ev hev s1 x => ?_
  subst hev
  refine ⟨nolim.keeps x.toInCall.keep, codeAny_func ?_⟩
  obtain ⟨t, pt, q⟩ := body Ar out sh h xs k e hg (room.deeper _) hp
  have I : Inv (cxOf T Pg Wd Kf gl bs slots qn sc at' cv Ar out sh h e) [] (start slots xs) h s1 := inv_start S room.hd en (ar _ _ _ _ hp) rv x
  refine thn (pt.run [] s1 (start slots xs) h _ I q) fun fl s' z => ?_
  cases fl with
  | ret u =>
    obtain ⟨v, σ', h', J, r, q⟩ := z
    exact ⟨v, h', J.os, J.bare, J.base, J.hok, r, q⟩
  | next =>
    obtain ⟨σ', h', J, q⟩ := z
    exact ⟨.non, h', J.os, J.bare, J.base, J.hok, rfl, q⟩
  | brk => obtain ⟨_, _, _, q⟩ := z; exact q.elim
  | cont => obtain ⟨_, _, _, q⟩ := z; exact q.elim
theorem Fun.okG {nm qn : Str} {st : Stmt} {Pg : Program} {Wd : World} {Kf : PySem.W.Frag} {gl : Str → Option Value} {bs : Heap} {at' : Addr} {code : FuncData} {slots pars : List Str} {lvl : Nat} {pr : Sp} (F : Fun Kf nm qn st at' code) (S : FnScope slots pars (defScope st))
    (ar : ∀ xs h k e, pr xs h k e → xs.length = pars.length)
    (body : ∀ (cv : Value) (Ar : Around) (out : List Env) (sh : Shared) (h : Hp) (xs : List V) (k : VK) (e : XK), Ar.guards = some [] → Room lvl (Ar.deeper (envOfC qn (defScope st) sh.heap.objs.size at' cv)) → pr xs h k e →
      ∃ t, PSs (cxOf CX0 Pg Wd Kf gl bs slots qn (defScope st) at' cv Ar out sh h e).nox (defBody st) t ∧ t { nx := fun _ h' => k .non h', rt := k } (start slots xs) h) : FnG Pg Wd Kf gl bs CX0 (lvl + 1) at' code pars pr := by
  obtain ⟨oc, od, kV, doc, pm, an, cdv, ct, osl, rfl, lk, isc⟩ := F.ex
  refine fnG_of lk isc S ar fun Ar out sh h xs k e hg room hp => ?_
  obtain ⟨t, pt, q⟩ := body cdv Ar out sh h xs k e hg room hp
  exact ⟨t, pt.nox, q⟩
theorem cr_fnG {X : Cx} {CX : CXT} {k : Nat} {f : Addr} {fd : FuncData} {ps : List Str} {sq : Sp} {dvs : List V} {ds : List Value} {E : XK} (F : FnG X.prog X.w X.K X.mg X.base CX k f fd ps sq) (hg : X.A.guards = some []) (hr : Room k X.A) (hb : Binds X.K fd ps ds) (hd : Vals dvs ds) (hx : Passes CX X E) : CallR X (.ref f) (fun vs H Q => sq (vs ++ dvs) H Q E) := by
  intro pins s σ H xs us Q I r h
  have r2 := r.append hd
  have hl : (us ++ ds).length = ps.length := by rw [← r2.length]; exact F.arity _ _ _ _ h
  refine wpAny_call (codeAny_mono (F.go X.A X.stack s H ⟨us, []⟩ (us ++ ds) (xs ++ dvs) Q E hg hr I.env0 (hb s us I.kIn hl) r2 h) fun res s' hq => ?_)
  cases res with
  | error e => exact hx pins σ H s e s' I hq
  | ok fl =>
    cases fl with
    | ret u => exact I.after hq
    | next => exact hq.elim
    | brk => exact hq.elim
    | cont => exact hq.elim
theorem cal_fnG {X : Cx} {k : Nat} {f : Addr} {fd : FuncData} {ps : List Str} {sq : Sp} {dvs : List V} {ds : List Value} (F : FnG X.prog X.w X.K X.mg X.base CX0 k f fd ps sq) (hg : X.A.guards = some []) (hr : Room k X.A) (hb : Binds X.K fd ps ds) (hd : Vals dvs ds) : Cal X (.ref f) (fun vs H Q => sq (vs ++ dvs) H Q E0) := by
  rintro Y ⟨e1, e2, e3, e4, e5, e6, _⟩
  rw [← e1, ← e2, ← e3, ← e4, ← e5] at F
  rw [← e6] at hr hg
  rw [← e3] at hb
  exact cr_fnG F hg hr hb hd pass0
/-- repr of a list -/
theorem call_reprD {X : Cx} (hg : X.A.guards = some []) (hu : X.A.units + 64 < cLine) : CallR X (.builtin "repr") (fun xs H Q => ∃ (a : Addr) (d : PyData), xs = [.ref a] ∧ Dp X.K H (.ref a) d ∧ d.showable = true ∧ d.hasDict = false ∧ d.depth < 60 ∧ d.shown.length ≤ sizeLine ∧ Q (.str d.shown) H) := by
  intro pins s σ H xs us Q I r h
  obtain ⟨a, d, rfl, hd, h1, h2, h3, h4, q⟩ := h
  obtain ⟨u, rfl, ru⟩ := vals1 r
  cases ru
  obtain ⟨as, hR⟩ := Dp.reads I d (.ref a) (.ref a) hd rfl
  refine repr_of_reads' hR h1 (fun z => by rw [h2] at z; cases z) hg (by omega) (fun _ _ z => z) (fun h' u tk hk => ?_) h4
  exact ⟨.str d.shown, H, I.kept hk, ⟨u, rfl⟩, q⟩
/-- own end: a law whose defs need the guards -/
theorem att_law {Pg : Program} {Wd : World} {Kf : PySem.W.Frag} {gl bl' : Str → Option Value} {T : CXT} {lvl : Nat} {at' ls : Addr} {code : FuncData} {par : Str} {pr : Sp} {s0 : Shared} {vals : List Value} {nums : List Int}
    (kin : Kf.In s0.heap) (nsm : s0.heap.Ns mainGlobals gl) (nsb : s0.heap.Ns builtinsNs bl') (same : ∀ y : Str, y ≠ "__name__" → bl' y = bootBuiltins y) (nolim : s0.heap.NoLimit) (nogen : s0.gens = #[])
    (obj : s0.heap.get? ls = some { cls := .type "list", data := .seq vals.toArray }) (iv : IntsAre vals nums) (small : nums.length ≤ sizeLine) (room : Room lvl callerA)
    (F : ∀ b : Heap, Kf.In b → b.Ns mainGlobals gl → FnG Pg Wd Kf gl b T lvl at' code [par] pr) (bnd : ∀ (s : Shared) (u : Value), BindsTo s code ⟨[u], []⟩ [(par, u)])
    (holds : ∀ H : Hp, Only H → SqL Kf H ls (nums.map V.int) → pr [.ref ls] H (fun v _ => v = .bl true) fun _ _ _ => False)
    (quiet : ∀ H e s', T [] H s0 (fun _ _ _ => False) e s' → False) :
    codeAny (model Pg Wd) callerA (.call (.ref at') ⟨[.ref ls], []⟩) (fun r s' => r = .ok (.ret (.bool true)) ∧ OldK s0.heap s'.heap ∧ s'.os = s0.os ∧ AllBare s'.gens) s0 := by
  have rel := vals_ints iv
  have size := iv.length
  have main : ∀ H : Hp, Only H → SqL Kf H ls (nums.map V.int) → HOk Pg Wd H s0.heap → (∀ b, H b ≠ none → b = ls) → (H ls ≠ none → Kf.lookup ls = none) →
      codeAny (model Pg Wd) callerA (.call (.ref at') ⟨[.ref ls], []⟩) (fun r s' => r = .ok (.ret (.bool true)) ∧ OldK s0.heap s'.heap ∧ s'.os = s0.os ∧ AllBare s'.gens) s0 := by
    intro H only sq hok one out
    have hid : ∀ {b : Addr} {o : Obj}, s0.heap.get? b = some o → H b = none → (hidT s0.heap H).get? b = some o := fun e n => hidT_get e n
    have dictFree : ∀ {b : Addr} {o : Obj} {es : Array DictEntry} {ep : Nat}, s0.heap.get? b = some o → o.data = .dict es ep → H b = none := by
      intro b o es ep e d
      cases q : H b with
      | none => rfl
      | some u =>
        obtain rfl : b = ls := one b (by rw [q]; simp)
        rw [obj] at e
        cases e
        exact nomatch (show Data.seq vals.toArray _ = Data.dict es ep from d)
    have nsHid : ∀ {b : Addr} {m : Str → Option Value}, s0.heap.Ns b m → (hidT s0.heap H).Ns b m := by
      rintro b m ⟨o, es, ep, e, d, r⟩
      exact ⟨o, es, ep, hid e (dictFree e d), d, r⟩
    have kHid : Kf.In (hidT s0.heap H) := by
      intro b o e
      refine hid (kin b o e) ?_
      cases q : H b with
      | none => rfl
      | some u =>
        obtain rfl : b = ls := one b (by rw [q]; simp)
        rw [out (by rw [q]; simp)] at e
        cases e
    have md : Mod Kf gl (hidT s0.heap H) := by
      obtain ⟨mc, l1, l2⟩ := nolim
      exact ⟨kHid, nsHid nsm, ⟨bl', nsHid nsb, same⟩, mc, nsHid l1, l2⟩
    have env : Env0 Pg Wd Kf gl (hidT s0.heap H) callerA [] s0 H := ⟨rfl, md, fun b o e => of_hidT e, Nat.le_of_eq (hidT_size _ _), trivial, fun b hb => absurd (show b ∈ ([] : List Addr) from hb) (by simp), hok, .of_eq nogen⟩
    refine codeAny_mono ((F _ kHid (nsHid nsm)).go callerA [] s0 H ⟨[.ref ls], []⟩ [.ref ls] [.ref ls] _ _ rfl room env (bnd s0 (.ref ls)) (.cons rfl .nil) (holds H only sq)) fun res s' h => ?_
    match res, h with
    | .error e, h => exact (quiet H e s' h).elim
    | .ok .next, h => exact h.elim
    | .ok .brk, h => exact h.elim
    | .ok .cont, h => exact h.elim
    | .ok (.ret u), ⟨v, H', os, bare, un, hok', r', q⟩ =>
      have q' : v = .bl true := q
      subst q'
      obtain rfl : u = Value.bool true := r'
      refine ⟨rfl, OldK.of_keep fun b o e => ?_, os, bare⟩
      rcases only b with z | ⟨ob, xs, z⟩
      · exact un.keep b o e z (by intro y; exact absurd (show b ∈ ([] : List Addr) from y) (by simp)) (by simp)
      · obtain ⟨e1, _⟩ := hok b _ z
        obtain ⟨e2, _⟩ := hok' b _ (un.frzs b ob _ z)
        rw [e] at e1
        cases e1
        exact e2
  cases look : Kf.lookup ls with
  | some o =>
    have e := kin ls o look
    rw [obj] at e
    cases e
    exact main (fun _ => none) (fun _ => .inl rfl) (.inr ⟨_, vals.toArray, _, look, rfl, rfl, rfl, by rw [List.size_toArray, size]; exact small, by simpa using rel⟩) (fun b u z => nomatch (show (none : Option HO) = some u from z)) (fun b z => absurd rfl z) fun z => absurd rfl z
  | none =>
    have yes : ∀ {b : Addr}, b = ls → (if b = ls then some (HO.frz { cls := .type "list", data := .seq vals.toArray } (.lst (nums.map V.int))) else none) = some (HO.frz { cls := .type "list", data := .seq vals.toArray } (.lst (nums.map V.int))) := fun h => if_pos h
    refine main (fun b => if b = ls then some (.frz { cls := .type "list", data := .seq vals.toArray } (.lst (nums.map V.int))) else none) (fun b => ?_) (.inl (.inr ⟨{ cls := .type "list", data := .seq vals.toArray }, yes rfl⟩)) (fun b u z => ?_) (fun b z => ?_) fun _ => look
    all_goals by_cases hb : b = ls
    · exact .inr ⟨_, _, yes hb⟩
    · exact .inl (if_neg hb)
    · have z' := (yes hb).symm.trans z
      cases z'
      subst hb
      exact ⟨obj, by rw [List.length_map]; exact small, vals, _, rel, obj⟩
    · exact nomatch ((if_neg hb).symm.trans z)
    · exact hb
    · exact absurd (if_neg hb) z
theorem att_walk {l : PySem.W.OpenLaw} {most lvl : Nat} {q : Program} {loose : List Str} {XP : (Str → Option Value) → Heap → Prop} {YP : World → Heap → Prop} {d : DefRec} {Kf : Params → PySem.W.Frag} {T : World → CXT} {pr : World → Sp} {par : Str}
    (h1 : l.most = some most) (h2 : most ≤ sizeLine) (h3 : d.params.defaults = []) (room : Room lvl callerA) (kin : ∀ (w : World) (h : Heap), YP w h → (Kf w.params).In h)
    (F : ∀ (w : World) (gl : Str → Option Value) (at' : Addr) (h : Heap), (Kf w.params).In h → h.Ns mainGlobals gl → gl d.name = some (.ref at') →
      ∃ code : FuncData, (∀ (s : Shared) (u : Value), BindsTo s code ⟨[u], []⟩ [(par, u)]) ∧ ∀ b : Heap, (Kf w.params).In b → b.Ns mainGlobals gl → FnG l.prog w (Kf w.params) gl b (T w) lvl at' code [par] (pr w))
    (holds : ∀ (w : World) (H : Hp) (ls : Addr) (nums : List Int), nums.length ≤ most → (∀ z ∈ nums, Builtin.Int.intBits z ≤ 1048576) → Only H → SqL (Kf w.params) H ls (nums.map V.int) → pr w [.ref ls] H (fun v _ => v = .bl true) fun _ _ _ => False)
    (quiet : ∀ (w : World) (H : Hp) (s : Shared) (e : Value) (s' : Shared), T w [] H s (fun _ _ _ => False) e s' → False) :
    PySem.W.WalkO q loose XP YP l.row.toRowW d [] (fun f vs => PySem.call f vs) := by
  refine Att.attach_callB h1 h3 fun w s₀ s₁ gl bl' at' o pm cd doc ls vals nums G Y ho hd hcd hmg hobj hints hlen hbits hg => ?_
  obtain ⟨code, bnd, hF⟩ := F w gl at' _ (kin w _ Y) G.T.g hmg
  exact att_law (kin w _ Y) G.T.g G.T.b G.T.builtins G.T.nolimit hg hobj hints (Nat.le_trans hlen h2) room hF bnd (fun H only sq => holds w H ls nums hlen hbits only sq) fun H e s' => quiet w H s₁ e s'
/-! ### the text of a fraction, read again -/
section
open TL PySem.Builtin PySem.Builtin.Str
theorem codes_nat (n : Nat) : (Str.ofString (toString (n : Int))).cps.toList = numL n := tl_num n
theorem codes_neg (n : Nat) : (Str.ofString (toString (Int.negSucc n))).cps.toList = 45 :: numL (n + 1) := by
  rw [signs_ofString]
  show ("-" ++ Nat.repr (n + 1)).toList.map Char.toNat = _
  rw [String.toList_append, List.map_append, Nat.toList_repr]
  rfl
theorem digs_num {s : Str} {n : Nat} (h : s.cps.toList = numL n) : digs s = true := by
  unfold digs
  rw [Bool.and_eq_true]
  refine ⟨decide_eq_true fun e => numL_ne n ?_, List.all_eq_true.mpr fun c hc => decide_eq_true (dig_in.mpr ?_)⟩
  · rw [← h, e]
    decide +kernel
  · rw [h] at hc
    exact numL_digits n c hc
theorem head_num (n : Nat) : (numL n).take 1 ≠ [45] := by
  intro e
  cases q : numL n with
  | nil => exact numL_ne n q
  | cons a t =>
    rw [q] at e
    have : a = 45 := by simpa using e
    have := numL_digits n a (by rw [q]; simp)
    omega
theorem neg1_iff {t : Str} : neg1 t = true ↔ t.cps.toList.take 1 = [45] := by
  unfold neg1
  rw [decide_eq_true_eq, cutS_1]
  constructor
  · intro e
    have q := congrArg (fun s : Str => s.cps.toList) e
    simpa [show ("-" : Str).cps.toList = [45] from by decide +kernel] using q
  · intro e
    refine str_ext ?_
    rw [e]
    decide +kernel
/-- the top's digits and value -/
theorem top_num (x : Int) : digs (if neg1 (Str.ofString (toString x)) = true then cutS (Str.ofString (toString x)) (some 1) none else Str.ofString (toString x)) = true ∧
    (if neg1 (Str.ofString (toString x)) = true then -((PySem.NumText.digitsVal (if neg1 (Str.ofString (toString x)) = true then cutS (Str.ofString (toString x)) (some 1) none else Str.ofString (toString x)).cps.toList : Nat) : Int)
      else ((PySem.NumText.digitsVal (if neg1 (Str.ofString (toString x)) = true then cutS (Str.ofString (toString x)) (some 1) none else Str.ofString (toString x)).cps.toList : Nat) : Int)) = x := by
  cases x with
  | ofNat n =>
    have c := codes_nat n
    have z : neg1 (Str.ofString (toString (Int.ofNat n))) = false := by
      rw [← Bool.not_eq_true, neg1_iff]
      rw [show (Str.ofString (toString (Int.ofNat n))).cps.toList = numL n from c]
      exact head_num n
    rw [z]
    simp only [Bool.false_eq_true, if_false]
    refine ⟨digs_num c, ?_⟩
    rw [show (Str.ofString (toString (Int.ofNat n))).cps.toList = numL n from c, numL_val]
    rfl
  | negSucc n =>
    have c := codes_neg n
    have z : neg1 (Str.ofString (toString (Int.negSucc n))) = true := by
      rw [neg1_iff, c]
      rfl
    rw [z]
    simp only [if_true]
    have e : (cutS (Str.ofString (toString (Int.negSucc n))) (some 1) none).cps.toList = numL (n + 1) := by
      rw [cutS_t, c]
      rfl
    refine ⟨digs_num e, ?_⟩
    rw [e, numL_val]
    rfl
theorem noslash (x : Int) : 47 ∉ tl (Str.ofString (toString x)) := by
  cases x with
  | ofNat n =>
    rw [show tl (Str.ofString (toString (Int.ofNat n))) = numL n from codes_nat n]
    exact numL_free (.inl (by decide))
  | negSucc n =>
    rw [show tl (Str.ofString (toString (Int.negSucc n))) = 45 :: numL (n + 1) from codes_neg n]
    intro h
    rcases List.mem_cons.mp h with h | h
    · exact absurd h (by decide)
    · exact numL_free (.inl (by decide)) h
theorem numIn_txt {x y : Int} (hy : 0 < y) : numIn (nTxt x y) = some (x, y) := by
  obtain ⟨h1, h2⟩ := top_num x
  obtain ⟨m, rfl⟩ := Int.eq_ofNat_of_zero_le (Int.le_of_lt hy)
  by_cases hm : (m : Int) = 1
  · have e : nTxt x m = Str.ofString (toString x) := by
      unfold nTxt
      rw [if_pos hm]
    have p : Txt.partition (Str.ofString (toString x)) "/" = (Str.ofString (toString x), Str.empty, Str.empty) := partition_none slash_tl (noslash x)
    have b : numB (Str.ofString (toString x)) = "1" := by
      unfold numB
      rw [p]
      exact if_pos rfl
    have d : digs ("1" : Str) = true := by decide +kernel
    have w : numW (Str.ofString (toString x)) = 1 := by
      unfold numW
      rw [b]
      decide +kernel
    rw [e]
    unfold numIn numD numV
    unfold numD
    rw [p, b, w]
    dsimp only
    rw [if_pos ⟨h1, d, by decide⟩, h2, hm]
  · have e : nTxt x m = Str.ofString (toString x) ++ ("/" : Str) ++ Str.ofString (toString (m : Int)) := by
      unfold nTxt
      rw [if_neg hm]
    have p : Txt.partition (nTxt x m) "/" = (Str.ofString (toString x), ("/" : Str), Str.ofString (toString (m : Int))) := by
      rw [e]
      exact partition_app slash_tl (noslash x)
    have b : numB (nTxt x m) = Str.ofString (toString (m : Int)) := by
      unfold numB
      rw [p]
      exact if_neg (show ¬ (("/" : Str) = "") by decide +kernel)
    have w : numW (nTxt x m) = m := by
      unfold numW
      rw [b, codes_nat, numL_val]
    unfold numIn numD numV
    unfold numD
    rw [b, w, p]
    dsimp only
    rw [if_pos ⟨h1, digs_num (codes_nat m), by omega⟩, h2]
end
/-! ### lists: unpacked, compared, repeated, shown -/
section
variable {X : Cx} {σ : L2.St} {H : Hp} {Q : VK} {pos : Pos}
/-- a pair, from a tuple or from a list -/
def un2 (v : V) (H : Hp) (k : V → V → Prop) : Prop := ∃ p x y, v = .ref p ∧ (H p = some (.tup [x, y]) ∨ H p = some (.lst [x, y])) ∧ k x y
theorem un_t {p : Addr} {x y : V} {k : V → V → Prop} (h : H p = some (.tup [x, y])) (q : k x y) : un2 (.ref p) H k := ⟨p, x, y, rfl, .inl h, q⟩
theorem un_l {p : Addr} {x y : V} {k : V → V → Prop} (h : H p = some (.lst [x, y])) (q : k x y) : un2 (.ref p) H k := ⟨p, x, y, rfl, .inr h, q⟩
theorem g_two {a b : Str} {pa' pb' : Pos} {i j k : Nat} {v : V} {Q : L2.St → Hp → Prop} (hc : X.calm = true) (w1 : Sw X i a) (w2 : Sw X j b) (h : un2 v H fun x y => stR i x σ H fun σ1 H1 => stR j y σ1 H1 Q) : Gg X (.Tuple [.Name a pa', .Name b pb'] k pos) v σ H Q := by
  obtain ⟨p, x, y, e, ht | ht, q⟩ := h
  · exact gg (pg_tup (n := 2) hc (pgs_cons (pg_name w1.nd w1.n w1.l w1.f) (pgs_cons (pg_name w2.nd w2.n w2.l w2.f) pgs_nil))) ⟨p, [x, y], e, SqT.of ht, rfl, x, [y], rfl, y, [], rfl, rfl, q⟩
  · exact gg (pg_unl (n := 2) hc (pgs_cons (pg_name w1.nd w1.n w1.l w1.f) (pgs_cons (pg_name w2.nd w2.n w2.l w2.f) pgs_nil))) ⟨p, [x, y], e, SqL.of ht, rfl, x, [y], rfl, y, [], rfl, rfl, q⟩
theorem c_neD {x y : V} {d e : PyData} (hu : X.A.units + 64 < cLine) (hx : Dp X.K H x d) (hy : Dp X.K H y e) (h1 : SeqAt.shaped d = true) (h2 : SeqAt.shaped e = true) (q : Q (.bl (!PyData.eqv d e)) H) : cmR X .NotEq x y H Q := c_of (op_neD hu) ⟨d, e, hx, hy, h1, h2, q⟩
theorem c_eqD {x y : V} {d e : PyData} (hu : X.A.units + 64 < cLine) (hx : Dp X.K H x d) (hy : Dp X.K H y e) (h1 : SeqAt.shaped d = true) (h2 : SeqAt.shaped e = true) (q : Q (.bl (PyData.eqv d e)) H) : cmR X .Eq x y H Q := c_of (op_eqD hu) ⟨d, e, hx, hy, h1, h2, q⟩
theorem o_rep {l : Addr} {n : Int} {xs : List V} (h : H l = some (.lst xs)) (n0 : 0 ≤ n) (n1 : n ≤ 1000) (hl : xs.length ≤ 100) (q : ∀ p H', H p = none → Ex H H' → H' p = some (.lst (List.replicate n.toNat xs).flatten) → Q (.ref p) H') : opR X .Mult (.ref l) (.int n) H Q := by
  have sz : (100000 : Nat) ≤ sizeLine := by decide
  refine o_of op_rep ⟨l, n, xs, rfl, rfl, h, by omega, by omega, ?_, fun p hp => q p _ hp (Ex.new hp) upd_same⟩
  have : xs.length * n.toNat ≤ 100 * 1000 := Nat.mul_le_mul hl (by omega)
  omega
theorem c_eqO {C a dx : Addr} {sp : List V → Hp → VK → Prop} {fs : List (Str × V)} {y : V} {t : Value} (D : Dm X C "__eq__" sp) (e : H a = some (.ins C dx fs)) (ty : TyX X.K H y t) (nf : PySem.W.notFirst X.K C t = true) (q : sp [.ref a, y] H Q) : cmR X .Eq (.ref a) y H Q := c_of (op_eqO D) ⟨a, dx, fs, t, rfl, e, ty, nf, q⟩
theorem c_neO {C a dx : Addr} {sp : List V → Hp → VK → Prop} {fs : List (Str × V)} {y : V} {t : Value} (D : Dm X C "__eq__" sp) (hne : PySem.W.findIn X.K (.ref C) "__ne__" = some (some (.builtin "object.__ne__"))) (hm : PySem.W.mroIn X.K C (.type "object") = some true) (e : H a = some (.ins C dx fs)) (ty : TyX X.K H y t) (nf : PySem.W.notFirst X.K C t = true)
    (q : sp [.ref a, y] H fun z H' => ∃ c, z = .bl c ∧ Q (.bl (!c)) H') : cmR X .NotEq (.ref a) y H Q := c_of (op_neO D hne hm) ⟨a, dx, fs, t, rfl, e, ty, nf, q⟩
def rReprD (K : PySem.W.Frag) : List V → Hp → VK → Prop := fun xs H Q => ∃ (a : Addr) (d : PyData), xs = [.ref a] ∧ Dp K H (.ref a) d ∧ d.showable = true ∧ d.hasDict = false ∧ d.depth < 60 ∧ d.shown.length ≤ sizeLine ∧ Q (.str d.shown) H
/-- repr of a list or of an own object -/
def rReprN (K : PySem.W.Frag) (C : Addr) (sp : List V → Hp → VK → Prop) : List V → Hp → VK → Prop := fun xs H Q => rReprD K xs H Q ∨ ∃ x, xs = [x] ∧ tSh sp C x H Q
theorem b_reprD {x : Str} (hg : X.A.guards = some []) (hu : X.A.units + 64 < cLine) (bn : Bn X x (.builtin "repr")) : Fn X x (rReprD X.K) := cb_mk (call_reprD hg hu) bn
theorem b_reprN {x : Str} {C : Addr} {sp : List V → Hp → VK → Prop} (D : Dm X C "__repr__" sp) (hg : X.A.guards = some []) (hu : X.A.units + 64 < cLine) (bn : Bn X x (.builtin "repr")) : Fn X x (rReprN X.K C sp) := cb_mk (CallR.or (call_reprD hg hu) (call_reprO D)) bn
end
/-! ### lengths of shown texts -/
def Asc (s : Str) : Prop := ∀ c ∈ s.cps.toList, c < 16 ^ 8
theorem Asc.app {s t : Str} (a : Asc s) (b : Asc t) : Asc (s ++ t) := by
  intro c h
  rw [Str.cps_append, Array.toList_append, List.mem_append] at h
  exact h.elim (a c) (b c)
theorem asc_int (x : Int) : Asc (Str.ofString (toString x)) := by
  intro c h
  cases x with
  | ofNat n =>
    rw [show (Str.ofString (toString (Int.ofNat n))).cps.toList = TL.numL n from codes_nat n] at h
    have := (TL.numL_digits n c h).2
    omega
  | negSucc n =>
    rw [codes_neg] at h
    rcases List.mem_cons.mp h with rfl | h
    · decide
    · have := (TL.numL_digits _ c h).2
      omega
theorem asc_nTxt (x y : Int) : Asc (nTxt x y) := by
  unfold nTxt
  split
  · exact asc_int x
  · exact ((asc_int x).app (by unfold Asc; decide +kernel)).app (asc_int y)
theorem repr_len {s : Str} (h : Asc s) : (PySem.reprText s).length ≤ 10 * s.length + 2 := PySem.StrLaws.reprText_len s h
theorem textFrom_le : ∀ (ts : List Str) (k : Nat) (acc : Str) (m : Nat), (∀ t ∈ ts, t.length ≤ m) → (PySem.textFrom k acc ts).length ≤ acc.length + ts.length * (m + 2)
  | [], _, _, _, _ => Nat.le_add_right _ _
  | t :: ts, k, acc, m, h => by
    have ih := textFrom_le ts (k + 1) (acc ++ (if k > 0 then ", " else "" : String) ++ t) m fun t ht => h t (List.mem_cons_of_mem _ ht)
    have h1 := h t (List.mem_cons_self ..)
    have h2 : (Str.ofString (if k > 0 then ", " else "" : String)).length ≤ 2 := by split <;> decide
    rw [len_app, len_app] at ih
    rw [List.length_cons, Nat.add_mul]
    show (PySem.textFrom (k + 1) (acc ++ (if k > 0 then ", " else "" : String) ++ t) ts).length ≤ _
    omega
theorem listText_le {ts : List Str} {m : Nat} (h : ∀ t ∈ ts, t.length ≤ m) (hn : ts.length ≤ 50) (hm : m ≤ 60000) : (PySem.listText ts).length ≤ sizeLine := by
  have sz : (5000000 : Nat) ≤ sizeLine := by decide
  have a := textFrom_le ts 0 "[" m h
  have e1 : (Str.ofString "[").length = 1 := rfl
  have e2 : (Str.ofString "]").length = 1 := rfl
  have b : ts.length * (m + 2) ≤ 50 * 60002 := Nat.mul_le_mul hn (by omega)
  unfold PySem.listText
  rw [len_app]
  omega
theorem ExB.fr {p q : Addr} {H H' : Hp} (e : ExB p H H') (s : Spr H' p) (h : H' q = none) : H q = none := by
  cases z : H q with
  | none => rfl
  | some o =>
    have n : q ≠ p := s.ne h
    rw [e q o n z] at h
    cases h
theorem room_u {k : Nat} {A : Around} (r : Room k A) : A.units + 64 < cLine := by have := r.un; omega
/-- C(k = v, ..) keeps sp -/
def MkK (X : Cx) (x : Str) (ks : List Str) (sp : List V → Hp → VK → Prop) : Prop := ∀ (kws : List Keyword) (pos p : Pos) (σ : L2.St) (H : Hp) (Q : VK), (backToKw pos (keywordEach kws X.env)).all (·.1.isSome) = true → (backToKw pos (keywordEach kws X.env)).filterMap (·.1) = ks →
  ((backTo pos (starEach [] X.env)).any (·.1) || (backToKw pos (keywordEach kws X.env)).any (·.1.isNone)) = false → Gk X kws σ H (fun zs H2 => zs.length = ks.length ∧ sp zs H2 Q) → Go X (.Call (.Name x p) [] kws pos) σ H Q
theorem e_kw {X : Cx} {x : Str} {ks : List Str} {sp : List V → Hp → VK → Prop} {kws : List Keyword} {pos p : Pos} {σ : L2.St} {H : Hp} {Q : VK} (m : MkK X x ks sp) (h1 : (backToKw pos (keywordEach kws X.env)).all (·.1.isSome) = true) (h2 : (backToKw pos (keywordEach kws X.env)).filterMap (·.1) = ks)
    (h3 : ((backTo pos (starEach [] X.env)).any (·.1) || (backToKw pos (keywordEach kws X.env)).any (·.1.isNone)) = false) (h : Gk X kws σ H fun zs H2 => zs.length = ks.length ∧ sp zs H2 Q) : Go X (.Call (.Name x p) [] kws pos) σ H Q := m _ _ _ _ _ _ h1 h2 h3 h
theorem lgb {n k : Nat} (h : n < 2 ^ k) (hk : 0 < k) : n.log2 < k := by
  by_cases z : n = 0
  · subst z
    simpa using hk
  · exact (Nat.log2_lt z).mpr h
/-! ### texts of low signs -/
def Lo (s : Str) : Prop := ∀ c ∈ s.cps.toList, c < 128
theorem Lo.app {s t : Str} (a : Lo s) (b : Lo t) : Lo (s ++ t) := by
  intro c h
  rw [Str.cps_append, Array.toList_append, List.mem_append] at h
  exact h.elim (a c) (b c)
theorem Lo.asc {s : Str} (a : Lo s) : Asc s := fun c h => Nat.lt_trans (a c h) (by decide)
theorem Lo.ok {s : Str} (a : Lo s) : PyData.strOk s = true := by
  unfold PyData.strOk
  rw [← Array.all_toList, List.all_eq_true]
  intro c h
  exact decide_eq_true (Nat.lt_trans (a c h) (by decide))
theorem lo_int (x : Int) : Lo (Str.ofString (toString x)) := by
  intro c h
  cases x with
  | ofNat n =>
    rw [show (Str.ofString (toString (Int.ofNat n))).cps.toList = TL.numL n from codes_nat n] at h
    have := (TL.numL_digits n c h).2
    omega
  | negSucc n =>
    rw [codes_neg] at h
    rcases List.mem_cons.mp h with rfl | h
    · decide
    · have := (TL.numL_digits _ c h).2
      omega
theorem lo_lit {s : Str} (h : (s.cps.toList.all fun c => decide (c < 128)) = true) : Lo s := fun c hc => of_decide_eq_true (List.all_eq_true.mp h c hc)
theorem lo_hex : ∀ c : Nat, c < 128 → ((List.replicate (2 - ((Nat.toDigits 16 c).map Char.toNat).length) 48 ++ (Nat.toDigits 16 c).map Char.toNat).all fun d => decide (d < 128)) = true := by decide +kernel
theorem lo_rc {q c : Nat} (hq : q < 128) (hc : c < 128) : ∀ d ∈ PySem.Builtin.Str.reprChar q c, d < 128 := by
  intro d h
  unfold PySem.Builtin.Str.reprChar at h
  have x := List.all_eq_true.mp (lo_hex c hc)
  dsimp only at h
  split at h
  · simp only [List.mem_cons, List.not_mem_nil, or_false] at h; omega
  · split at h
    · simp only [List.mem_cons, List.not_mem_nil, or_false] at h; omega
    · split at h
      · simp only [List.mem_cons, List.not_mem_nil, or_false] at h; omega
      · split at h
        · simp only [List.mem_cons, List.not_mem_nil, or_false] at h; omega
        · split at h
          · simp only [List.mem_cons, List.not_mem_nil, or_false] at h; omega
          · split at h
            · rcases List.mem_append.mp h with h | h
              · simp only [List.mem_cons, List.not_mem_nil, or_false] at h; omega
              · exact of_decide_eq_true (x d h)
            · omega
theorem lo_fold {q : Nat} (hq : q < 128) : ∀ (l : List Nat) (out : Array Nat), (∀ c ∈ l, c < 128) → (∀ c ∈ out.toList, c < 128) → ∀ c ∈ (l.foldl (fun out c => out ++ (PySem.Builtin.Str.reprChar q c).toArray) out).toList, c < 128
  | [], _, _, h => h
  | a :: l, out, hl, h => by
    refine lo_fold hq l _ (fun c hc => hl c (List.mem_cons_of_mem _ hc)) fun c hc => ?_
    rw [Array.toList_append, List.mem_append] at hc
    exact hc.elim (h c) (lo_rc hq (hl a (List.mem_cons_self ..)) c)
theorem lo_repr {s : Str} (h : Lo s) : Lo (PySem.reprText s) := by
  have hq : PySem.reprQuote s < 128 := by
    unfold PySem.reprQuote
    split <;> decide
  intro c hc
  unfold PySem.reprText at hc
  rw [Array.toList_push, List.mem_append] at hc
  rcases hc with hc | hc
  · rw [← Array.foldl_toList] at hc
    exact lo_fold hq _ _ h (fun c hc => by simp at hc; omega) c hc
  · simp at hc
    omega
theorem lo_tf : ∀ (ts : List Str) (k : Nat) (acc : Str), (∀ t ∈ ts, Lo t) → Lo acc → Lo (PySem.textFrom k acc ts)
  | [], _, _, _, h => h
  | t :: ts, k, acc, hl, h => by
    show Lo (PySem.textFrom (k + 1) (acc ++ (if k > 0 then ", " else "" : String) ++ t) ts)
    refine lo_tf ts _ _ (fun t ht => hl t (List.mem_cons_of_mem _ ht)) ((h.app ?_).app (hl t (List.mem_cons_self ..)))
    split <;> exact lo_lit (by decide +kernel)
theorem lo_list {ts : List Str} (h : ∀ t ∈ ts, Lo t) : Lo (PySem.listText ts) := (lo_tf ts 0 "[" h (lo_lit (by decide +kernel))).app (lo_lit (by decide +kernel))
theorem lo_nTxt (x y : Int) : Lo (nTxt x y) := by
  unfold nTxt
  split
  · exact lo_int x
  · exact ((lo_int x).app (lo_lit (by decide +kernel))).app (lo_int y)
theorem cFe {c : Bool} {A B : Prop} (e : c = false) (h : B) : cnd c A B := by
  subst e
  exact cF h
theorem cTe {c : Bool} {A B : Prop} (e : c = true) (h : A) : cnd c A B := by
  subst e
  exact cT h
/-- a list that was there before p stays -/
theorem SqL.goB {K : PySem.W.Frag} {H H1 H2 : Hp} {a p : Addr} {xs : List V} (h : SqL K H a xs) (n : H p = none) (e : Ex H H1) (b : ExB p H1 H2) : SqL K H2 a xs :=
  h.elim (fun h => .inl (h.elim (fun h => .inl (b _ _ (ne_of_none h n) (e _ _ h))) fun ⟨o, h⟩ => .inr ⟨o, b _ _ (ne_of_none h n) (e _ _ h)⟩)) fun h => .inr h
/-! ### operators of an own class -/
section
variable {Pr0 : Program} {W0 : World} {A0 : Around} {Er : Value → Shared → Prop} {sh : Shared} {Kf : PySem.W.Frag} {ax Cx' fq f0 : Addr} {oX : Obj} {oD : Option Obj} {i : Int} {t : Tok} {dA : Addr}
open PySem.W Builtin in
theorem int_no_add {C : Addr} : Meets (Builtin.«int.__add__» ⟨[.int i t, .ref ax], []⟩) (fun _ R s => s.heap.get? ax = some (instObj C dA) ∧ R (.ok (.ret Value.notImplemented)) s) :=
  .of_wp fun prog w A R s h => by obtain ⟨hp, g, d, tk, os⟩ := s; obtain ⟨hl, h⟩ := h; wp_walk; exact ⟨_, rfl, h⟩
open PySem.W Builtin in
theorem int_no_sub {C : Addr} : Meets (Builtin.«int.__sub__» ⟨[.int i t, .ref ax], []⟩) (fun _ R s => s.heap.get? ax = some (instObj C dA) ∧ R (.ok (.ret Value.notImplemented)) s) :=
  .of_wp fun prog w A R s h => by obtain ⟨hp, g, d, tk, os⟩ := s; obtain ⟨hl, h⟩ := h; wp_walk; exact ⟨_, rfl, h⟩
open PySem.W Builtin in
theorem int_no_mul {C : Addr} : Meets (Builtin.«int.__mul__» ⟨[.int i t, .ref ax], []⟩) (fun _ R s => s.heap.get? ax = some (instObj C dA) ∧ R (.ok (.ret Value.notImplemented)) s) :=
  .of_wp fun prog w A R s h => by obtain ⟨hp, g, d, tk, os⟩ := s; obtain ⟨hl, h⟩ := h; wp_walk; exact ⟨_, rfl, h⟩
open PySem.W in
/-- the left operand, an int, declines; the own class's reflected def answers -/
theorem refl_own {op : Operator} {R : Value → Shared → Prop} (kin : Kf.In sh.heap) (inst : InstAt sh.heap ax oX Cx' oD) (first : selfFirst Kf Cx' = true) (own0 : findIn Kf (.ref Cx') (PySem.dunder op.info.2) = some (some (.ref f0)))
    (own : findIn Kf (.ref Cx') (dunderR op.info.2) = some (some (.ref fq))) (isf : isFn Kf (.ref fq) = true) (apart : mroIn Kf Cx' (.type "int") = some false) (fills : fillsNumberSlot (.type "int") op.info.2 = pure true)
    (dec : wpAny (model Pr0 W0) A0 (tryMethod (.int i t) (PySem.dunder op.info.2) (.ref ax)) (fun r s' => r = none ∧ s' = sh) Er sh) (k : wpAny (model Pr0 W0) A0 (call (.ref fq) [.ref ax, .int i t]) (PySem.W.CmpBack R) Er sh) : wpAny (model Pr0 W0) A0 (binaryOp op (.int i t) (.ref ax)) R Er sh := by
  obtain ⟨cd, rest, hcd, hm⟩ := ksp_first first
  rcases hi : op.info with ⟨sg, nm⟩
  rw [hi] at own0 own fills dec
  dsimp only at own0 own fills dec
  have two := ksp_try kin inst own isf k
  have M1 : Looks (model Pr0 W0) sh.heap (typeOf (.int i t)) (.type "int") := Looks.of_pure rfl
  have M2 : Looks (model Pr0 W0) sh.heap (typeOf (.ref ax)) (.ref Cx') := inst.type
  have M3 : Looks (model Pr0 W0) sh.heap (fillsNumberSlot (.type "int") nm) true := Looks.of_pure fills
  have M4 : Looks (model Pr0 W0) sh.heap (fillsNumberSlot (.ref Cx') nm) true := fills_K kin hcd hm own0
  have M5 : Looks (model Pr0 W0) sh.heap (isSubtype (.ref Cx') (.type "int")) false := looks_mroIn kin apart
  have M6 : Looks (model Pr0 W0) sh.heap (numberSlotInPython (.type "int") nm) false := Looks.of_pure rfl
  have ne : (Value.type "int" == Value.ref Cx') = false := Bool.eq_false_iff.mpr fun q => by cases beq_iff_eq.mp q
  simp only [binaryOp, hi]
  refine wpAny_holding (wpAny_bind ?_)
  unfold binaryOp1
  refine wpAny_bind (M1.here (wpAny_bind (M2.here (wpAny_bind (M3.here ?_)))))
  simp only [ne, Bool.false_eq_true, if_false]
  refine wpAny_bind (M4.here ?_)
  simp only [Bool.and_self, if_true]
  refine wpAny_bind (M5.here ?_)
  simp only [Bool.false_eq_true, if_false, pure_bind, Bool.not_false, Bool.and_self, if_true]
  refine wpAny_bind (M6.here ?_)
  simp only [Bool.false_eq_true, if_false, pure_bind, Bool.not_false, Bool.and_self, if_true]
  refine wpAny_bind (thn dec fun r s' z => ?_)
  obtain ⟨rfl, rfl⟩ := z
  refine wpAny_bind (thn two fun r s' z => ?_)
  obtain ⟨v, rfl, q⟩ := z
  exact wpAny_bind (wpAny_rule (wpAny_pure (wpAny_pure q)))
end
/-! ### operators of own numbers, by values -/
/-- what of the text the operator op of the class C must have beside the defs -/
structure Nu (K : PySem.W.Frag) (C : Addr) (op : Operator) : Prop where
  first : PySem.W.selfFirst K C = true
  rr : ∃ rc, PySem.W.findIn K (.ref C) (PySem.dunderR op.info.2) = some rc ∧ (rc = none ∨ ∃ g : Addr, rc = some (.ref g))
  fi : ∃ fo, PySem.W.findIn K (.type "int") (PySem.dunder op.info.2) = some fo
  ri : ∃ ro, PySem.W.findIn K (.type "int") (PySem.dunderR op.info.2) = some ro
  ap : PySem.W.mroIn K C (.type "int") = some false
  sub : PySem.W.subIn K (.type "int") (.ref C) = some false
def inC (C : Addr) (y : V) (H : Hp) : Prop := (∃ b dy gs, y = .ref b ∧ H b = some (.ins C dy gs)) ∨ ∃ i : Int, y = .int i
section
variable {X : Cx} {C a dx : Addr} {sp sp' : List V → Hp → VK → Prop} {H : Hp} {Q : VK} {op : Operator} {fs : List (Str × V)} {y : V}
/-- own op own, own op int -/
theorem o_own (D : Dm X C (PySem.dunder op.info.2) sp) (N : Nu X.K C op) (e : H a = some (.ins C dx fs)) (hy : inC C y H) (q : sp [.ref a, y] H Q) : opR X op (.ref a) y H Q := by
  intro pins σ s v u I rx ry
  cases rx
  obtain ⟨f, CX, n, s0, E, h1, h2, F, hr, hx, hs⟩ := D.ex
  obtain ⟨ox, od, J⟩ := ins_at I e
  obtain ⟨m, hF⟩ := I.fr
  have go : wpAny (model X.prog X.w) X.A (call (.ref f) [.ref a, u]) (PySem.W.CmpBack (EP X pins σ Q)) X.xe s := by
    refine wpAny_mono (dm_run F (hr.mono (by omega)) I.env0 hx I (.cons (show RelV (.ref a) _ from rfl) (.cons ry .nil)) (hs _ _ _ q)) (fun v s' z => ?_) fun _ _ z => z
    obtain ⟨z', H', I', rz, qz⟩ := z
    exact SlX.cmpback rz ⟨z', H', I', rz, qz⟩
  rcases hy with ⟨b, dy, gs, rfl, eb⟩ | ⟨i, rfl⟩
  · cases ry
    obtain ⟨oy, ody, Jy⟩ := ins_at I eb
    exact PySem.W.binop_K hF I.ok.mod.kin J Jy.type N.first h1 h2 go
  · obtain ⟨t, rfl⟩ := ry
    obtain ⟨rc, r1, r2⟩ := N.rr
    obtain ⟨fo, f1⟩ := N.fi
    obtain ⟨ro, o1⟩ := N.ri
    exact PySem.W.ksp_binT (T := "int") hF I.ok.mod.kin J rfl N.first h1 h2 r1 r2 f1 o1 N.sub go
/-- the int's own def declines -/
theorem decl_add {i : Int} {t : Tok} {C' dA : Addr} {P : Program} {W : World} {A : Around} {Er : Value → Shared → Prop} {s : Shared} (h : s.heap.get? a = some (PySem.W.instObj C' dA)) : wpAny (model P W) A (tryMethod (.int i t) (PySem.dunder Operator.Add.info.2) (.ref a)) (fun r s' => r = none ∧ s' = s) Er s := by
  rw [show PySem.dunder Operator.Add.info.2 = PySem.dunder "add" from by decide +kernel]
  apply wpAny_tryMethod_declines
  case h => exact PySem.F.slot_int_add
  case hT => exact typeIs_int s i t
  case hc => exact call_meets PySem.F.slot_int_add (typeIs_int s i t) PySem.F.entry_int_add (PySem.F.args_int_add_2 _ _) (int_no_add (C := C') (dA := dA)) ⟨h, rfl, rfl, rfl⟩
theorem decl_sub {i : Int} {t : Tok} {C' dA : Addr} {P : Program} {W : World} {A : Around} {Er : Value → Shared → Prop} {s : Shared} (h : s.heap.get? a = some (PySem.W.instObj C' dA)) : wpAny (model P W) A (tryMethod (.int i t) (PySem.dunder Operator.Sub.info.2) (.ref a)) (fun r s' => r = none ∧ s' = s) Er s := by
  rw [show PySem.dunder Operator.Sub.info.2 = PySem.dunder "sub" from by decide +kernel]
  apply wpAny_tryMethod_declines
  case h => exact PySem.F.slot_int_sub
  case hT => exact typeIs_int s i t
  case hc => exact call_meets PySem.F.slot_int_sub (typeIs_int s i t) PySem.F.entry_int_sub (PySem.F.args_int_sub_2 _ _) (int_no_sub (C := C') (dA := dA)) ⟨h, rfl, rfl, rfl⟩
theorem decl_mul {i : Int} {t : Tok} {C' dA : Addr} {P : Program} {W : World} {A : Around} {Er : Value → Shared → Prop} {s : Shared} (h : s.heap.get? a = some (PySem.W.instObj C' dA)) : wpAny (model P W) A (tryMethod (.int i t) (PySem.dunder Operator.Mult.info.2) (.ref a)) (fun r s' => r = none ∧ s' = s) Er s := by
  rw [show PySem.dunder Operator.Mult.info.2 = PySem.dunder "mul" from by decide +kernel]
  apply wpAny_tryMethod_declines
  case h => exact PySem.F.slot_int_mul
  case hT => exact typeIs_int s i t
  case hc => exact call_meets PySem.F.slot_int_mul (typeIs_int s i t) PySem.F.entry_int_mul (PySem.F.args_int_mul_2 _ _) (int_no_mul (C := C') (dA := dA)) ⟨h, rfl, rfl, rfl⟩
/-- int op own -/
theorem o_refl {i : Int} (D0 : Dm X C (PySem.dunder op.info.2) sp) (D : Dm X C (PySem.dunderR op.info.2) sp') (N : Nu X.K C op) (ho : op = .Add ∨ op = .Sub ∨ op = .Mult) (e : H a = some (.ins C dx fs)) (q : sp' [.ref a, .int i] H Q) : opR X op (.int i) (.ref a) H Q := by
  intro pins σ s v u I rx ry
  cases ry
  obtain ⟨t, rfl⟩ := rx
  obtain ⟨f0, _, _, _, _, g1, _⟩ := D0.ex
  obtain ⟨f, CX, n, s0, E, h1, h2, F, hr, hx, hs⟩ := D.ex
  obtain ⟨ox, od, J⟩ := ins_at I e
  obtain ⟨mA, O, _⟩ := ins_get I.hok e
  have go : wpAny (model X.prog X.w) X.A (call (.ref f) [.ref a, .int i t]) (PySem.W.CmpBack (EP X pins σ Q)) X.xe s := by
    refine wpAny_mono (dm_run F (hr.mono (by omega)) I.env0 hx I (.cons (show RelV (.ref a) _ from rfl) (.cons (show RelV (.int i) _ from ⟨t, rfl⟩) .nil)) (hs _ _ _ q)) (fun v s' z => ?_) fun _ _ z => z
    obtain ⟨z', H', I', rz, qz⟩ := z
    exact SlX.cmpback rz ⟨z', H', I', rz, qz⟩
  rcases ho with rfl | rfl | rfl
  · exact refl_own I.kIn J N.first g1 h1 h2 N.ap PySem.F.fills_int_add (decl_add O.obj) go
  · exact refl_own I.kIn J N.first g1 h1 h2 N.ap PySem.F.fills_int_sub (decl_sub O.obj) go
  · exact refl_own I.kIn J N.first g1 h1 h2 N.ap PySem.F.fills_int_mul (decl_mul O.obj) go
/-! ### one operand -/
def unR (X : Cx) (op : UnaryOp) : V → Hp → VK → Prop := fun x H Q => ∀ pins σ s v, Inv X pins σ H s → RelV x v → wpAny (model X.prog X.w) X.A (unaryOp op v) (EP X pins σ Q) X.xe s
theorem unR_ok {op : UnaryOp} : UnR X (unaryOp op) (unR X op) := fun pins s σ H x v Q I r h => h pins σ s v I r
theorem e_un {op : UnaryOp} {e : Expr} {pos : Pos} {σ : L2.St} (h : Go X e σ H fun x H1 => unR X op x H1 Q) : Go X (.UnaryOp op e pos) σ H Q := ge (pe_un unR_ok pe) h
theorem u_neg {i : Int} (q : Q (.int (-i)) H) : unR X .USub (.int i) H Q := fun pins σ s v I r => un_neg pins s σ H _ v Q I r ⟨i, rfl, q⟩
theorem u_own (D : Dm X C "__neg__" sp) (e : H a = some (.ins C dx fs)) (q : sp [.ref a] H Q) : unR X .USub (.ref a) H Q := by
  intro pins σ s v I rx
  cases rx
  obtain ⟨f, CX, n, s0, E, h1, h2, F, hr, hx, hs⟩ := D.ex
  obtain ⟨ox, od, J⟩ := ins_at I e
  obtain ⟨m, hF⟩ := I.fr
  exact PySem.W.ksp_neg hF I.ok.mod.kin J h1 h2 (dm_run F (hr.mono (by omega)) I.env0 hx I (.cons (show RelV (.ref a) _ from rfl) .nil) (hs _ _ _ q))
/-- abs of an int or of an own number -/
theorem call_absO (D : Dm X C "__abs__" sp) : CallR X (.builtin "abs") (fun xs H Q => ∃ a dx fs, xs = [.ref a] ∧ H a = some (.ins C dx fs) ∧ sp [.ref a] H Q) := by
  intro pins s σ H xs us Q I r h
  obtain ⟨a, dx, fs, rfl, e, q⟩ := h
  obtain ⟨u, rfl, ru⟩ := vals1 r
  cases ru
  obtain ⟨f, CX, n, s0, E, h1, h2, F, hr, hx, hs⟩ := D.ex
  obtain ⟨ox, od, J⟩ := ins_at I e
  have r1 := hr.in1
  refine PySem.Calls.call_function_entry kind_abs plain_abs entry_abs (args_abs _) ?_
  unfold Builtin.«abs»
  refine wpAny_bind (m := _) (wpAny_pure ?_)
  refine wpAny_bind (m := callSpecial? (.ref a) (Str.ofString "__abs__")) (PySem.W.special_fn I.kIn J h1 (beq_iff_eq.mp h2) (thn (dm_run F (r1.mono (by omega)) I.env0.in1 hx I (.cons (show RelV (.ref a) _ from rfl) .nil) (hs _ _ _ q)) fun v s' z => ?_))
  exact wpAny_pure ⟨_, rfl, z⟩
end
theorem log_mul (x y : Int) : (x * y).natAbs.log2 ≤ x.natAbs.log2 + y.natAbs.log2 + 1 := by
  rw [Int.natAbs_mul]
  by_cases z : x.natAbs * y.natAbs = 0
  · rw [z]; simp
  · have hx : x.natAbs < 2 ^ (x.natAbs.log2 + 1) := Nat.lt_log2_self
    have hy : y.natAbs < 2 ^ (y.natAbs.log2 + 1) := Nat.lt_log2_self
    have h : x.natAbs * y.natAbs < 2 ^ (x.natAbs.log2 + y.natAbs.log2 + 1 + 1) := by
      have e : (2 : Nat) ^ (x.natAbs.log2 + y.natAbs.log2 + 1 + 1) = 2 ^ (x.natAbs.log2 + 1) * 2 ^ (y.natAbs.log2 + 1) := by
        rw [← Nat.pow_add]
        congr 1
        omega
      rw [e]
      exact Nat.mul_lt_mul'' hx hy
    have := (Nat.log2_lt z).mpr h
    omega
end G
set_option Elab.async false
set_option linter.all false
set_option maxRecDepth 100000
set_option maxHeartbeats 4000000
namespace Z
open PySem PySem.Spec PyProof.Rows L2 G
/-! ### deep values -/
inductive D where
  | non | bl (b : Bool) | int (i : Int) | str (s : Str) | ty (n : String) | cls (c : Str)
  | tup (ds : List D) | lst (ds : List D) | obj (c : Str) (ns : List Str) (ds : List D) | dic (ks : List Key) (ds : List D) | cell (i : Nat) | scr (ns : List Int)
  | exc (c : Str) (ns : List Str) (ds : List D) | clo (a c : Nat) (q : Str) (vs : List V) (ds : List D)
/-- what a cell holds -/
inductive Ce where
  | lst (ds : List D) | obj (c : Str) (ns : List Str) (ds : List D) | dic (ks : List Key) (ds : List D) | tab (x q : Str)
abbrev Store := List Ce
/-- a run's end -/
inductive R (α : Type) where
  | ok (a : α) (h : Store) | ex (c : Str) (ns : List Str) (ds : List D) (h : Store) | no
abbrev M (α : Type) := Store → R α
def R.bnd {α β : Type} (r : R α) (f : α → Store → R β) : R β := match r with
  | .ok a h => f a h
  | .ex c ns ds h => .ex c ns ds h
  | .no => .no
/-- a local name -/
inductive Slt where
  | un | pu (d : D) | ol (ds : List D) | od (ks : List Key) (ds : List D) | oo (c : Str) (ns : List Str) (ds : List D)
abbrev Ev := List Slt
abbrev EM := Ev → M D
/-- how a statement ends -/
inductive Fl where
  | nx (e : Ev) | rt (d : D) | bk (e : Ev) | ct (e : Ev)
abbrev SM := Ev → M Fl
/-- an exception's object: its class, its dict -/
def xo (C : Addr) (dx : Option Addr) (a : Addr) : HO := .ext fun h => ∃ (oe : Obj) (vs : Array Value), h.get? a = some oe ∧ oe.cls = .ref C ∧ oe.dict = dx ∧ oe.data = .fields vs
def ga (K : PySem.W.Frag) (x : Str) : Addr := match PySem.W.nsIn K mainGlobals x with
  | some (some (.ref a)) => a
  | _ => 0
section
variable (K : PySem.W.Frag) (F : Hp) (m : List Addr)
mutual
/-- the value v is d -/
def Rp : D → V → Prop
  | .non, v => v = .non
  | .bl b, v => v = .bl b
  | .int i, v => v = .int i
  | .str s, v => v = .str s
  | .ty n, v => v = .ty n
  | .cls c, v => v = .ref (ga K c)
  | .tup ds, v => ∃ a vs, v = .ref a ∧ SqT K F a vs ∧ Rps ds vs
  | .lst ds, v => ∃ a vs, v = .ref a ∧ F a = some (.lst vs) ∧ Rps ds vs
  | .scr ns, v => ∃ a, v = .ref a ∧ SqL K F a (ns.map V.int)
  | .obj c ns ds, v => ∃ a dx vs, v = .ref a ∧ F a = some (.ins (ga K c) dx (ns.zip vs)) ∧ ns.length = vs.length ∧ Rps ds vs
  | .dic ks ds, v => ∃ a vs, v = .ref a ∧ F a = some (.dK (ks.zip vs)) ∧ ks.length = vs.length ∧ Rps ds vs
  | .cell i, v => ∃ a, v = .ref a ∧ m[i]? = some a
  | .clo a c q ws ds, v => v = .ref a ∧ F c = some (LamX.CodeO c q) ∧ Rps ds ws
  | .exc c ns ds, v => ∃ a dx vs, v = .ref a ∧ F a = some (xo (ga K c) dx a) ∧ ns.length = vs.length ∧ Rps ds vs ∧ ((ns = [] ∧ dx = none) ∨ ∃ d, dx = some d ∧ F d = some (.xd (ns.zip vs)))
def Rps : List D → List V → Prop
  | [], vs => vs = []
  | d :: ds, vs => ∃ x xs, vs = x :: xs ∧ Rp d x ∧ Rps ds xs
end
end
variable {K : PySem.W.Frag} {F F' H H' : Hp} {m m' : List Addr}
theorem exSqL (e : Ex F F') {a : Addr} {xs : List V} (h : SqL K F a xs) : SqL K F' a xs := h.ext e
theorem exSqT (e : Ex F F') {a : Addr} {xs : List V} (h : SqT K F a xs) : SqT K F' a xs := h.ext e
mutual
theorem Rp.mono (e : Ex F F') (hm : ∃ n, m' = m ++ n) : ∀ (d : D) {v : V}, Rp K F m d v → Rp K F' m' d v
  | .non, v, h => by unfold Rp at h ⊢; exact h
  | .bl b, v, h => by unfold Rp at h ⊢; exact h
  | .int i, v, h => by unfold Rp at h ⊢; exact h
  | .str s, v, h => by unfold Rp at h ⊢; exact h
  | .ty n, v, h => by unfold Rp at h ⊢; exact h
  | .cls c, v, h => by unfold Rp at h ⊢; exact h
  | .tup ds, v, h => by
    unfold Rp at h ⊢
    obtain ⟨a, vs, h1, h2, h3⟩ := h
    exact ⟨a, vs, h1, exSqT e h2, Rps.mono e hm ds h3⟩
  | .lst ds, v, h => by
    unfold Rp at h ⊢
    obtain ⟨a, vs, h1, h2, h3⟩ := h
    exact ⟨a, vs, h1, e _ _ h2, Rps.mono e hm ds h3⟩
  | .scr ns, v, h => by
    unfold Rp at h ⊢
    obtain ⟨a, h1, h2⟩ := h
    exact ⟨a, h1, exSqL e h2⟩
  | .obj c ns ds, v, h => by
    unfold Rp at h ⊢
    obtain ⟨a, dx, vs, h1, h2, h3, h4⟩ := h
    exact ⟨a, dx, vs, h1, e _ _ h2, h3, Rps.mono e hm ds h4⟩
  | .dic ks ds, v, h => by
    unfold Rp at h ⊢
    obtain ⟨a, vs, h1, h2, h3, h4⟩ := h
    exact ⟨a, vs, h1, e _ _ h2, h3, Rps.mono e hm ds h4⟩
  | .cell i, v, h => by
    unfold Rp at h ⊢
    obtain ⟨a, h1, h2⟩ := h
    obtain ⟨n, rfl⟩ := hm
    exact ⟨a, h1, by rw [List.getElem?_append_left (List.getElem?_eq_some_iff.mp h2).1]; exact h2⟩
  | .clo a c q ws ds, v, h => by unfold Rp at h ⊢; exact ⟨h.1, e _ _ h.2.1, Rps.mono e hm ds h.2.2⟩
  | .exc c ns ds, v, h => by
    unfold Rp at h ⊢
    obtain ⟨a, dx, vs, h1, h2, h3, h4, h5⟩ := h
    exact ⟨a, dx, vs, h1, e _ _ h2, h3, Rps.mono e hm ds h4, h5.imp id fun ⟨d, e1, e2⟩ => ⟨d, e1, e _ _ e2⟩⟩
theorem Rps.mono (e : Ex F F') (hm : ∃ n, m' = m ++ n) : ∀ (ds : List D) {vs : List V}, Rps K F m ds vs → Rps K F' m' ds vs
  | [], vs, h => by unfold Rps at h ⊢; exact h
  | d :: ds, vs, h => by
    unfold Rps at h ⊢
    obtain ⟨x, xs, h1, h2, h3⟩ := h
    exact ⟨x, xs, h1, Rp.mono e hm d h2, Rps.mono e hm ds h3⟩
end
theorem Rps.nil : Rps K F m [] [] := by unfold Rps; rfl
theorem Rps.cons {d : D} {ds : List D} {v : V} {vs : List V} (h : Rp K F m d v) (t : Rps K F m ds vs) : Rps K F m (d :: ds) (v :: vs) := by unfold Rps; exact ⟨v, vs, rfl, h, t⟩
theorem Rps.len : ∀ {ds : List D} {vs : List V}, Rps K F m ds vs → ds.length = vs.length
  | [], _, h => by unfold Rps at h; rw [h]; rfl
  | d :: ds, _, h => by
    unfold Rps at h
    obtain ⟨x, xs, rfl, _, h3⟩ := h
    simp [Rps.len h3]
theorem Rps.get : ∀ {ds : List D} {vs : List V} {i : Nat} {d : D}, Rps K F m ds vs → ds[i]? = some d → ∃ v, vs[i]? = some v ∧ Rp K F m d v
  | [], _, _, _, _, e => by simp at e
  | d :: ds, _, i, d', h, e => by
    unfold Rps at h
    obtain ⟨x, xs, rfl, h2, h3⟩ := h
    cases i with
    | zero => simp at e; subst e; exact ⟨x, rfl, h2⟩
    | succ i =>
      obtain ⟨v, e1, e2⟩ := Rps.get (i := i) h3 (by simpa using e)
      exact ⟨v, by simpa using e1, e2⟩
theorem Rps.get' : ∀ {ds : List D} {vs : List V} {i : Nat} {v : V}, Rps K F m ds vs → vs[i]? = some v → ∃ d, ds[i]? = some d ∧ Rp K F m d v
  | [], _, _, _, h, e => by unfold Rps at h; subst h; simp at e
  | d :: ds, _, i, v, h, e => by
    unfold Rps at h
    obtain ⟨x, xs, rfl, h2, h3⟩ := h
    cases i with
    | zero => simp at e; subst e; exact ⟨d, rfl, h2⟩
    | succ i =>
      obtain ⟨d', e1, e2⟩ := Rps.get' (i := i) h3 (by simpa using e)
      exact ⟨d', by simpa using e1, e2⟩
theorem Rps.app : ∀ {ds es : List D} {vs ws : List V}, Rps K F m ds vs → Rps K F m es ws → Rps K F m (ds ++ es) (vs ++ ws)
  | [], _, _, _, h, t => by unfold Rps at h; subst h; exact t
  | d :: ds, _, _, _, h, t => by
    unfold Rps at h
    obtain ⟨x, xs, rfl, h2, h3⟩ := h
    exact Rps.cons h2 (Rps.app h3 t)
theorem Rps.set : ∀ {ds : List D} {vs : List V} (i : Nat) {d : D} {v : V}, Rps K F m ds vs → Rp K F m d v → Rps K F m (ds.set i d) (vs.set i v)
  | [], _, _, _, _, h, _ => by unfold Rps at h; subst h; exact Rps.nil
  | e :: ds, _, i, _, _, h, r => by
    unfold Rps at h
    obtain ⟨x, xs, rfl, h2, h3⟩ := h
    cases i with
    | zero => exact Rps.cons r h3
    | succ i => exact Rps.cons h2 (Rps.set i h3 r)
theorem Rps.take : ∀ {ds : List D} {vs : List V} (i : Nat), Rps K F m ds vs → Rps K F m (ds.take i) (vs.take i)
  | [], _, _, h => by unfold Rps at h; subst h; simp; exact Rps.nil
  | e :: ds, _, i, h => by
    unfold Rps at h
    obtain ⟨x, xs, rfl, h2, h3⟩ := h
    cases i with
    | zero => exact Rps.nil
    | succ i => exact Rps.cons h2 (Rps.take i h3)
theorem Rps.drop : ∀ {ds : List D} {vs : List V} (i : Nat), Rps K F m ds vs → Rps K F m (ds.drop i) (vs.drop i)
  | [], _, _, h => by unfold Rps at h; subst h; simp; exact Rps.nil
  | e :: ds, _, i, h => by
    unfold Rps at h
    obtain ⟨x, xs, rfl, h2, h3⟩ := h
    cases i with
    | zero => exact Rps.cons h2 h3
    | succ i => exact Rps.drop i h3
/-! ### tables of code objects -/
/-- the code object of the def at p, its table -/
def codeAd (K : PySem.W.Frag) (p : Addr) : Addr := match K.lookup p with
  | some ⟨_, _, .func fd, _⟩ => (match fd.code with
    | .ref c => c
    | _ => 0)
  | _ => 0
def tabAd (K : PySem.W.Frag) (x : Str) : Addr := match K.lookup (codeAd K (ga K x)) with
  | some ⟨_, _, .fields vs, _⟩ => (match (vs[11]? : Option Value) with
    | some (.ref P) => P
    | _ => 0)
  | _ => 0
/-- the table at a: each code object that it tells bears the name q -/
def TabF (F H : Hp) (a : Addr) (q : Str) : Prop := ∃ ps : Array Value, H a = some (.tbl ps) ∧ TriplesOk ps.toList ∧ ∀ (pos : Pos) (cv : Value), codeAmong pos ps.toList = some cv → ∃ c, cv = .ref c ∧ F c = some (LamX.CodeO c q)
theorem TabF.mono {F F' H H' : Hp} {a : Addr} {q : Str} (t : TabF F H a q) (e : Ex F F') (k : ∀ o, H a = some o → H' a = some o) : TabF F' H' a q := by
  obtain ⟨ps, h1, h2, h3⟩ := t
  refine ⟨ps, k _ h1, h2, fun pos cv hc => ?_⟩
  obtain ⟨c, e1, e2⟩ := h3 pos cv hc
  exact ⟨c, e1, e _ _ e2⟩
/-! ### the world -/
/-- what is frozen, where the cells are, what the names own -/
structure Wd where
  F : Hp
  m : List Addr
  O : List (Option (Addr × HO))
def CeOk (K : PySem.W.Frag) (F : Hp) (m : List Addr) (H : Hp) (a : Addr) : Ce → Prop
  | .lst ds => ∃ vs, H a = some (.lst vs) ∧ Rps K F m ds vs
  | .obj c ns ds => ∃ dx vs, H a = some (.ins (ga K c) dx (ns.zip vs)) ∧ ns.length = vs.length ∧ Rps K F m ds vs
  | .dic ks ds => ∃ vs, H a = some (.dK (ks.zip vs)) ∧ ks.length = vs.length ∧ Rps K F m ds vs
  | .tab x q => a = tabAd K x ∧ TabF F H a q
structure WOk (K : PySem.W.Frag) (W : Wd) (h : Store) (H : Hp) : Prop where
  sub : Ex W.F H
  len : W.m.length = h.length
  cel : ∀ (i : Nat) a c, W.m[i]? = some a → h[i]? = some c → CeOk K W.F W.m H a c
  mF : ∀ a ∈ W.m, W.F a = none
  mN : ∀ a ∈ W.m, H a ≠ none
  nd : W.m.Nodup
  own : ∀ (i : Nat) p o, W.O[i]? = some (some (p, o)) → H p = some o ∧ W.F p = none ∧ p ∉ W.m
  ond : ∀ (i j : Nat) p o p' o', i ≠ j → W.O[i]? = some (some (p, o)) → W.O[j]? = some (some (p', o')) → p ≠ p'
/-- the world has grown; all that is tracked, but the cells, stands -/
structure Le (W : Wd) (H : Hp) (W' : Wd) (H' : Hp) : Prop where
  F : Ex W.F W'.F
  frm : ∀ a o, H a = some o → a ∉ W.m → H' a = some o
  new : ∀ a o, W'.F a = some o → W.F a = some o ∨ H a = none
  m : ∃ n, W'.m = W.m ++ n ∧ ∀ a ∈ n, H a = none
  O : W'.O = W.O
  cel : ∀ a ∈ W.m, H' a ≠ none
theorem Le.rfl' {W : Wd} (hc : ∀ a ∈ W.m, H a ≠ none) : Le W H W H := ⟨Ex.rfl', fun _ _ h _ => h, fun _ _ h => .inl h, ⟨[], by simp, fun _ h => by cases h⟩, rfl, hc⟩
theorem Le.tr {W W1 W2 : Wd} {H H1 H2 : Hp} (a : Le W H W1 H1) (b : Le W1 H1 W2 H2) : Le W H W2 H2 := by
  obtain ⟨n, en, hn⟩ := a.m
  obtain ⟨k, ek, hk⟩ := b.m
  refine ⟨a.F.tr b.F, fun c o h hc => ?_, fun c o h => ?_, ⟨n ++ k, by rw [ek, en, List.append_assoc], fun c hc => ?_⟩, b.O.trans a.O, fun c hc => ?_⟩
  · refine b.frm c o (a.frm c o h hc) ?_
    rw [en]
    intro hm
    rcases List.mem_append.mp hm with hm | hm
    · exact hc hm
    · rw [hn c hm] at h; cases h
  · rcases b.new c o h with h | h
    · exact a.new c o h
    · cases q : H c with
      | none => exact .inr rfl
      | some u =>
        by_cases hc : c ∈ W.m
        · exact absurd h (a.cel c hc)
        · rw [a.frm c u q hc] at h; cases h
  · rcases List.mem_append.mp hc with hc | hc
    · exact hn c hc
    · cases q : H c with
      | none => rfl
      | some u =>
        have z := hk c hc
        by_cases hm : c ∈ W.m
        · exact absurd z (a.cel c hm)
        · rw [a.frm c u q hm] at z; cases z
  · have h1 : c ∈ W1.m := by rw [en]; exact List.mem_append_left _ hc
    exact b.cel c h1
/-- a name's value -/
def SR (K : PySem.W.Frag) (F : Hp) (m : List Addr) : Option V → Slt → Option (Addr × HO) → Prop
  | _, .un, o => o = none
  | s, .pu d, o => o = none ∧ ∃ v, s = some v ∧ Rp K F m d v
  | s, .ol ds, o => ∃ p vs, s = some (.ref p) ∧ o = some (p, .lst vs) ∧ Rps K F m ds vs
  | s, .od ks ds, o => ∃ p vs, s = some (.ref p) ∧ o = some (p, .dK (ks.zip vs)) ∧ ks.length = vs.length ∧ Rps K F m ds vs
  | s, .oo c ns ds, o => ∃ p dx vs, s = some (.ref p) ∧ o = some (p, .ins (ga K c) dx (ns.zip vs)) ∧ ns.length = vs.length ∧ Rps K F m ds vs
structure Rel (K : PySem.W.Frag) (F : Hp) (m : List Addr) (σ : L2.St) (ε : Ev) (O : List (Option (Addr × HO))) : Prop where
  l1 : σ.length = ε.length
  l2 : O.length = ε.length
  at_ : ∀ (i : Nat) s e o, σ[i]? = some s → ε[i]? = some e → O[i]? = some o → SR K F m s e o
theorem SR.mono (e : Ex F F') (hm : ∃ n, m' = m ++ n) {s : Option V} {x : Slt} {o : Option (Addr × HO)} (h : SR K F m s x o) : SR K F' m' s x o := by
  cases x with
  | un => exact h
  | pu d => exact ⟨h.1, let ⟨v, h1, h2⟩ := h.2; ⟨v, h1, Rp.mono e hm d h2⟩⟩
  | ol ds => exact let ⟨p, vs, h1, h2, h3⟩ := h; ⟨p, vs, h1, h2, Rps.mono e hm ds h3⟩
  | od ks ds => exact let ⟨p, vs, h1, h2, h3, h4⟩ := h; ⟨p, vs, h1, h2, h3, Rps.mono e hm ds h4⟩
  | oo c ns ds => exact let ⟨p, dx, vs, h1, h2, h3, h4⟩ := h; ⟨p, dx, vs, h1, h2, h3, Rps.mono e hm ds h4⟩
theorem Rel.mono {σ : L2.St} {ε : Ev} {O : List (Option (Addr × HO))} (r : Rel K F m σ ε O) (e : Ex F F') (hm : ∃ n, m' = m ++ n) : Rel K F' m' σ ε O := ⟨r.l1, r.l2, fun i s x o h1 h2 h3 => (r.at_ i s x o h1 h2 h3).mono e hm⟩
theorem Le.mx {W W' : Wd} (l : Le W H W' H') : ∃ n, W'.m = W.m ++ n := let ⟨n, h, _⟩ := l.m; ⟨n, h⟩
theorem Rel.le {σ : L2.St} {ε : Ev} {W W' : Wd} (r : Rel K W.F W.m σ ε W.O) (l : Le W H W' H') : Rel K W'.F W'.m σ ε W'.O := by rw [l.O]; exact r.mono l.F l.mx
theorem Rel.pure {σ : L2.St} {ε : Ev} {O : List (Option (Addr × HO))} (r : Rel K F m σ ε O) {i : Nat} {d : D} (h : ε[i]? = some (.pu d)) : ∃ v, σ[i]? = some (some v) ∧ Rp K F m d v := by
  have hi := (List.getElem?_eq_some_iff.mp h).1
  have h1 : σ[i]? = some (σ[i]'(by rw [r.l1]; exact hi)) := List.getElem?_eq_getElem _
  have h2 : O[i]? = some (O[i]'(by rw [r.l2]; exact hi)) := List.getElem?_eq_getElem _
  obtain ⟨_, v, e, q⟩ := r.at_ i _ _ _ h1 h h2
  exact ⟨v, by rw [h1, e], q⟩
theorem Rel.set {σ : L2.St} {ε : Ev} {O : List (Option (Addr × HO))} (r : Rel K F m σ ε O) {i : Nat} {s : Option V} {x : Slt} {o : Option (Addr × HO)} (h : SR K F m s x o) : Rel K F m (σ.set i s) (ε.set i x) (O.set i o) := by
  refine ⟨by simp [r.l1], by simp [r.l2], fun j s' x' o' h1 h2 h3 => ?_⟩
  by_cases e : i = j
  · subst e
    have l : i < ε.length := by
      have := (List.getElem?_eq_some_iff.mp h2).1
      simpa using this
    rw [List.getElem?_set_self (by rw [r.l1]; exact l)] at h1
    rw [List.getElem?_set_self l] at h2
    rw [List.getElem?_set_self (by rw [r.l2]; exact l)] at h3
    cases h1
    cases h2
    cases h3
    exact h
  · rw [List.getElem?_set_ne e] at h1 h2 h3
    exact r.at_ j s' x' o' h1 h2 h3
end Z
set_option Elab.async false
set_option linter.all false
set_option maxRecDepth 100000
set_option maxHeartbeats 4000000
namespace Z
open PySem PySem.Spec PyProof.Rows L2 G
variable {K : PySem.W.Frag} {F F' H H' : Hp} {m m' : List Addr}
/-! ### what is wanted behind a run -/
/-- an exception's fields lie in its own dict -/
def ExAt (K : PySem.W.Frag) (F : Hp) (m : List Addr) (H0 H : Hp) (ns : List Str) (ds : List D) (dx : Option Addr) : Prop := (ns = [] ∧ ds = [] ∧ dx = none) ∨ ∃ d vs, dx = some d ∧ H0 d = none ∧ H d = some (.xd (ns.zip vs)) ∧ ns.length = vs.length ∧ Rps K F m ds vs
theorem Le.fresh {W W1 : Wd} {H H1 : Hp} (l : Le W H W1 H1) {p : Addr} (hp : H1 p = none) : H p = none := by
  cases q : H p with
  | none => rfl
  | some u =>
    by_cases hm : p ∈ W.m
    · exact absurd hp (l.cel p hm)
    · rw [l.frm p u q hm] at hp; cases hp
theorem ExAt.back {H0 H1 : Hp} {ns : List Str} {ds : List D} {dx : Option Addr} (x : ExAt K F m H1 H ns ds dx) (b : ∀ d, H1 d = none → H0 d = none) : ExAt K F m H0 H ns ds dx := x.imp id fun ⟨d, vs, e1, e2, e3⟩ => ⟨d, vs, e1, b d e2, e3⟩
abbrev WX := Value → Option Addr → L2.St → Hp → Prop
def Post {α : Type} (K : PySem.W.Frag) (T : WX) (W : Wd) (H : Hp) (σ : L2.St) (r : R α) (Q : α → Store → Wd → Hp → Prop) : Prop := match r with
  | .ok a h' => ∀ W' H', Le W H W' H' → WOk K W' h' H' → Q a h' W' H'
  | .ex c ns ds h' => ∀ dx W' H', Le W H W' H' → WOk K W' h' H' → ExAt K W'.F W'.m H H' ns ds dx → T (.ref (ga K c)) dx σ H'
  | .no => False
section
variable {α β : Type} {T : WX} {W W1 : Wd} {H1 : Hp} {σ : L2.St} {h h1 : Store}
theorem Post.mono {r : R α} {Q Q' : α → Store → Wd → Hp → Prop} (p : Post K T W H σ r Q) (l : Le W H W1 H1) (q : ∀ a h' W' H', Le W1 H1 W' H' → WOk K W' h' H' → Q a h' W' H' → Q' a h' W' H') : Post K T W1 H1 σ r Q' := by
  cases r with
  | ok a h' => exact fun W' H' l' o => q _ _ _ _ l' o (p W' H' (l.tr l') o)
  | ex c ns ds h' => exact fun dx W' H' l' o e => p dx W' H' (l.tr l') o (e.back fun _ => l.fresh)
  | no => exact p
theorem Post.bnd {r : R α} {f : α → Store → R β} {Q : β → Store → Wd → Hp → Prop} (p : Post K T W H σ (R.bnd r f) Q) : Post K T W H σ r (fun a h' W' H' => Post K T W' H' σ (f a h') Q) := by
  cases r with
  | ok a h' => exact fun W' H' l o => Post.mono p l fun _ _ _ _ _ _ q => q
  | ex c ns ds h' => exact p
  | no => exact p
theorem Post.ok {a : α} {Q : α → Store → Wd → Hp → Prop} (p : Post K T W H σ (.ok a h) Q) (o : WOk K W h H) (hc : ∀ a ∈ W.m, H a ≠ none) : Q a h W H := p W H (Le.rfl' hc) o
end
section
variable (T : WX) (X : Cx)
/-- the expression's value is what c says -/
def SE (e : Expr) (c : EM) : Prop := ∀ ε σ W h H Q, Rel X.K W.F W.m σ ε W.O → WOk X.K W h H → Post X.K T W H σ (c ε h) (fun d _ W' H' => ∀ v, Rp X.K W'.F W'.m d v → Q v H') → Go X e σ H Q
/-- .. or a list or dict that a name owns -/
def Rb (W : Wd) (H : Hp) (d : D) (v : V) : Prop := Rp X.K W.F W.m d v ∨ ∃ (i : Nat) (p : Addr), v = .ref p ∧ ((∃ ds vs, d = .lst ds ∧ W.O[i]? = some (some (p, .lst vs)) ∧ Rps X.K W.F W.m ds vs) ∨ (∃ ks ds vs, d = .dic ks ds ∧ W.O[i]? = some (some (p, .dK (ks.zip vs))) ∧ ks.length = vs.length ∧ Rps X.K W.F W.m ds vs))
def SL (e : Expr) (c : EM) : Prop := ∀ ε σ W h H Q, Rel X.K W.F W.m σ ε W.O → WOk X.K W h H → Post X.K T W H σ (c ε h) (fun d _ W' H' => ∀ v, Rb X W' H' d v → Q v H') → Go X e σ H Q
def ST (e : Expr) (c : Ev → M Bool) : Prop := ∀ ε σ W h H Q, Rel X.K W.F W.m σ ε W.O → WOk X.K W h H → Post X.K T W H σ (c ε h) (fun b _ _ H' => Q b H') → Gt X e σ H Q
def SW (e : Expr) (c : Ev → M Bool) : Prop := ∀ ε σ W h H Q, Rel X.K W.F W.m σ ε W.O → WOk X.K W h H → Post X.K T W H σ (c ε h) (fun b _ _ H' => Q b H') → Gw X e σ H Q
def SA (es : List Expr) (c : Ev → M (List D)) : Prop := ∀ ε σ W h H Q, Rel X.K W.F W.m σ ε W.O → WOk X.K W h H → Post X.K T W H σ (c ε h) (fun ds _ W' H' => ∀ vs, Rps X.K W'.F W'.m ds vs → Q vs H') → Ga X es σ H Q
end
def mApp2 (f : D → D → M D) (a b : EM) : EM := fun ε h => (a ε h).bnd fun x h1 => (b ε h1).bnd fun y h2 => f x y h2
def mApp1 (f : D → M D) (a : EM) : EM := fun ε h => (a ε h).bnd fun x h1 => f x h1
def mVar (i : Nat) : EM := fun ε h => match ε[i]? with
  | some (.pu d) => .ok d h
  | _ => .no
def mOwn (i : Nat) : EM := fun ε h => match ε[i]? with
  | some (.pu d) => .ok d h
  | some (.ol ds) => .ok (.lst ds) h
  | some (.od ks ds) => .ok (.dic ks ds) h
  | _ => .no
def mLit (d : D) : EM := fun _ h => .ok d h
def mNilA : Ev → M (List D) := fun _ h => .ok [] h
def mConsA (a : EM) (r : Ev → M (List D)) : Ev → M (List D) := fun ε h => (a ε h).bnd fun x h1 => (r ε h1).bnd fun xs h2 => .ok (x :: xs) h2
def mTup (a : Ev → M (List D)) : EM := fun ε h => (a ε h).bnd fun xs h1 => if xs.length ≤ 1000 then .ok (.tup xs) h1 else .no
def mLst (a : Ev → M (List D)) : Ev → M (List D) := fun ε h => (a ε h).bnd fun xs h1 => if xs.length ≤ 1000 then .ok xs h1 else .no
def mIf (t : Ev → M Bool) (a b : EM) : EM := fun ε h => (t ε h).bnd fun k h1 => if k = true then a ε h1 else b ε h1
/-- the world with one more frozen object -/
theorem lay {W : Wd} {H H2 : Hp} {h : Store} {p : Addr} {o : HO} (ok : WOk K W h H) (hp : H p = none) (ex : Ex H H2) (h2 : H2 p = some o) : Le W H ⟨upd W.F p o, W.m, W.O⟩ H2 ∧ WOk K ⟨upd W.F p o, W.m, W.O⟩ h H2 := by
  have pm : p ∉ W.m := fun q => ok.mN p q hp
  have fp : W.F p = none := by
    cases q : W.F p with
    | none => rfl
    | some u => rw [ok.sub _ _ q] at hp; cases hp
  have exF : Ex W.F (upd W.F p o) := Ex.new fp
  refine ⟨⟨exF, fun a u e _ => ex a u e, fun a u e => ?_, ⟨[], by simp, fun _ q => by cases q⟩, rfl, fun a ha => ?_⟩, ⟨fun a u e => ?_, ok.len, fun i a c e1 e2 => ?_, fun a ha => ?_, fun a ha => ?_, ok.nd, fun i q u e => ?_, ok.ond⟩⟩
  · by_cases z : a = p
    · subst z; exact .inr hp
    · replace e : upd W.F p o a = some u := e; rw [upd_ne z] at e; exact .inl e
  · cases q : H a with
    | none => exact absurd q (ok.mN a ha)
    | some u => rw [ex a u q]; simp
  · by_cases z : a = p
    · subst z
      replace e : upd W.F a o a = some u := e
      rw [upd_same] at e
      cases e
      exact h2
    · replace e : upd W.F p o a = some u := e; rw [upd_ne z] at e; exact ex _ _ (ok.sub _ _ e)
  · have q := ok.cel i a c e1 e2
    cases c with
    | lst ds => exact let ⟨vs, g1, g2⟩ := q; ⟨vs, ex _ _ g1, Rps.mono exF ⟨[], by simp⟩ ds g2⟩
    | obj c ns ds => exact let ⟨dx, vs, g1, g2, g3⟩ := q; ⟨dx, vs, ex _ _ g1, g2, Rps.mono exF ⟨[], by simp⟩ ds g3⟩
    | dic ks ds => exact let ⟨vs, g1, g2, g3⟩ := q; ⟨vs, ex _ _ g1, g2, Rps.mono exF ⟨[], by simp⟩ ds g3⟩
    | tab x q2 => exact ⟨q.1, q.2.mono exF fun o z => ex _ o z⟩
  · show (upd W.F p o) a = none
    rw [upd_ne (show a ≠ p by rintro rfl; exact pm ha)]; exact ok.mF a ha
  · cases q : H a with
    | none => exact absurd q (ok.mN a ha)
    | some u => rw [ex a u q]; simp
  · obtain ⟨g1, g2, g3⟩ := ok.own i q u e
    exact ⟨ex _ _ g1, by show (upd W.F p o) q = none; rw [upd_ne (ne_of_none g1 hp)]; exact g2, g3⟩
section
variable {T : WX} {X : Cx} {e a b : Expr} {es : List Expr} {c ca cb : EM} {cs : Ev → M (List D)} {pos : Pos}
theorem SE.sl (s : SE T X e c) : SL T X e c := fun ε σ W h H Q r o p => s ε σ W h H Q r o (Post.mono p (Le.rfl' o.mN) fun _ _ _ _ _ _ q v hv => q v (.inl hv))
theorem se_lit {i j} : SE T X (.Constant (.int i) j pos) (mLit (.int i)) := fun ε σ W h H Q r o p => e_int (p.ok o o.mN _ (by unfold Rp; rfl))
theorem se_bl {i j} : SE T X (.Constant (.bool i) j pos) (mLit (.bl i)) := fun ε σ W h H Q r o p => e_bl (p.ok o o.mN _ (by unfold Rp; rfl))
theorem se_str {i j} : SE T X (.Constant (.str i) j pos) (mLit (.str i)) := fun ε σ W h H Q r o p => e_str (p.ok o o.mN _ (by unfold Rp; rfl))
theorem se_non {j} : SE T X (.Constant .none j pos) (mLit .non) := fun ε σ W h H Q r o p => e_non (p.ok o o.mN _ (by unfold Rp; rfl))
theorem se_var {i : Nat} {x : Str} (l : Sl X i x) : SE T X (.Name x pos) (mVar i) := by
  intro ε σ W h H Q r o p
  unfold mVar at p
  cases q : ε[i]? with
  | none => rw [q] at p; exact p.elim
  | some s =>
    rw [q] at p
    cases s with
    | pu d =>
      obtain ⟨v, e1, e2⟩ := r.pure q
      exact e_name l e1 (p.ok o o.mN v e2)
    | un => exact p.elim
    | ol ds => exact p.elim
    | od ks ds => exact p.elim
    | oo c ns ds => exact p.elim
theorem sl_own {i : Nat} {x : Str} (l : Sl X i x) : SL T X (.Name x pos) (mOwn i) := by
  intro ε σ W h H Q r o p
  unfold mOwn at p
  cases q : ε[i]? with
  | none => rw [q] at p; exact p.elim
  | some s =>
    rw [q] at p
    have hi := (List.getElem?_eq_some_iff.mp q).1
    have h1 : σ[i]? = some (σ[i]'(by rw [r.l1]; exact hi)) := List.getElem?_eq_getElem _
    have h2 : W.O[i]? = some (W.O[i]'(by rw [r.l2]; exact hi)) := List.getElem?_eq_getElem _
    have k := r.at_ i _ _ _ h1 q h2
    cases s with
    | pu d =>
      obtain ⟨v, e1, e2⟩ := r.pure q
      exact e_name l e1 (p.ok o o.mN v (.inl e2))
    | un => exact p.elim
    | ol ds =>
      obtain ⟨p', vs, e1, e2, e3⟩ := k
      exact e_name l (h1.trans (by rw [e1])) (p.ok o o.mN _ (.inr ⟨i, p', rfl, .inl ⟨ds, vs, rfl, by rw [h2, e2], e3⟩⟩))
    | od ks ds =>
      obtain ⟨p', vs, e1, e2, e3, e4⟩ := k
      exact e_name l (h1.trans (by rw [e1])) (p.ok o o.mN _ (.inr ⟨i, p', rfl, .inr ⟨ks, ds, vs, rfl, by rw [h2, e2], e3, e4⟩⟩))
    | oo c ns ds => exact p.elim
theorem sa_nil : SA T X [] mNilA := fun ε σ W h H Q r o p => a_nil (p.ok o o.mN _ Rps.nil)
theorem sa_cons (ha : SE T X e c) (hr : SA T X es cs) (hs : starEach (e :: es) X.env = (false, eval e X.env) :: starEach es X.env) : SA T X (e :: es) (mConsA c cs) := by
  intro ε σ W h H Q r o p
  refine a_cons hs (ha ε σ W h H _ r o (Post.mono (Post.bnd p) (Le.rfl' o.mN) fun d h1 W1 H1 l1 o1 p1 v hv => ?_))
  refine hr ε σ W1 h1 H1 _ (r.le l1) o1 (Post.mono (Post.bnd p1) (Le.rfl' o1.mN) fun ds h2 W2 H2 l2 o2 p2 vs hvs => ?_)
  exact p2.ok o2 o2.mN _ (Rps.cons (Rp.mono l2.F l2.mx d hv) hvs)
theorem se_tup {k} (ha : SA T X es cs) : SE T X (.Tuple es k pos) (mTup cs) := by
  intro ε σ W h H Q r o p
  refine e_tup (ha ε σ W h H _ r o (Post.mono (Post.bnd p) (Le.rfl' o.mN) fun ds h1 W1 H1 l1 o1 p1 vs hvs => ?_))
  by_cases hl : ds.length ≤ 1000
  · rw [if_pos hl] at p1
    refine ⟨by rw [← hvs.len]; exact hl, fun q H2 hq ex h2 => ?_⟩
    obtain ⟨l2, o2⟩ := lay o1 hq ex h2
    exact p1 _ _ l2 o2 _ (by unfold Rp; exact ⟨q, vs, rfl, SqT.of upd_same, Rps.mono l2.F l2.mx _ hvs⟩)
  · rw [if_neg hl] at p1
    exact p1.elim
/-- the heap has grown by what the world does not speak of -/
theorem grow {W : Wd} {H H2 : Hp} {h : Store} (ok : WOk K W h H) (ex : Ex H H2) : Le W H W H2 ∧ WOk K W h H2 := by
  have hm : ∀ a ∈ W.m, H2 a ≠ none := fun a ha => by
    cases q : H a with
    | none => exact absurd q (ok.mN a ha)
    | some u => rw [ex a u q]; simp
  refine ⟨⟨Ex.rfl', fun a u e _ => ex a u e, fun _ _ e => .inl e, ⟨[], by simp, fun _ q => by cases q⟩, rfl, hm⟩, ⟨fun a u e => ex _ _ (ok.sub _ _ e), ok.len, fun i a c e1 e2 => ?_, ok.mF, hm, ok.nd, fun i q u e => ?_, ok.ond⟩⟩
  · have q := ok.cel i a c e1 e2
    cases c with
    | lst ds => exact let ⟨vs, g1, g2⟩ := q; ⟨vs, ex _ _ g1, g2⟩
    | obj c ns ds => exact let ⟨dx, vs, g1, g2, g3⟩ := q; ⟨dx, vs, ex _ _ g1, g2, g3⟩
    | dic ks ds => exact let ⟨vs, g1, g2, g3⟩ := q; ⟨vs, ex _ _ g1, g2, g3⟩
    | tab x q2 => exact ⟨q.1, q.2.mono Ex.rfl' fun o z => ex _ o z⟩
  · obtain ⟨g1, g2, g3⟩ := ok.own i q u e
    exact ⟨ex _ _ g1, g2, g3⟩
theorem WOk.freshF {W : Wd} {H : Hp} {h : Store} (ok : WOk K W h H) {p : Addr} (hp : H p = none) : W.F p = none ∧ p ∉ W.m := by
  refine ⟨?_, fun q => ok.mN p q hp⟩
  cases q : W.F p with
  | none => rfl
  | some u => rw [ok.sub _ _ q] at hp; cases hp
/-- a fresh list -/
def SF (T : WX) (X : Cx) (e : Expr) (c : Ev → M (List D)) : Prop := ∀ ε σ W h H Q, Rel X.K W.F W.m σ ε W.O → WOk X.K W h H →
  Post X.K T W H σ (c ε h) (fun ds _ W' H' => ∀ p vs, H p = none → H' p = some (.lst vs) → W'.F p = none → p ∉ W'.m → Rps X.K W'.F W'.m ds vs → Q (.ref p) H') → Go X e σ H Q
/-- .. taken as it is -/
def mFz (c : Ev → M (List D)) : EM := fun ε h => (c ε h).bnd fun ds h1 => .ok (.lst ds) h1
/-- an object that no one else knows is frozen -/
theorem freeze {W : Wd} {H : Hp} {h : Store} {p : Addr} {o : HO} (ok : WOk K W h H) (hp : H p = some o) (hF : W.F p = none) (hm : p ∉ W.m) (ho : ∀ (i : Nat) u, W.O[i]? ≠ some (some (p, u))) : WOk K ⟨upd W.F p o, W.m, W.O⟩ h H ∧ Ex W.F (upd W.F p o) := by
  have exF : Ex W.F (upd W.F p o) := Ex.new hF
  refine ⟨⟨fun a u e => ?_, ok.len, fun i a c e1 e2 => ?_, fun a ha => ?_, ok.mN, ok.nd, fun i q u e => ?_, ok.ond⟩, exF⟩
  · by_cases z : a = p
    · subst z
      replace e : upd W.F a o a = some u := e
      rw [upd_same] at e
      cases e
      exact hp
    · replace e : upd W.F p o a = some u := e; rw [upd_ne z] at e; exact ok.sub _ _ e
  · have q := ok.cel i a c e1 e2
    cases c with
    | lst ds => exact let ⟨vs, g1, g2⟩ := q; ⟨vs, g1, Rps.mono exF ⟨[], by simp⟩ ds g2⟩
    | obj c ns ds => exact let ⟨dx, vs, g1, g2, g3⟩ := q; ⟨dx, vs, g1, g2, Rps.mono exF ⟨[], by simp⟩ ds g3⟩
    | dic ks ds => exact let ⟨vs, g1, g2, g3⟩ := q; ⟨vs, g1, g2, Rps.mono exF ⟨[], by simp⟩ ds g3⟩
    | tab x q2 => exact ⟨q.1, q.2.mono exF fun _ z => z⟩
  · show (upd W.F p o) a = none
    rw [upd_ne (show a ≠ p by rintro rfl; exact hm ha)]; exact ok.mF a ha
  · obtain ⟨g1, g2, g3⟩ := ok.own i q u e
    exact ⟨g1, by show (upd W.F p o) q = none; rw [upd_ne (show q ≠ p by rintro rfl; exact ho i u e)]; exact g2, g3⟩
theorem SF.se (s : SF T X e cs) : SE T X e (mFz cs) := by
  intro ε σ W h H Q r o p
  refine s ε σ W h H Q r o ?_
  unfold mFz at p
  cases q : cs ε h with
  | no => rw [q] at p; exact p
  | ex c ns ds h' => rw [q] at p; exact p
  | ok ds h' =>
    rw [q] at p
    intro W' H' l' o' a vs ha hp hF hm hr
    have no : ∀ (i : Nat) u, W'.O[i]? ≠ some (some (a, u)) := fun i u e => by
      rw [l'.O] at e
      have := (o.own i a u e).1
      rw [ha] at this; cases this
    obtain ⟨o2, ex⟩ := freeze o' hp hF hm no
    refine p ⟨upd W'.F a (.lst vs), W'.m, W'.O⟩ H' ⟨l'.F.tr ex, l'.frm, fun b u e => ?_, l'.m, l'.O, l'.cel⟩ o2 _ ?_
    · by_cases z : b = a
      · subst z; exact .inr ha
      · replace e : upd W'.F a (.lst vs) b = some u := e; rw [upd_ne z] at e; exact l'.new _ _ e
    · unfold Rp
      exact ⟨a, vs, rfl, upd_same, Rps.mono ex ⟨[], by simp⟩ ds hr⟩
theorem sf_lst (ha : SA T X es cs) : SF T X (.List es pos) (mLst cs) := by
  intro ε σ W h H Q r o p
  refine e_lst (ha ε σ W h H _ r o (Post.mono (Post.bnd p) (Le.rfl' o.mN) fun ds h1 W1 H1 l1 o1 p1 vs hvs => ?_))
  by_cases hl : ds.length ≤ 1000
  · rw [if_pos hl] at p1
    refine ⟨by rw [← hvs.len]; exact hl, fun q H2 hq ex h2 => ?_⟩
    obtain ⟨l2, o2⟩ := grow o1 ex
    obtain ⟨f1, f2⟩ := o1.freshF hq
    exact p1 W1 H2 l2 o2 q vs (l1.fresh hq) h2 f1 f2 hvs
  · rw [if_neg hl] at p1
    exact p1.elim
end
/-! ### where defs are called -/
/-- room, and no repr under way; q: an exception may be handled there -/
structure RoomG (q : Bool) (k : Nat) (A : Around) : Prop where
  dp : A.depth + 3 * k + 5 < recursionLimit
  un : A.units + 16 * k + 200 < cLine
  gd : A.guards = some []
  hd : q = false → A.handled = none
theorem RoomG.r {k : Nat} {A : Around} (g : RoomG false k A) : Room k A := ⟨g.hd rfl, g.dp, g.un⟩
section
variable {q q' : Bool} {j k : Nat} {A : Around}
theorem RoomG.as (g : RoomG q k A) (h : q' = false → q = false) : RoomG q' k A := ⟨g.dp, g.un, g.gd, fun e => g.hd (h e)⟩
theorem RoomG.mono (g : RoomG q k A) (h : j ≤ k) : RoomG q j A := ⟨by have := g.dp; omega, by have := g.un; omega, g.gd, g.hd⟩
theorem RoomG.deeper (g : RoomG q (k + 1) A) (env : Env) : RoomG q k (A.deeper env) := ⟨by have := g.dp; show A.depth + 1 + 3 * k + 5 < _; omega, by have := g.un; show A.units + 3 + 16 * k + 200 < _; omega, g.gd, g.hd⟩
theorem RoomG.in1 (g : RoomG q (k + 1) A) : RoomG q k A.in1 := ⟨by have := g.dp; show A.depth + 3 * k + 5 < _; omega, by have := g.un; show A.units + 1 + 16 * k + 200 < _; omega, g.gd, g.hd⟩
theorem guards_make {C : Addr} {us : List Value} {kw : List (Str × Value)} (h : A.guards = some []) : (A.under (.builtin "type.__call__" ⟨.ref C :: us, kw⟩)).guards = some [] := by
  first | exact h | simp [Around.under, Code.guards, Code.isGuard, pushGuards, guardIds, h]
theorem handled_make {C : Addr} {us : List Value} {kw : List (Str × Value)} : (A.under (.builtin "type.__call__" ⟨.ref C :: us, kw⟩)).handled = A.handled := by
  first | rfl | simp [Around.under]
theorem RoomG.make (g : RoomG q (k + 1) A) (C : Addr) (us : List Value) (kw : List (Str × Value)) : RoomG q k (A.under (.builtin "type.__call__" ⟨.ref C :: us, kw⟩)) := by
  have h0 : Room (k + 1) { A with handled := none } := ⟨rfl, g.dp, g.un⟩
  have h1 := h0.make C us kw
  exact ⟨h1.dp, h1.un, guards_make g.gd, fun e => handled_make.trans (g.hd e)⟩
theorem RoomG.depth (g : RoomG q k A) : A.depth < recursionLimit := by have := g.dp; omega
theorem RoomG.units0 (g : RoomG q k A) : A.units < cLine := by have := g.un; omega
theorem RoomG.units64 (g : RoomG q k A) : A.units + 64 < cLine := by have := g.un; omega
end
/-- what a def promises -/
structure FnT (q : Bool) (P : Program) (w : World) (K : PySem.W.Frag) (mg : Str → Option Value) (base : Heap) (CX : CXT) (k : Nat) (f : Addr) (fd : FuncData) (ps : List Str) (sp : Sp) : Prop where
  len : ∀ vs H Q E, sp vs H Q E → vs.length = ps.length
  run : ∀ (A : Around) (outer : List Env) (s : Shared) (H : Hp) (args : Args) (us : List Value) (vs : List V) (Q : VK) (E : XK), RoomG q k A → Env0 P w K mg base A outer s H → BindsTo s fd args (ps.zip us) → Vals vs us → sp vs H Q E → codeAny (model P w) A (.call (.ref f) args) (CR CX outer P w H s Q E) s
section
variable {P : Program} {w : World} {K : PySem.W.Frag} {mg : Str → Option Value} {base : Heap} {CX : CXT} {j k : Nat} {f : Addr} {fd : FuncData} {ps N : List Str} {sp : Sp} {q : Bool}
theorem FnT.mono (F : FnT q P w K mg base CX j f fd ps sp) (h : j ≤ k) : FnT q P w K mg base CX k f fd ps sp := ⟨F.len, fun A outer s H args us vs Q E hr => F.run A outer s H args us vs Q E (hr.mono h)⟩
theorem FnT.g (F : FnT q P w K mg base CX k f fd ps sp) : FnG P w K mg base CX k f fd ps sp := ⟨F.len, fun A outer s H args us vs Q E hg hr => F.run A outer s H args us vs Q E ⟨hr.dp, hr.un, hg, fun _ => hr.hd⟩⟩
/-- the context of such a def's body -/
def cxT (q : Bool) (CX : CXT) (P : Program) (w : World) (K : PySem.W.Frag) (mg : Str → Option Value) (base : Heap) (N : List Str) (qual : Str) (scope : Scope) (f : Addr) (cd : Value) (A : Around) (outer : List Env) (s : Shared) (H : Hp) (E : XK) : Cx := { cxOf CX P w K mg base N qual scope f cd A outer s H E with calm := !q }
theorem inv_q {qual : Str} {scope : Scope} {cd : Value} {A A0 : Around} {outer : List Env} {s s1 : Shared} {H : Hp} {E : XK} {σ : L2.St} (I : Inv (cxOf CX P w K mg base N qual scope f cd A0 outer s H E) [] σ H s1) (fr : A.frames = some outer) (hd : q = false → A.handled = none) : Inv (cxT q CX P w K mg base N qual scope f cd A outer s H E) [] σ H s1 :=
  ⟨⟨I.ok.mod, I.ok.kind, I.ok.glob, I.ok.blt, I.ok.above, I.ok.inj, I.ok.has, I.ok.cab, fun z => hd (by cases q <;> first | rfl | cases z), Around.frames_deeper fr, I.ok.stk, I.ok.exf, I.ok.bs, I.ok.bsz, I.ok.noex, I.ok.exfs, I.ok.funs, I.ok.frf⟩, I.os, I.bare, I.base, I.loc, I.cell, I.free, I.freeC, I.pin, I.hok, I.len⟩
theorem okT {x qual : Str} {params : Arguments} {body : List Stmt} {scope : Scope} {dvs : List V} {kws : List (Str × V)} (F : FunD K x qual params body scope dvs kws f fd) (S : FnScope N ps scope) (len : ∀ vs H Q E, sp vs H Q E → vs.length = ps.length)
    (hbody : ∀ (cdv : Value) (A : Around) (outer : List Env) (s : Shared) (H : Hp) (vs : List V) (Q : VK) (E : XK), RoomG q k (A.deeper (envOfC qual scope s.heap.objs.size f cdv)) → sp vs H Q E →
      ∃ t, PSs (cxT q CX P w K mg base N qual scope f cdv A outer s H E) body t ∧ t { nx := fun _ H' => Q .non H', rt := Q } (L2.start N vs) H) : FnT q P w K mg base CX (k + 1) f fd ps sp := by
  obtain ⟨oc, od, dV, kV, doc, pm, an, cdv, ct, osl, rfl, lk, hcd, _, _⟩ := F.ex
  refine ⟨len, fun A outer s H ag us vs Q E room en bnd rv hp => ?_⟩
  have kin : K.In s.heap := en.mod.kin.keeps fun b o z => (en.bs b o z).1
  have nolim : s.heap.NoLimit := en.mod.nolimit.keeps fun b o z => (en.bs b o z).1
  have kinds : ∀ y ∈ ps.zip us, scope.names.lookup y.1 = some .local ∨ (scope.names.lookup y.1 = some .cell ∧ ((cellsFrom (s.heap.objs.size + 1) scope.names []).lookup y.1).isSome = true) := by
    rintro ⟨y1, y2⟩ hy
    exact (S.par y1 (List.of_mem_zip hy).1).imp id fun c => ⟨c, PySem.W.cellsFrom_some _ _ _ (.inl c)⟩
  refine codeAny_call_function room.depth (kin _ _ lk) rfl S.co S.gen rfl (PySem.W.codeRec_of kin hcd) (bnd _ _ _ _ ?_)
  refine wpAny_newFunctionEnv_cells S.kind kinds fun ev hev s1 x => ?_
  subst hev
  refine ⟨nolim.keeps x.toInCall.keep, codeAny_func ?_⟩
  obtain ⟨t, pt, qq⟩ := hbody cdv A outer s H vs Q E (room.deeper _) hp
  have I0 : Inv (cxOf CX P w K mg base N qual scope f cdv { A with handled := none } outer s H E) [] (L2.start N vs) H s1 := inv_start S rfl ⟨en.frames, en.mod, en.bs, en.bsz, en.funs, en.frf, en.hok, en.bare⟩ (len _ _ _ _ hp) rv x
  have I := inv_q (q := q) (A := A) I0 en.frames room.hd
  refine thn (pt.run [] s1 (L2.start N vs) H _ I qq) fun fl s' z => ?_
  cases fl with
  | ret u =>
    obtain ⟨v, σ', h', J, r, q1⟩ := z
    exact ⟨v, h', J.os, J.bare, J.base, J.hok, r, q1⟩
  | next =>
    obtain ⟨σ', h', J, q1⟩ := z
    exact ⟨.non, h', J.os, J.bare, J.base, J.hok, rfl, q1⟩
  | brk => obtain ⟨_, _, _, q1⟩ := z; exact q1.elim
  | cont => obtain ⟨_, _, _, q1⟩ := z; exact q1.elim
end
theorem any_of {α : Type} {o : Option α} {p : α → Bool} (h : o.any p = true) : ∃ a, o = some a ∧ p a = true := by
  cases o with
  | none => cases h
  | some a => exact ⟨a, rfl, h⟩
end Z
set_option Elab.async false
set_option linter.all false
set_option maxRecDepth 100000
set_option maxHeartbeats 4000000
namespace Z
open PySem PySem.Spec PyProof.Rows L2 G
variable {K : PySem.W.Frag} {F F' H H' : Hp} {m m' : List Addr}
/-! ### statements -/
/-- the world at a statement's end: names may own other things -/
structure Lg (W : Wd) (H : Hp) (W' : Wd) (H' : Hp) : Prop where
  F : Ex W.F W'.F
  frm : ∀ a o, H a = some o → a ∉ W.m → (∀ (i : Nat) u, W.O[i]? ≠ some (some (a, u))) → H' a = some o
  new : ∀ a o, W'.F a = some o → W.F a = some o ∨ H a = none ∨ ∃ (i : Nat) (u : HO), W.O[i]? = some (some (a, u))
  m : ∃ n, W'.m = W.m ++ n ∧ ∀ a ∈ n, H a = none
  own : ∀ (j : Nat) a u, W'.O[j]? = some (some (a, u)) → H a = none ∨ ∃ (i : Nat) (u : HO), W.O[i]? = some (some (a, u))
  cel : ∀ a ∈ W.m, H' a ≠ none
  kep : ∀ (i : Nat) a u, W.O[i]? = some (some (a, u)) → H' a ≠ none
  ins : ∀ (j : Nat) a C dx gs, W'.O[j]? = some (some (a, .ins C dx gs)) → ∃ gs', W.O[j]? = some (some (a, .ins C dx gs'))
theorem Le.lg {W W' : Wd} (l : Le W H W' H') {h : Store} (ok : WOk K W h H) : Lg W H W' H' := by
  refine ⟨l.F, fun a o h1 h2 _ => l.frm a o h1 h2, fun a o e => (l.new a o e).imp id .inl, l.m, fun j a u e => .inr ⟨j, u, by rw [← l.O]; exact e⟩, l.cel, fun i a u e => ?_, fun j a C dx gs e => ⟨gs, by rw [← l.O]; exact e⟩⟩
  obtain ⟨g1, _, g3⟩ := ok.own i a u e
  rw [l.frm _ _ g1 g3]
  simp
theorem Lg.tr {W W1 W2 : Wd} {H H1 H2 : Hp} (a : Lg W H W1 H1) (b : Lg W1 H1 W2 H2) : Lg W H W2 H2 := by
  obtain ⟨n, en, hn⟩ := a.m
  obtain ⟨k, ek, hk⟩ := b.m
  have mm : ∀ c ∈ W.m, c ∈ W1.m := fun c h => by rw [en]; exact List.mem_append_left _ h
  have back : ∀ c, H1 c = none → H c = none ∨ ∃ (i : Nat) (u : HO), W.O[i]? = some (some (c, u)) := fun c h => by
    cases q : H c with
    | none => exact .inl rfl
    | some u =>
      by_cases hm : c ∈ W.m
      · exact absurd h (a.cel c hm)
      · by_cases ho : ∃ (i : Nat) (u : HO), W.O[i]? = some (some (c, u))
        · exact .inr ho
        · rw [a.frm c u q hm fun i u e => ho ⟨i, u, e⟩] at h; cases h
  refine ⟨a.F.tr b.F, fun c o h hc ho => ?_, fun c o h => ?_, ⟨n ++ k, by rw [ek, en, List.append_assoc], fun c hc => ?_⟩, fun j c u e => ?_, fun c hc => b.cel c (mm c hc), fun i c u e => ?_, fun j c C dx gs e => let ⟨g1, e1⟩ := b.ins j c C dx gs e; a.ins j c C dx g1 e1⟩
  · refine b.frm c o (a.frm c o h hc ho) (fun hm => ?_) fun i u e => ?_
    · rw [en] at hm
      rcases List.mem_append.mp hm with hm | hm
      · exact hc hm
      · rw [hn c hm] at h; cases h
    · rcases a.own i c u e with z | ⟨j, u', z⟩
      · rw [h] at z; cases z
      · exact ho j u' z
  · rcases b.new c o h with h | h | ⟨i, u, h⟩
    · exact a.new c o h
    · exact .inr (back c h)
    · exact .inr (a.own i c u h)
  · rcases List.mem_append.mp hc with hc | hc
    · exact hn c hc
    · have z := hk c hc
      rcases back c z with z | ⟨i, u, z'⟩
      · exact z
      · exact absurd z (a.kep i c u z')
  · rcases b.own j c u e with z | ⟨i, u', z⟩
    · exact back c z
    · exact a.own i c u' z
  · have h1 := a.kep i c u e
    by_cases hm : c ∈ W1.m
    · exact b.cel c hm
    · by_cases ho : ∃ (i : Nat) (u : HO), W1.O[i]? = some (some (c, u))
      · obtain ⟨j, u', z⟩ := ho
        exact b.kep j c u' z
      · cases q : H1 c with
        | none => exact absurd q h1
        | some w => rw [b.frm c w q hm fun i u e => ho ⟨i, u, e⟩]; simp
/-- how a statement ends, with an exception too -/
inductive Fw where
  | nx (e : Ev) | rt (d : D) | bk (e : Ev) | ct (e : Ev) | rs (c : Str) (ns : List Str) (ds : List D) (e : Ev)
abbrev SC := Ev → M Fw
/-- an expression within a statement -/
def R.up {α : Type} (r : R α) (ε : Ev) (k : α → Store → R Fw) : R Fw := match r with
  | .ok a h => k a h
  | .ex c ns ds h => .ok (.rs c ns ds ε) h
  | .no => .no
theorem Lg.fresh {W W1 : Wd} {H1 : Hp} (l : Lg W H W1 H1) {p : Addr} (hp : H1 p = none) : H p = none := by
  cases q : H p with
  | none => rfl
  | some u =>
    by_cases hm : p ∈ W.m
    · exact absurd hp (l.cel p hm)
    · by_cases ho : ∃ (i : Nat) (u : HO), W.O[i]? = some (some (p, u))
      · obtain ⟨i, u, e⟩ := ho
        exact absurd hp (l.kep i p u e)
      · rw [l.frm p u q hm fun i u e => ho ⟨i, u, e⟩] at hp; cases hp
def PostS (K : PySem.W.Frag) (T : WX) (W : Wd) (H : Hp) (r : R Fw) (E : Ends) : Prop := match r with
  | .ok (.nx ε') h' => ∀ σ' W' H', Lg W H W' H' → WOk K W' h' H' → Rel K W'.F W'.m σ' ε' W'.O → E.nx σ' H'
  | .ok (.rt d) h' => ∀ v W' H', Lg W H W' H' → WOk K W' h' H' → Rp K W'.F W'.m d v → E.rt v H'
  | .ok (.bk ε') h' => ∀ σ' W' H', Lg W H W' H' → WOk K W' h' H' → Rel K W'.F W'.m σ' ε' W'.O → E.bk σ' H'
  | .ok (.ct ε') h' => ∀ σ' W' H', Lg W H W' H' → WOk K W' h' H' → Rel K W'.F W'.m σ' ε' W'.O → E.ct σ' H'
  | .ok (.rs c ns ds ε') h' => ∀ dx σ' W' H', Lg W H W' H' → WOk K W' h' H' → Rel K W'.F W'.m σ' ε' W'.O → ExAt K W'.F W'.m H H' ns ds dx → T (.ref (ga K c)) dx σ' H'
  | .ex _ _ _ _ => False
  | .no => False
section
variable {α : Type} {T : WX} {W W1 : Wd} {H1 : Hp} {σ : L2.St} {ε : Ev} {h h1 : Store} {E : Ends}
theorem PostS.lg {r : R Fw} (p : PostS K T W H r E) (l : Lg W H W1 H1) : PostS K T W1 H1 r E := by
  cases r with
  | ex c ns ds h' => exact p
  | no => exact p
  | ok f h' =>
    cases f with
    | nx ε' => exact fun σ' W' H' l' o r => p σ' W' H' (l.tr l') o r
    | rt d => exact fun v W' H' l' o r => p v W' H' (l.tr l') o r
    | bk ε' => exact fun σ' W' H' l' o r => p σ' W' H' (l.tr l') o r
    | ct ε' => exact fun σ' W' H' l' o r => p σ' W' H' (l.tr l') o r
    | rs c ns ds ε' => exact fun dx σ' W' H' l' o r e => p dx σ' W' H' (l.tr l') o r (e.back fun _ => l.fresh)
theorem PostS.up {r : R α} {k : α → Store → R Fw} (p : PostS K T W H (R.up r ε k) E) (ok : WOk K W h H) (rel : Rel K W.F W.m σ ε W.O) : Post K T W H σ r (fun a h' W' H' => PostS K T W' H' (k a h') E) := by
  cases r with
  | ok a h' => exact fun W' H' l o => PostS.lg p (l.lg ok)
  | ex c ns ds h' => exact fun dx W' H' l o e => p dx σ W' H' (l.lg ok) o (rel.le l) e
  | no => exact p
end
section
variable (T : WX) (X : Cx)
def SS (st : Stmt) (c : SC) : Prop := ∀ ε σ W h H E, Rel X.K W.F W.m σ ε W.O → WOk X.K W h H → PostS X.K T W H (c ε h) E → Gs X st E σ H
def SB (sts : List Stmt) (c : SC) : Prop := ∀ ε σ W h H E, Rel X.K W.F W.m σ ε W.O → WOk X.K W h H → PostS X.K T W H (c ε h) E → Gb X sts E σ H
end
theorem Lg.rfl' {W : Wd} {h : Store} (ok : WOk K W h H) : Lg W H W H := (Le.rfl' ok.mN).lg ok
/-- a name is stored: what it owned is let go -/
theorem WOk.drop {W : Wd} {h : Store} (ok : WOk K W h H) (i : Nat) : WOk K ⟨W.F, W.m, W.O.set i none⟩ h H := by
  refine ⟨ok.sub, ok.len, ok.cel, ok.mF, ok.mN, ok.nd, fun j p o e => ?_, fun j k p o p' o' ne e1 e2 => ?_⟩
  · by_cases z : i = j
    · subst z
      have l := (List.getElem?_eq_some_iff.mp e).1
      replace e : (W.O.set i none)[i]? = some (some (p, o)) := e
      rw [List.getElem?_set_self (by simpa using l)] at e
      cases e
    · replace e : (W.O.set i none)[j]? = some (some (p, o)) := e
      rw [List.getElem?_set_ne z] at e
      exact ok.own j p o e
  · replace e1 : (W.O.set i none)[j]? = some (some (p, o)) := e1
    replace e2 : (W.O.set i none)[k]? = some (some (p', o')) := e2
    by_cases z : i = j
    · subst z
      have l := (List.getElem?_eq_some_iff.mp e1).1
      rw [List.getElem?_set_self (by simpa using l)] at e1
      cases e1
    · by_cases z' : i = k
      · subst z'
        have l := (List.getElem?_eq_some_iff.mp e2).1
        rw [List.getElem?_set_self (by simpa using l)] at e2
        cases e2
      · rw [List.getElem?_set_ne z] at e1
        rw [List.getElem?_set_ne z'] at e2
        exact ok.ond j k p o p' o' ne e1 e2
theorem own_set {O : List (Option (Addr × HO))} {i j : Nat} {a : Addr} {u : HO} (e : (O.set i none)[j]? = some (some (a, u))) : O[j]? = some (some (a, u)) := by
  by_cases z : i = j
  · subst z
    have l := (List.getElem?_eq_some_iff.mp e).1
    rw [List.getElem?_set_self (by simpa using l)] at e
    cases e
  · rwa [List.getElem?_set_ne z] at e
theorem Lg.drop {W : Wd} {h : Store} (ok : WOk K W h H) (i : Nat) : Lg W H ⟨W.F, W.m, W.O.set i none⟩ H :=
  let l := Lg.rfl' ok
  ⟨l.F, l.frm, l.new, l.m, fun j a u e => .inr ⟨j, u, own_set e⟩, l.cel, l.kep, fun j a C dx gs e => ⟨gs, own_set e⟩⟩
def mAsg (i : Nat) (c : EM) : SC := fun ε h => (c ε h).up ε fun d h1 => .ok (.nx (ε.set i (.pu d))) h1
def mRet (c : EM) : SC := fun ε h => (c ε h).up ε fun d h1 => .ok (.rt d) h1
def mRetN : SC := fun _ h => .ok (.rt .non) h
def mExp (c : EM) : SC := fun ε h => (c ε h).up ε fun _ h1 => .ok (.nx ε) h1
def mPass : SC := fun ε h => .ok (.nx ε) h
def mBrk : SC := fun ε h => .ok (.bk ε) h
def mCnt : SC := fun ε h => .ok (.ct ε) h
def R.seq (r : R Fw) (k : SC) : R Fw := match r with
  | .ok (.nx ε) h => k ε h
  | r => r
def mSeq (a b : SC) : SC := fun ε h => (a ε h).seq b
def mIfS (t : Ev → M Bool) (a b : SC) : SC := fun ε h => (t ε h).up ε fun k h1 => if k = true then a ε h1 else b ε h1
section
variable {T : WX} {X : Cx} {e a b tg : Expr} {es : List Expr} {c : EM} {ct : Ev → M Bool} {cs : Ev → M (List D)} {pos p' : Pos} {st : Stmt} {sts body els : List Stmt} {cS cU : SC} {i : Nat} {x : Str}
theorem ss_asg (w : Sw X i x) (hs : swapsWith e (some (.Name x p')) pos.line X.env = pure false) (he : SE T X e c) : SS T X (.Assign [.Name x p'] e pos) (mAsg i c) := by
  intro ε σ W h H E r o p
  refine s_set w hs (he ε σ W h H _ r o (Post.mono (PostS.up p o r) (Le.rfl' o.mN) fun d h1 W1 H1 l1 o1 p1 v hv => ?_))
  refine st_ok rfl (p1 _ ⟨W1.F, W1.m, W1.O.set i none⟩ _ (Lg.drop o1 i) (o1.drop i) ?_)
  exact (r.le l1).set (show SR _ _ _ _ (.pu d) none from ⟨rfl, v, rfl, hv⟩)
theorem ss_ret (he : SE T X e c) : SS T X (.Return (some e) pos) (mRet c) := by
  intro ε σ W h H E r o p
  exact s_ret (he ε σ W h H _ r o (Post.mono (PostS.up p o r) (Le.rfl' o.mN) fun d h1 W1 H1 l1 o1 p1 v hv => p1 v W1 H1 (Lg.rfl' o1) o1 hv))
theorem ss_retN : SS T X (.Return none pos) mRetN := fun ε σ W h H E r o p => s_retN (p _ W H (Lg.rfl' o) o (by unfold Rp; rfl))
theorem ss_pass : SS T X (.Pass pos) mPass := fun ε σ W h H E r o p => s_pass (p _ W H (Lg.rfl' o) o r)
theorem ss_brk : SS T X (.Break pos) mBrk := fun ε σ W h H E r o p => s_brk (p _ W H (Lg.rfl' o) o r)
theorem ss_cnt : SS T X (.Continue pos) mCnt := fun ε σ W h H E r o p => s_ct (p _ W H (Lg.rfl' o) o r)
theorem ss_exp (hs : swapsWith e none pos.line X.env = pure false) (he : SE T X e c) : SS T X (.Expr e pos) (mExp c) := by
  intro ε σ W h H E r o p
  exact s_expr hs (he ε σ W h H _ r o (Post.mono (PostS.up p o r) (Le.rfl' o.mN) fun d h1 W1 H1 l1 o1 p1 v hv => p1 _ W1 H1 (Lg.rfl' o1) o1 (r.le l1)))
theorem ss_if (ht : ST T X e ct) (h1 : SB T X body cS) (h2 : SB T X els cU) : SS T X (.If e body els pos) (mIfS ct cS cU) := by
  intro ε σ W h H E r o p
  refine s_if (ht ε σ W h H _ r o (Post.mono (PostS.up p o r) (Le.rfl' o.mN) fun k h1' W1 H1 l1 o1 p1 => ?_))
  cases k with
  | true => exact cT (h1 ε σ W1 h1' H1 E (r.le l1) o1 (by simpa using p1))
  | false => exact cF (h2 ε σ W1 h1' H1 E (r.le l1) o1 (by simpa using p1))
theorem sb_nil : SB T X [] mPass := fun ε σ W h H E r o p => b_nil (p _ W H (Lg.rfl' o) o r)
theorem sb_one (hs : SS T X st cS) : SB T X [st] cS := fun ε σ W h H E r o p => b_one (hs ε σ W h H E r o p)
theorem PostS.seq {W : Wd} {H : Hp} {E : Ends} {h : Store} {r : R Fw} {k : SC} (p : PostS K T W H (R.seq r k) E) : PostS K T W H r { E with nx := fun σ' H' => ∃ ε' h' W', r = .ok (.nx ε') h' ∧ Lg W H W' H' ∧ WOk K W' h' H' ∧ Rel K W'.F W'.m σ' ε' W'.O ∧ PostS K T W' H' (k ε' h') E } := by
  cases r with
  | ex c ns ds h' => exact p
  | no => exact p
  | ok f h' =>
    cases f with
    | nx ε' => exact fun σ' W' H' l' o r => ⟨ε', h', W', rfl, l', o, r, PostS.lg p l'⟩
    | rt d => exact p
    | bk ε' => exact p
    | ct ε' => exact p
    | rs c ns ds ε' => exact p
theorem sb_cons (hs : SS T X st cS) (hb : SB T X sts cU) : SB T X (st :: sts) (mSeq cS cU) := by
  intro ε σ W h H E r o p
  refine b_cons (hs ε σ W h H _ r o ?_)
  have q := PostS.seq (h := h) p
  generalize cS ε h = res at q ⊢
  cases res with
  | ex c ns ds h' => exact q
  | no => exact q
  | ok f h' =>
    cases f with
    | nx ε' =>
      intro σ' W' H' l' o' r'
      obtain ⟨ε2, h2, W2, e2, l2, o2, r2, q2⟩ := q σ' W' H' l' o' r'
      exact hb ε2 σ' W2 h2 H' E r2 o2 q2
    | rt d => exact q
    | bk ε' => exact q
    | ct ε' => exact q
    | rs c ns ds ε' => exact q
end
/-! ### defs -/
/-- what a def hands back -/
def PostF (K : PySem.W.Frag) (W : Wd) (H : Hp) (r : R D) (Q : VK) (E : XK) : Prop := match r with
  | .ok d h' => ∀ v W' H', Le W H W' H' → WOk K W' h' H' → Rp K W'.F W'.m d v → Q v H'
  | .ex c ns ds h' => ∀ dx W' H', Le W H W' H' → WOk K W' h' H' → ExAt K W'.F W'.m H H' ns ds dx → E (.ref (ga K c)) dx H'
  | .no => False
/-- a def's promise: it runs as f -/
def spM (K : PySem.W.Frag) (n : Nat) (f : List D → M D) : Sp := fun vs H Q E => vs.length = n ∧ ∃ W h ds, W.O = [] ∧ WOk K W h H ∧ Rps K W.F W.m ds vs ∧ PostF K W H (f ds h) Q E
def runF (c : SC) (n : Nat) (ds : List D) : M D := fun h => match c (ds.map .pu ++ List.replicate (n - ds.length) .un) h with
  | .ok (.nx _) h' => .ok .non h'
  | .ok (.rt d) h' => .ok d h'
  | .ok (.rs c ns ds _) h' => .ex c ns ds h'
  | _ => .no
theorem own_rep {n i : Nat} {p : Addr} {o : HO} (e : (List.replicate n (none : Option (Addr × HO)))[i]? = some (some (p, o))) : False := by
  have := List.getElem?_eq_some_iff.mp e
  obtain ⟨h1, h2⟩ := this
  simp at h2
theorem Rel.start {ds : List D} {vs : List V} (r : Rps K F m ds vs) (n : Nat) : Rel K F m (vs.map some ++ List.replicate (n - vs.length) none) (ds.map .pu ++ List.replicate (n - ds.length) .un) (List.replicate (ds.length + (n - ds.length)) none) := by
  have hl := r.len
  refine ⟨by simp [hl], by simp, fun i s e o h1 h2 h3 => ?_⟩
  have ho : o = none := by
    obtain ⟨_, h⟩ := List.getElem?_eq_some_iff.mp h3
    simpa using h.symm
  subst ho
  by_cases hi : i < ds.length
  · rw [List.getElem?_append_left (by simpa using hi)] at h2
    rw [List.getElem?_append_left (by simpa [← hl] using hi)] at h1
    rw [List.getElem?_map] at h1 h2
    have e1 : ds[i]? = some ds[i] := List.getElem?_eq_getElem hi
    obtain ⟨v, e2, e3⟩ := r.get e1
    rw [e1] at h2
    rw [e2] at h1
    simp at h1 h2
    subst h1 h2
    exact ⟨rfl, v, rfl, e3⟩
  · rw [List.getElem?_append_right (by simpa using hi)] at h2
    obtain ⟨_, h⟩ := List.getElem?_eq_some_iff.mp h2
    simp at h
    subst h
    rfl
section
variable {P : Program} {w : World} {mg : Str → Option Value} {base : Heap}
theorem body_of {X : Cx} {T : WX} {E : XK} {Q : VK} {c : SC} {n : Nat} {sts : List Stmt} {N : List Str} {vs : List V} (hT : ∀ cls d σ H, E cls d H → T cls d σ H) (hN : N.length = n) (hp : vs.length ≤ n) (hb : SB T X sts c)
    (h : ∃ W h ds, W.O = [] ∧ WOk X.K W h H ∧ Rps X.K W.F W.m ds vs ∧ PostF X.K W H (runF c n ds h) Q E) : Gb X sts { nx := fun _ H' => Q .non H', rt := Q } (L2.start N vs) H := by
  obtain ⟨W, h, ds, hO, ok, r, p⟩ := h
  have hl := r.len
  have rel := Rel.start r n
  unfold L2.start
  rw [hN]
  have ok0 : WOk X.K ⟨W.F, W.m, List.replicate (ds.length + (n - ds.length)) none⟩ h H := ⟨ok.sub, ok.len, ok.cel, ok.mF, ok.mN, ok.nd, fun i p o e => (own_rep e).elim, fun i j p o p' o' _ e _ => (own_rep e).elim⟩
  refine hb _ _ ⟨W.F, W.m, List.replicate (ds.length + (n - ds.length)) none⟩ h H _ rel ok0 ?_
  have fin : ∀ {W' : Wd} {H' : Hp} {h' : Store}, Lg ⟨W.F, W.m, List.replicate (ds.length + (n - ds.length)) none⟩ H W' H' → WOk X.K W' h' H' → Le W H ⟨W'.F, W'.m, []⟩ H' ∧ WOk X.K ⟨W'.F, W'.m, []⟩ h' H' := fun {W' H' h'} l o => by
    refine ⟨⟨l.F, fun a u e hm => l.frm a u e hm fun i u' z => own_rep z, fun a u e => ?_, l.m, by rw [hO], l.cel⟩, ⟨o.sub, o.len, o.cel, o.mF, o.mN, o.nd, fun i p u e => by simp at e, fun i j p u p' u' _ e _ => by simp at e⟩⟩
    rcases l.new a u e with z | z | ⟨i, u', z⟩
    · exact .inl z
    · exact .inr z
    · exact (own_rep z).elim
  unfold runF at p
  generalize c (ds.map .pu ++ List.replicate (n - ds.length) .un) h = res at p ⊢
  cases res with
  | ex c ns ds h' => exact p
  | no => exact p
  | ok f h' =>
    cases f with
    | nx ε' => exact fun σ' W' H' l' o' r' => p _ _ _ (fin l' o').1 (fin l' o').2 (by unfold Rp; rfl)
    | rt d => exact fun v W' H' l' o' r' => p _ _ _ (fin l' o').1 (fin l' o').2 r'
    | bk ε' => exact p.elim
    | ct ε' => exact p.elim
    | rs c ns ds ε' => exact fun dx σ' W' H' l' o' r' ex => hT _ _ _ _ (p dx _ _ (fin l' o').1 (fin l' o').2 ex)
/-- THE RULE for a def -/
theorem fn_okM {q : Bool} {x qual : Str} {params : Arguments} {body : List Stmt} {scope : Scope} {dvs : List V} {kws : List (Str × V)} {f : Addr} {fd : FuncData} {N ps : List Str} {k : Nat} {c : SC} (F : FunD K x qual params body scope dvs kws f fd) (S : FnScope N ps scope) (hl : ps.length ≤ N.length)
    (hb : ∀ (cdv : Value) (A : Around) (outer : List Env) (s : Shared) (H : Hp) (E : XK), RoomG q k (A.deeper (envOfC qual scope s.heap.objs.size f cdv)) → SB (fun cls d _ H => E cls d H) (cxT q (L2.CX P w) P w K mg base N qual scope f cdv A outer s H E) body c) :
    FnT q P w K mg base (L2.CX P w) (k + 1) f fd ps (spM K ps.length (runF c N.length)) := by
  refine okT F S (fun vs H Q E h => h.1) fun cdv A outer s H vs Q E hr h => ⟨_, pb, ?_⟩
  exact body_of (X := cxT q (L2.CX P w) P w K mg base N qual scope f cdv A outer s H E) (T := fun cls d _ H => E cls d H) (fun _ _ _ _ h => h) rfl (by rw [h.1]; exact hl) (hb cdv A outer s H E hr) h.2
end
/-! ### calls -/
def CallM (T : WX) (X : Cx) (u : Value) (f : List D → M D) : Prop := ∀ pins s σ H W h ds vs us Q, Inv X pins σ H s → Vals vs us → WOk X.K W h H → Rps X.K W.F W.m ds vs → Post X.K T W H σ (f ds h) (fun d _ W' H' => ∀ v, Rp X.K W'.F W'.m d v → Q v H') →
  wpAny (model X.prog X.w) X.A (call u us) (EP X pins σ Q) X.xe s
structure Fc (T : WX) (X : Cx) (x : Str) (f : List D → M D) : Prop where
  ex : ∃ u, CallM T X u f ∧ Rch X x u
  g : Gl X x
  db : (x == ("__debug__" : Str)) = false
theorem callM_of {q : Bool} {T : WX} {X : Cx} {k : Nat} {f : Addr} {fd : FuncData} {ps : List Str} {n : Nat} {mf : List D → M D} {dfl : List D} {dvs : List V} {dus : List Value} (F : FnT q X.prog X.w X.K X.mg X.base (L2.CX X.prog X.w) k f fd ps (spM X.K n mf)) (hn : ps.length = n) (hr : RoomG q k X.A) (hb : Binds X.K fd ps dus)
    (hd : Vals dvs dus) (hD : ∀ F m, Rps X.K F m dfl dvs) (tk : Takes X T) : CallM T X (.ref f) (fun ds h => if ds.length + dfl.length = n then mf (ds ++ dfl) h else .no) := by
  intro pins s σ H W h ds vs us Q I r ok rp p
  dsimp only at p
  by_cases hl : ds.length + dfl.length = n
  · rw [if_pos hl] at p
    have r2 : Vals (vs ++ dvs) (us ++ dus) := r.append hd
    have rl := rp.len
    have dl := (hD W.F W.m).len
    have hl2 : (us ++ dus).length = ps.length := by rw [← r2.length, List.length_append, hn]; omega
    have ok0 : WOk X.K ⟨W.F, W.m, []⟩ h H := ⟨ok.sub, ok.len, ok.cel, ok.mF, ok.mN, ok.nd, fun i p u e => by simp at e, fun i j p u p' u' _ e _ => by simp at e⟩
    have fin : ∀ {W' : Wd} {H' : Hp} {h' : Store}, Le ⟨W.F, W.m, []⟩ H W' H' → WOk X.K W' h' H' → Le W H ⟨W'.F, W'.m, W.O⟩ H' ∧ WOk X.K ⟨W'.F, W'.m, W.O⟩ h' H' := fun {W' H' h'} l o => by
      refine ⟨⟨l.F, l.frm, l.new, l.m, rfl, l.cel⟩, ⟨o.sub, o.len, o.cel, o.mF, o.mN, o.nd, fun i q u e => ?_, ok.ond⟩⟩
      obtain ⟨g1, g2, g3⟩ := ok.own i q u e
      refine ⟨l.frm _ _ g1 g3, ?_, fun hm => ?_⟩
      · show W'.F q = none
        cases z : W'.F q with
        | none => rfl
        | some u' =>
          rcases l.new _ _ z with z | z
          · replace z : W.F q = some u' := z
            rw [g2] at z; cases z
          · rw [g1] at z; cases z
      · obtain ⟨nn, en, hnn⟩ := l.m
        replace hm : q ∈ W'.m := hm
        rw [en] at hm
        rcases List.mem_append.mp hm with hm | hm
        · exact g3 hm
        · rw [hnn q hm] at g1; cases g1
    have hE : spM X.K n mf (vs ++ dvs) H Q (fun cls d H' => T cls d σ H') := by
      refine ⟨by rw [List.length_append]; omega, ⟨W.F, W.m, []⟩, h, ds ++ dfl, rfl, ok0, rp.app (hD _ _), ?_⟩
      generalize mf (ds ++ dfl) h = res at p ⊢
      cases res with
      | ok d h' => exact fun v W' H' l o rv => p _ _ (fin l o).1 (fin l o).2 v rv
      | ex c ns es h' => exact fun dx W' H' l o e => p dx _ _ (fin l o).1 (fin l o).2 e
      | no => exact p
    refine wpAny_call (codeAny_mono (F.run X.A X.stack s H ⟨us, []⟩ (us ++ dus) (vs ++ dvs) Q _ hr I.env0 (hb s us I.kIn hl2) r2 hE) fun res s' hq => ?_)
    cases res with
    | error e => exact tk e s' (XE.of_call I (fun _ _ _ z => z) hq)
    | ok fl =>
      cases fl with
      | ret u => exact I.after hq
      | next => exact hq.elim
      | brk => exact hq.elim
      | cont => exact hq.elim
  · rw [if_neg hl] at p
    exact p.elim
theorem fc_own {T : WX} {X : Cx} {x : Str} {f : Addr} {mf : List D → M D} (F : CallM T X (.ref f) mf) (hg : Gl X x) (hm : X.mg x = some (.ref f)) (hk : PySem.W.keepIn X.K (.ref f) = true) (hdb : (x == ("__debug__" : Str)) = false) : Fc T X x mf := ⟨⟨_, F, .own hm hk⟩, hg, hdb⟩
def mCall (f : List D → M D) (cs : Ev → M (List D)) : EM := fun ε h => (cs ε h).bnd fun ds h1 => f ds h1
theorem se_call {T : WX} {X : Cx} {x : Str} {f : List D → M D} {e : Expr} {es : List Expr} {cs : Ev → M (List D)} {p pos : Pos} (F : Fc T X x f) (he : starEach (e :: es) X.env = (false, eval e X.env) :: starEach es X.env) (hpl : (backTo pos (starEach es X.env)).any (·.1) = false)
    (ha : SA T X (e :: es) cs) : SE T X (.Call (.Name x p) (e :: es) [] pos) (mCall f cs) := by
  intro ε σ W h H Q r o p'
  obtain ⟨u, hc, rc⟩ := F.ex
  have go : Ga X (e :: es) σ H (fun vs H1 => ∃ ds h1 W1, WOk X.K W1 h1 H1 ∧ Rps X.K W1.F W1.m ds vs ∧ Post X.K T W1 H1 σ (f ds h1) (fun d _ W' H' => ∀ v, Rp X.K W'.F W'.m d v → Q v H')) :=
    ha ε σ W h H _ r o (Post.mono (Post.bnd p') (Le.rfl' o.mN) fun ds h1 W1 H1 l1 o1 p1 vs hvs => ⟨ds, h1, W1, o1, hvs, p1⟩)
  intro pins s I
  cases rc with
  | own hm hk => exact wpAny_Call_Name_kw (ld_glob I F.g hm (PySem.W.callWith_K (h₀ := X.base) I.ok.mod.kin hk (thn (go pos pins s I) fun us s1 ⟨vs, H1, I1, r, ds, h1, W1, o1, hvs, q⟩ => ⟨I1.kIn, hc pins s1 σ H1 W1 h1 ds vs us Q I1 r o1 hvs q⟩) he hpl) F.db)
  | blt bn => exact wpAny_Call_Name_kw (ld_blt I F.g bn.m bn.b (PyProof.Rows.callWith_builtin1 (thn (go pos pins s I) fun us s1 ⟨vs, H1, I1, r, ds, h1, W1, o1, hvs, q⟩ => hc pins s1 σ H1 W1 h1 ds vs us Q I1 r o1 hvs q) he hpl) bn.nn F.db)
  | typ bn => exact wpAny_Call_Name_kw (ld_blt I F.g bn.m bn.b (PyProof.Rows.callWith_type1 (thn (go pos pins s I) fun us s1 ⟨vs, H1, I1, r, ds, h1, W1, o1, hvs, q⟩ => hc pins s1 σ H1 W1 h1 ds vs us Q I1 r o1 hvs q) he hpl) bn.nn F.db)
end Z
set_option Elab.async false
set_option linter.all false
set_option maxRecDepth 100000
set_option maxHeartbeats 4000000
namespace Z
open PySem PySem.Spec PyProof.Rows L2 G
variable {K : PySem.W.Frag} {F F' H H' : Hp} {m m' : List Addr}
/-! ### operators -/
def OpM (T : WX) (X : Cx) (f : Value → Value → Sem Value) (g : D → D → M D) : Prop := ∀ pins s σ H W h x y v w u1 u2 Q, Inv X pins σ H s → RelV v u1 → RelV w u2 → WOk X.K W h H → Rb X W H x v → Rb X W H y w →
  Post X.K T W H σ (g x y h) (fun d _ W' H' => ∀ v, Rp X.K W'.F W'.m d v → Q v H') → wpAny (model X.prog X.w) X.A (f u1 u2) (EP X pins σ Q) X.xe s
section
variable {T : WX} {X : Cx} {W W' : Wd} {h : Store} {d : D} {v : V}
theorem Rb.mono (r : Rb X W H d v) (l : Le W H W' H') : Rb X W' H' d v := by
  rcases r with r | ⟨i, p, e, r⟩
  · exact .inl (Rp.mono l.F l.mx d r)
  · refine .inr ⟨i, p, e, ?_⟩
    rcases r with ⟨ds, vs, e1, e2, e3⟩ | ⟨ks, ds, vs, e1, e2, e3, e4⟩
    · exact .inl ⟨ds, vs, e1, by rw [l.O]; exact e2, Rps.mono l.F l.mx ds e3⟩
    · exact .inr ⟨ks, ds, vs, e1, by rw [l.O]; exact e2, e3, Rps.mono l.F l.mx ds e4⟩
theorem Rb.int {i : Int} (r : Rb X W H (.int i) v) : v = .int i := by
  rcases r with r | ⟨_, _, _, ⟨_, _, e, _⟩ | ⟨_, _, _, e, _⟩⟩
  · unfold Rp at r; exact r
  · cases e
  · cases e
theorem Rb.str {i : Str} (r : Rb X W H (.str i) v) : v = .str i := by
  rcases r with r | ⟨_, _, _, ⟨_, _, e, _⟩ | ⟨_, _, _, e, _⟩⟩
  · unfold Rp at r; exact r
  · cases e
  · cases e
theorem Rb.bl {i : Bool} (r : Rb X W H (.bl i) v) : v = .bl i := by
  rcases r with r | ⟨_, _, _, ⟨_, _, e, _⟩ | ⟨_, _, _, e, _⟩⟩
  · unfold Rp at r; exact r
  · cases e
  · cases e
theorem Rb.non (r : Rb X W H .non v) : v = .non := by
  rcases r with r | ⟨_, _, _, ⟨_, _, e, _⟩ | ⟨_, _, _, e, _⟩⟩
  · unfold Rp at r; exact r
  · cases e
  · cases e
theorem Rb.tup {ds : List D} (r : Rb X W H (.tup ds) v) : ∃ a vs, v = .ref a ∧ SqT X.K W.F a vs ∧ Rps X.K W.F W.m ds vs := by
  rcases r with r | ⟨_, _, _, ⟨_, _, e, _⟩ | ⟨_, _, _, e, _⟩⟩
  · unfold Rp at r; exact r
  · cases e
  · cases e
theorem Rb.lst {ds : List D} (r : Rb X W H (.lst ds) v) (ok : WOk X.K W h H) : ∃ a vs, v = .ref a ∧ H a = some (.lst vs) ∧ Rps X.K W.F W.m ds vs := by
  rcases r with r | ⟨i, p, rfl, ⟨ds', vs, e, e1, e2⟩ | ⟨_, _, _, e, _⟩⟩
  · unfold Rp at r
    obtain ⟨a, vs, h1, h2, h3⟩ := r
    exact ⟨a, vs, h1, ok.sub _ _ h2, h3⟩
  · cases e
    exact ⟨p, vs, rfl, (ok.own i p _ e1).1, e2⟩
  · cases e
theorem Rb.dic {ks : List Key} {ds : List D} (r : Rb X W H (.dic ks ds) v) (ok : WOk X.K W h H) : ∃ a vs, v = .ref a ∧ H a = some (.dK (ks.zip vs)) ∧ ks.length = vs.length ∧ Rps X.K W.F W.m ds vs := by
  rcases r with r | ⟨i, p, rfl, ⟨ds', vs, e, e1, e2⟩ | ⟨_, _, vs, e, e1, e2, e3⟩⟩
  · unfold Rp at r
    obtain ⟨a, vs, h1, h2, h3, h4⟩ := r
    exact ⟨a, vs, h1, ok.sub _ _ h2, h3, h4⟩
  · cases e
  · cases e
    exact ⟨p, vs, rfl, (ok.own i p _ e1).1, e2, e3⟩
theorem Rb.rp (r : Rb X W H d v) (h1 : ∀ ds, d ≠ .lst ds) (h2 : ∀ ks ds, d ≠ .dic ks ds) : Rp X.K W.F W.m d v := by
  rcases r with r | ⟨i, p, rfl, ⟨ds', vs, e, e1, e2⟩ | ⟨_, _, vs, e, e1, e2, e3⟩⟩
  · exact r
  · exact absurd e (h1 _)
  · exact absurd e (h2 _ _)
end
theorem mulOk {i j : Int} (h : i.natAbs < 2 ^ 64 ∨ j.natAbs < 2 ^ 64 ∨ i.natAbs.log2 + j.natAbs.log2 < 1000000) : IntMulOk i j := by
  rcases h with h | h | h
  · exact CMul.ok (.inl ⟨by omega, by omega⟩)
  · exact CMul.ok (.inr ⟨by omega, by omega⟩)
  · exact CMulW.ok h
theorem op_mulO {X : Cx} : OpR X (binaryOp .Mult) (rI IntMulOk fun i j => .int (i * j)) := opI fun _ _ _ _ _ _ _ hc q => PyProof.Rows.mul_int q hc
def intOp (op : Operator) (i j : Int) : Option Int := match op with
  | .Add => some (i + j)
  | .Sub => some (i - j)
  | .Mult => if i.natAbs < 2 ^ 64 ∨ j.natAbs < 2 ^ 64 ∨ i.natAbs.log2 + j.natAbs.log2 < 1000000 then some (i * j) else none
  | .FloorDiv => if j ≠ 0 ∧ j.natAbs.log2 < 9000 then some (i.fdiv j) else none
  | .Mod => if j ≠ 0 then some (i.fmod j) else none
  | .Pow => if 0 ≤ j ∧ j ≤ 1000000 ∧ i.natAbs < 2 ^ 64 then some (i ^ j.toNat) else none
  | _ => none
def b2 (b : Bool) : Int := if b then 1 else 0
def noO : D → D → M D := fun _ _ _ => .no
def bop (O : D → D → M D) (op : Operator) (x y : D) : M D := fun h => match x, y with
  | .int i, .int j => match intOp op i j with
    | some k => .ok (.int k) h
    | none => .no
  | .str s, .str t => match op with
    | .Add => if s.length + t.length ≤ sizeLine then .ok (.str (s ++ t)) h else .no
    | _ => .no
  | .lst xs, .lst ys => match op with
    | .Add => if xs.length + ys.length ≤ 100000 then .ok (.lst (xs ++ ys)) h else .no
    | _ => .no
  | .tup xs, .tup ys => match op with
    | .Add => if xs.length + ys.length ≤ 100000 then .ok (.tup (xs ++ ys)) h else .no
    | _ => .no
  | .lst xs, .int k => match op with
    | .Mult => if 0 ≤ k ∧ k ≤ 1000 ∧ xs.length ≤ 100 then .ok (.lst (List.replicate k.toNat xs).flatten) h else .no
    | _ => .no
  | .tup xs, .int k => match op with
    | .Mult => if xs ≠ [] ∧ 2 ≤ k ∧ k ≤ 1000 ∧ xs.length ≤ 1000 then .ok (.tup (List.replicate k.toNat xs).flatten) h else .no
    | _ => .no
  | .bl a, .bl b => match op with
    | .Sub => .ok (.int (b2 a - b2 b)) h
    | _ => .no
  | x, y => O x y h
theorem Rps.rep (n : Nat) {ds : List D} {vs : List V} (r : Rps K F m ds vs) : Rps K F m (List.replicate n ds).flatten (List.replicate n vs).flatten := by
  induction n with
  | zero => exact Rps.nil
  | succ n ih => rw [List.replicate_succ, List.replicate_succ, List.flatten_cons, List.flatten_cons]; exact r.app ih
theorem sizeL : (1000000 : Nat) ≤ sizeLine := by decide
section
variable {T : WX} {X : Cx}
theorem noO_ok {f : Value → Value → Sem Value} : OpM T X f noO := fun _ _ _ _ _ _ _ _ _ _ _ _ _ _ _ _ _ _ _ p => p.elim
theorem b2_eq (b : Bool) : PyProof.Rows.b2i b = b2 b := rfl
/-- a fresh frozen thing is handed on -/
theorem Post.lay {W : Wd} {h : Store} {σ : L2.St} {Q : VK} {d : D} {o : HO} (p : Post X.K T W H σ (.ok d h) (fun d _ W' H' => ∀ v, Rp X.K W'.F W'.m d v → Q v H')) (ok : WOk X.K W h H)
    (hd : ∀ a F', Ex W.F F' → F' a = some o → Rp X.K F' W.m d (.ref a)) {a : Addr} (ha : H a = none) : Q (.ref a) (upd H a o) := by
  obtain ⟨l, o2⟩ := Z.lay ok ha (Ex.new ha) (upd_same (o := o))
  exact p _ _ l o2 _ (hd a _ l.F upd_same)
theorem bop_ok {op : Operator} {O : D → D → M D} (hO : OpM T X (binaryOp op) O) : OpM T X (binaryOp op) (bop O op) := by
  intro pins s σ H W h x y v w u1 u2 Q I r1 r2 ok rx ry p
  unfold bop at p
  split at p
  · rename_i i j
    cases rx.int
    cases ry.int
    split at p
    · rename_i k e
      have q := p.ok ok ok.mN _ (by unfold Rp; rfl)
      cases op <;> simp only [intOp] at e <;> try (cases e; done)
      · cases e; exact op_add pins s σ H _ _ u1 u2 Q I r1 r2 ⟨i, j, rfl, rfl, q⟩
      · cases e; exact op_sub pins s σ H _ _ u1 u2 Q I r1 r2 ⟨i, j, rfl, rfl, q⟩
      · split at e
        · rename_i c; cases e; exact op_mulO pins s σ H _ _ u1 u2 Q I r1 r2 ⟨i, j, rfl, rfl, mulOk c, q⟩
        · cases e
      · split at e
        · rename_i c; cases e; exact op_modN pins s σ H _ _ u1 u2 Q I r1 r2 ⟨i, j, rfl, rfl, c, q⟩
        · cases e
      · split at e
        · rename_i c; cases e; exact op_pow pins s σ H _ _ u1 u2 Q I r1 r2 ⟨i, j, rfl, rfl, c, q⟩
        · cases e
      · split at e
        · rename_i c; cases e; exact op_fdivWN pins s σ H _ _ u1 u2 Q I r1 r2 ⟨i, j, rfl, rfl, c, q⟩
        · cases e
    · exact p.elim
  · rename_i a b
    cases rx.str
    cases ry.str
    split at p
    · split at p
      · rename_i c
        exact op_add_str pins s σ H _ _ u1 u2 Q I r1 r2 ⟨a, b, rfl, rfl, c, p.ok ok ok.mN _ (by unfold Rp; rfl)⟩
      · exact p.elim
    · exact p.elim
  · rename_i xs ys
    obtain ⟨a, vs, rfl, ha, hr⟩ := rx.lst ok
    obtain ⟨b, ws, rfl, hb, hs⟩ := ry.lst ok
    split at p
    · split at p
      · rename_i c
        refine op_cat pins s σ H _ _ u1 u2 Q I r1 r2 ⟨a, b, vs, ws, rfl, rfl, ha, hb, by rw [← hr.len, ← hs.len]; have := sizeL; omega, fun q hq => ?_⟩
        exact p.lay ok (fun z F' e hz => by unfold Rp; exact ⟨z, _, rfl, hz, (hr.app hs |> Rps.mono e ⟨[], by simp⟩ _)⟩) hq
      · exact p.elim
    · exact p.elim
  · rename_i xs ys
    obtain ⟨a, vs, rfl, ha, hr⟩ := rx.tup
    obtain ⟨b, ws, rfl, hb, hs⟩ := ry.tup
    split at p
    · split at p
      · rename_i c
        refine op_catA pins s σ H _ _ u1 u2 Q I r1 r2 ⟨a, b, vs, ws, rfl, rfl, exSqT ok.sub ha, exSqT ok.sub hb, by rw [← hr.len, ← hs.len]; have := sizeL; omega, fun e => ?_, fun e1 e2 => ?_, fun e1 e2 q hq => ?_⟩
        · subst e
          obtain rfl : xs = [] := List.length_eq_zero_iff.mp (by rw [hr.len]; rfl)
          exact p.ok ok ok.mN _ (by unfold Rp; exact ⟨b, ws, rfl, hb, by simpa using hs⟩)
        · subst e2
          obtain rfl : ys = [] := List.length_eq_zero_iff.mp (by rw [hs.len]; rfl)
          exact p.ok ok ok.mN _ (by unfold Rp; exact ⟨a, vs, rfl, ha, by simpa using hr⟩)
        · exact p.lay ok (fun z F' e hz => by unfold Rp; exact ⟨z, _, rfl, SqT.of hz, (hr.app hs |> Rps.mono e ⟨[], by simp⟩ _)⟩) hq
      · exact p.elim
    · exact p.elim
  · rename_i xs k
    obtain ⟨a, vs, rfl, ha, hr⟩ := rx.lst ok
    cases ry.int
    split at p
    · split at p
      · rename_i c
        refine op_rep pins s σ H _ _ u1 u2 Q I r1 r2 ⟨a, k, vs, rfl, rfl, ha, by omega, by omega, ?_, fun q hq => ?_⟩
        · have h1 : vs.length * k.toNat ≤ 100 * 1000 := Nat.mul_le_mul (by rw [← hr.len]; omega) (by omega)
          have := sizeL
          omega
        · exact p.lay ok (fun z F' e hz => by unfold Rp; exact ⟨z, _, rfl, hz, (hr.rep _ |> Rps.mono e ⟨[], by simp⟩ _)⟩) hq
      · exact p.elim
    · exact p.elim
  · rename_i xs k
    obtain ⟨a, vs, rfl, ha, hr⟩ := rx.tup
    cases ry.int
    split at p
    · split at p
      · rename_i c
        refine op_repT pins s σ H _ _ u1 u2 Q I r1 r2 ⟨a, k, vs, rfl, rfl, exSqT ok.sub ha, fun e => c.1 (List.length_eq_zero_iff.mp (by rw [hr.len, e]; rfl)), c.2.1, c.2.2.1, by rw [← hr.len]; exact c.2.2.2, fun q hq => ?_⟩
        exact p.lay ok (fun z F' e hz => by unfold Rp; exact ⟨z, _, rfl, SqT.of hz, (hr.rep _ |> Rps.mono e ⟨[], by simp⟩ _)⟩) hq
      · exact p.elim
    · exact p.elim
  · rename_i a b
    cases rx.bl
    cases ry.bl
    split at p
    · cases r1
      cases r2
      exact PyProof.Rows.sub_bool ⟨.int _, H, I.tok _, ⟨_, rfl⟩, p.ok ok ok.mN _ (by unfold Rp; rfl)⟩
    · exact p.elim
  · exact hO pins s σ H W h x y v w u1 u2 Q I r1 r2 ok rx ry p
variable {a b : Expr} {ca cb : EM} {pos : Pos}
def mBin (f : D → D → M D) (a b : EM) : EM := fun ε h => (a ε h).bnd fun x h1 => (b ε h1).bnd fun y h2 => f x y h2
theorem se_bin {op : Operator} {g : D → D → M D} (hg : OpM T X (binaryOp op) g) (ha : SL T X a ca) (hb : SL T X b cb) : SE T X (.BinOp a op b pos) (mBin g ca cb) := by
  intro ε σ W h H Q r o p
  have g1 : Go X a σ H fun v H1 => Go X b σ H1 fun w H2 => ∃ x y W2 h2, WOk X.K W2 h2 H2 ∧ Rb X W2 H2 x v ∧ Rb X W2 H2 y w ∧ Post X.K T W2 H2 σ (g x y h2) (fun d _ W' H' => ∀ v, Rp X.K W'.F W'.m d v → Q v H') :=
    ha ε σ W h H _ r o (Post.mono (Post.bnd p) (Le.rfl' o.mN) fun x h1 W1 H1 l1 o1 p1 v hv => hb ε σ W1 h1 H1 _ (r.le l1) o1 (Post.mono (Post.bnd p1) (Le.rfl' o1.mN) fun y h2 W2 H2 l2 o2 p2 w hw => ⟨x, y, W2, h2, o2, hv.mono l2, hw, p2⟩))
  intro pins s I
  exact wpAny_BinOp (thn (g1 pins s I) fun v s1 ⟨x, H1, I1, r1, q1⟩ => thn (q1 pins s1 I1) fun u s2 ⟨y, H2, I2, r2, x', y', W2, h2, o2, hx, hy, p2⟩ => hg pins s2 σ H2 W2 h2 x' y' x y v u Q I2 r1 r2 o2 hx hy p2)
end
end Z
set_option Elab.async false
set_option linter.all false
set_option maxRecDepth 100000
set_option maxHeartbeats 4000000
namespace Z
open PySem PySem.Spec PyProof.Rows L2 G
variable {K : PySem.W.Frag} {F F' H H' : Hp} {m m' : List Addr}
/-! ### data of the builtins, compared and shown -/
mutual
/-- only None, truths, ints, texts, tuples and lists of such -/
def pl : D → Bool
  | .non | .bl _ | .int _ => true
  | .str s => PyData.strOk s
  | .tup ds => pls ds
  | .lst ds => pls ds
  | _ => false
def pls : List D → Bool
  | [] => true
  | d :: ds => pl d && pls ds
end
mutual
def py : D → PyData
  | .bl b => .bool b
  | .int i => .int i
  | .str s => .str s
  | .tup ds => .tuple (pys ds)
  | .lst ds => .list (pys ds)
  | _ => .none
def pys : List D → List PyData
  | [] => []
  | d :: ds => py d :: pys ds
end
mutual
theorem pl_dp (e : Ex F H) : ∀ (d : D) {v : V}, pl d = true → Rp K F m d v → Dp K H v (py d)
  | .non, v, _, h => by unfold Rp at h; subst h; exact .non
  | .bl b, v, _, h => by unfold Rp at h; subst h; exact .bl b
  | .int i, v, _, h => by unfold Rp at h; subst h; exact .int i
  | .str s, v, _, h => by unfold Rp at h; subst h; exact .str s
  | .tup ds, v, hp, h => by
    unfold Rp at h
    unfold pl at hp
    obtain ⟨a, vs, rfl, h2, h3⟩ := h
    unfold py
    exact .tup (exSqT e h2) (pls_dp e ds hp h3)
  | .lst ds, v, hp, h => by
    unfold Rp at h
    unfold pl at hp
    obtain ⟨a, vs, rfl, h2, h3⟩ := h
    unfold py
    exact .lst (SqL.of (e _ _ h2)) (pls_dp e ds hp h3)
  | .obj _ _ _, _, hp, _ => by unfold pl at hp; cases hp
  | .dic _ _, _, hp, _ => by unfold pl at hp; cases hp
  | .cell _, _, hp, _ => by unfold pl at hp; cases hp
  | .scr _, _, hp, _ => by unfold pl at hp; cases hp
  | .ty _, _, hp, _ => by unfold pl at hp; cases hp
  | .cls _, _, hp, _ => by unfold pl at hp; cases hp
theorem pls_dp (e : Ex F H) : ∀ (ds : List D) {vs : List V}, pls ds = true → Rps K F m ds vs → DpAll K H vs (pys ds)
  | [], vs, _, h => by unfold Rps at h; subst h; exact .nil
  | d :: ds, vs, hp, h => by
    unfold Rps at h
    unfold pls at hp
    obtain ⟨x, xs, rfl, h2, h3⟩ := h
    rw [Bool.and_eq_true] at hp
    unfold pys
    exact .cons (pl_dp e d hp.1 h2) (pls_dp e ds hp.2 h3)
end
mutual
theorem py_lay : ∀ d : D, pl d = true → (py d).canLay0 = true
  | .non, _ => by unfold py; rfl
  | .bl _, _ => by unfold py; rfl
  | .int _, _ => by unfold py; rfl
  | .str s, h => by unfold pl at h; unfold py PyData.canLay0; exact h
  | .tup ds, h => by unfold pl at h; unfold py PyData.canLay0; exact pys_lay ds h
  | .lst ds, h => by unfold pl at h; unfold py PyData.canLay0; exact pys_lay ds h
  | .obj _ _ _, hp => by unfold pl at hp; cases hp
  | .dic _ _, hp => by unfold pl at hp; cases hp
  | .cell _, hp => by unfold pl at hp; cases hp
  | .scr _, hp => by unfold pl at hp; cases hp
  | .ty _, hp => by unfold pl at hp; cases hp
  | .cls _, hp => by unfold pl at hp; cases hp
theorem pys_lay : ∀ ds : List D, pls ds = true → PyData.canLayAll0 (pys ds) = true
  | [], _ => by unfold pys; rfl
  | d :: ds, h => by
    unfold pls at h
    rw [Bool.and_eq_true] at h
    unfold pys PyData.canLayAll0
    rw [py_lay d h.1, pys_lay ds h.2]
    rfl
end
theorem Rb.dp {X : Cx} {W : Wd} {h : Store} {d : D} {v : V} (r : Rb X W H d v) (ok : WOk X.K W h H) (hp : pl d = true) : Dp X.K H v (py d) := by
  rcases r with r | ⟨i, p, rfl, ⟨ds, vs, rfl, e1, e2⟩ | ⟨_, _, vs, rfl, e1, e2, e3⟩⟩
  · exact pl_dp ok.sub d hp r
  · unfold pl at hp
    unfold py
    exact .lst (SqL.of (ok.own i p _ e1).1) (pls_dp ok.sub ds hp e2)
  · unfold pl at hp; cases hp
/-- == of such data -/
def deq (x y : D) : Bool := PyData.eqv (py x) (py y)
def okD (d : D) : Bool := pl d && decide ((py d).depth ≤ 64)
theorem okD_sh {d : D} (h : okD d = true) : pl d = true ∧ SeqAt.shaped (py d) = true := by
  unfold okD at h
  rw [Bool.and_eq_true] at h
  refine ⟨h.1, ?_⟩
  unfold SeqAt.shaped
  rw [Bool.and_eq_true]
  exact ⟨py_lay d h.1, h.2⟩
/-- scalars -/
def flD : D → Bool
  | .non | .bl _ | .int _ | .str _ => true
  | _ => false
def feq : D → D → Bool
  | .non, .non => true
  | .bl a, .bl b => a == b
  | .bl a, .int b => (if a then 1 else 0) == b
  | .int a, .bl b => a == (if b then 1 else 0)
  | .int a, .int b => a == b
  | .str a, .str b => a == b
  | _, _ => false
theorem flD_v {d : D} {v : V} (h : flD d = true) (r : Rp K F m d v) : flatV v = true := by
  cases d <;> unfold flD at h <;> try (cases h; done)
  all_goals (unfold Rp at r; subst r; rfl)
theorem feq_v {d e : D} {v w : V} (h : flD d = true) (h' : flD e = true) (r : Rp K F m d v) (s : Rp K F m e w) : eqV v w = feq d e := by
  cases d <;> unfold flD at h <;> try (cases h; done)
  all_goals
    cases e <;> unfold flD at h' <;> try (cases h'; done)
    all_goals (unfold Rp at r s; subst r s; rfl)
theorem flD_all : ∀ {ds : List D} {vs : List V}, ds.all flD = true → Rps K F m ds vs → vs.all flatV = true
  | [], _, _, r => by unfold Rps at r; subst r; rfl
  | d :: ds, _, h, r => by
    unfold Rps at r
    obtain ⟨x, xs, rfl, r1, r2⟩ := r
    rw [List.all_cons, Bool.and_eq_true] at h ⊢
    exact ⟨flD_v h.1 r1, flD_all h.2 r2⟩
theorem inV_of {d : D} {v : V} (h : flD d = true) (r : Rp K F m d v) : ∀ {ds : List D} {vs : List V}, ds.all flD = true → Rps K F m ds vs → inV v vs = ds.any fun e => feq e d
  | [], _, _, s => by unfold Rps at s; subst s; rfl
  | e :: ds, _, h', s => by
    unfold Rps at s
    obtain ⟨x, xs, rfl, r1, r2⟩ := s
    rw [List.all_cons, Bool.and_eq_true] at h'
    show (eqV x v || inV v xs) = _
    rw [feq_v h'.1 h r1 r, inV_of h r h'.2 r2]
    rfl
/-! ### comparisons -/
def keyD : D → Option Key
  | .int i => some (.inl i)
  | .str s => some (.inr s)
  | _ => none
def isNon : D → Bool
  | .non => true
  | _ => false
def keyIn (k : Key) (ks : List Key) : Bool := ks.any fun q => decide (q = k)
def cmpD (O : D → D → M D) (op : CmpOp) (x y : D) : M D := fun h => match op with
  | .Lt => match x, y with
    | .int i, .int j => .ok (.bl (decide (i < j))) h
    | _, _ => .no
  | .LtE => match x, y with
    | .int i, .int j => .ok (.bl (decide (i ≤ j))) h
    | _, _ => .no
  | .Gt => match x, y with
    | .int i, .int j => .ok (.bl (decide (j < i))) h
    | _, _ => .no
  | .GtE => match x, y with
    | .int i, .int j => .ok (.bl (decide (j ≤ i))) h
    | _, _ => .no
  | .Eq => match x, y with
    | .int i, .int j => .ok (.bl (decide (i = j))) h
    | .str i, .str j => .ok (.bl (decide (i = j))) h
    | x, y => if okD x = true ∧ okD y = true then .ok (.bl (deq x y)) h else O x y h
  | .NotEq => match x, y with
    | .int i, .int j => .ok (.bl (!decide (i = j))) h
    | .str i, .str j => .ok (.bl (!decide (i = j))) h
    | x, y => if okD x = true ∧ okD y = true then .ok (.bl (!deq x y)) h else O x y h
  | .Is => match y with
    | .non => .ok (.bl (isNon x)) h
    | _ => .no
  | .IsNot => match y with
    | .non => .ok (.bl (!isNon x)) h
    | _ => .no
  | .In => match x, y with
    | .str s, .str t => if s.length = 1 then .ok (.bl (decide (s.cps.toList.headD 0 ∈ t.cps.toList))) h else .no
    | x, .lst ds => if flD x = true ∧ ds.all flD = true then .ok (.bl (ds.any fun e => feq e x)) h else .no
    | x, .tup ds => if flD x = true ∧ ds.all flD = true then .ok (.bl (ds.any fun e => feq e x)) h else .no
    | x, .dic ks _ => match keyD x with
      | some k => .ok (.bl (keyIn k ks)) h
      | none => .no
    | x, y => O x y h
  | .NotIn => match x, y with
    | .str s, .str t => .no
    | x, .lst ds => if flD x = true ∧ ds.all flD = true then .ok (.bl (!ds.any fun e => feq e x)) h else .no
    | x, .tup ds => if flD x = true ∧ ds.all flD = true then .ok (.bl (!ds.any fun e => feq e x)) h else .no
    | x, .dic ks _ => match keyD x with
      | some k => .ok (.bl (!keyIn k ks)) h
      | none => .no
    | x, y => O x y h
theorem Rp_isN {d : D} {v : V} (r : Rp K F m d v) : decide (v = .non) = isNon d := by
  cases d <;> unfold Rp at r
  · subst r; rfl
  · subst r; rfl
  · subst r; rfl
  · subst r; rfl
  · subst r; rfl
  · subst r; rfl
  · obtain ⟨a, vs, rfl, _⟩ := r; rfl
  · obtain ⟨a, vs, rfl, _⟩ := r; rfl
  · obtain ⟨a, vs, _, rfl, _⟩ := r; rfl
  · obtain ⟨a, vs, rfl, _⟩ := r; rfl
  · obtain ⟨a, rfl, _⟩ := r; rfl
  · obtain ⟨a, rfl, _⟩ := r; rfl
  · obtain ⟨a, _, vs, rfl, _⟩ := r; rfl
  · obtain ⟨rfl, _⟩ := r; rfl
theorem Rb_isN {X : Cx} {W : Wd} {d : D} {v : V} (r : Rb X W H d v) : decide (v = .non) = isNon d := by
  rcases r with r | ⟨i, p, rfl, ⟨ds, vs, rfl, e1, e2⟩ | ⟨_, _, vs, rfl, e1, e2, e3⟩⟩
  · exact Rp_isN r
  · rfl
  · rfl
theorem headD_sign {s : Str} (h : s.length = 1) : s = ⟨#[s.cps.toList.headD 0]⟩ := by
  obtain ⟨a⟩ := s
  have h' : a.toList.length = 1 := by rw [Array.length_toList]; exact h
  cases q : a.toList with
  | nil => rw [q] at h'; cases h'
  | cons c cs =>
    rw [q] at h'
    obtain rfl : cs = [] := List.length_eq_zero_iff.mp (by simpa using h')
    have : a = #[c] := by rw [← Array.toArray_toList (xs := a), q]
    subst this
    rfl
theorem keyD_v {d : D} {v : V} {k : Key} (h : keyD d = some k) (r : Rp K F m d v) : v = kV k := by
  cases d <;> unfold keyD at h <;> try (cases h; done)
  all_goals (cases h; unfold Rp at r; exact r)
section
variable {T : WX} {X : Cx} {a b c e : Expr} {ca cb cc : EM} {pos : Pos} {op op' : CmpOp}
theorem flD_rb {W : Wd} {d : D} {v : V} (h : flD d = true) (r : Rb X W H d v) : Rp X.K W.F W.m d v := r.rp (fun ds e => by subst e; cases h) fun ks ds e => by subst e; cases h
theorem key_rb {W : Wd} {d : D} {v : V} {k : Key} (h : keyD d = some k) (r : Rb X W H d v) : v = kV k := keyD_v h (r.rp (fun ds e => by subst e; cases h) fun ks ds e => by subst e; cases h)
theorem valV_in : ∀ {ks : List Key} {vs : List V} {k : Key}, ks.length = vs.length → (valV (ks.zip vs) k).isSome = keyIn k ks
  | [], [], k, _ => rfl
  | q :: ks, v :: vs, k, h => by
    have ih := valV_in (ks := ks) (vs := vs) (k := k) (by simpa using h)
    by_cases z : q = k
    · subst z
      rw [List.zip_cons_cons, valV_pos rfl]
      simp [keyIn]
    · rw [List.zip_cons_cons, valV_neg z, ih]
      simp [keyIn, z]
  | [], _ :: _, _, h => by simp at h
  | _ :: _, [], _, h => by simp at h
theorem cmp_ok {O : D → D → M D} (hu : X.A.units + 64 < cLine) (hO : OpM T X (compareOp op) O) : OpM T X (compareOp op) (cmpD O op) := by
  intro pins s σ H W h x y v w u1 u2 Q I r1 r2 ok rx ry p
  unfold cmpD at p
  have fin : ∀ {b : Bool}, Post X.K T W H σ (.ok (.bl b) h) (fun d _ W' H' => ∀ v, Rp X.K W'.F W'.m d v → Q v H') → Q (.bl b) H := fun {b} p => p.ok ok ok.mN _ (by unfold Rp; rfl)
  cases op <;> dsimp only at p
  · -- Eq
    split at p
    · cases rx.int; cases ry.int
      exact op_eq pins s σ H _ _ u1 u2 Q I r1 r2 ⟨rfl, by rw [dI]; exact fin p⟩
    · cases rx.str; cases ry.str
      exact op_eq pins s σ H _ _ u1 u2 Q I r1 r2 ⟨rfl, by rw [dS]; exact fin p⟩
    · split at p
      · rename_i c
        exact op_eqD hu pins s σ H _ _ u1 u2 Q I r1 r2 ⟨_, _, rx.dp ok (okD_sh c.1).1, ry.dp ok (okD_sh c.2).1, (okD_sh c.1).2, (okD_sh c.2).2, fin p⟩
      · exact hO pins s σ H W h x y v w u1 u2 Q I r1 r2 ok rx ry p
  · -- NotEq
    split at p
    · cases rx.int; cases ry.int
      exact op_ne pins s σ H _ _ u1 u2 Q I r1 r2 ⟨rfl, by rw [dI]; exact fin p⟩
    · cases rx.str; cases ry.str
      exact op_ne pins s σ H _ _ u1 u2 Q I r1 r2 ⟨rfl, by rw [dS]; exact fin p⟩
    · split at p
      · rename_i c
        exact op_neD hu pins s σ H _ _ u1 u2 Q I r1 r2 ⟨_, _, rx.dp ok (okD_sh c.1).1, ry.dp ok (okD_sh c.2).1, (okD_sh c.1).2, (okD_sh c.2).2, fin p⟩
      · exact hO pins s σ H W h x y v w u1 u2 Q I r1 r2 ok rx ry p
  · split at p
    · cases rx.int; cases ry.int
      exact op_lt pins s σ H _ _ u1 u2 Q I r1 r2 ⟨_, _, rfl, rfl, fin p⟩
    · exact p.elim
  · split at p
    · cases rx.int; cases ry.int
      exact op_le pins s σ H _ _ u1 u2 Q I r1 r2 ⟨_, _, rfl, rfl, fin p⟩
    · exact p.elim
  · split at p
    · cases rx.int; cases ry.int
      exact op_gt pins s σ H _ _ u1 u2 Q I r1 r2 ⟨_, _, rfl, rfl, fin p⟩
    · exact p.elim
  · split at p
    · cases rx.int; cases ry.int
      exact op_ge pins s σ H _ _ u1 u2 Q I r1 r2 ⟨_, _, rfl, rfl, fin p⟩
    · exact p.elim
  · split at p
    · cases ry.non
      exact op_isN pins s σ H _ _ u1 u2 Q I r1 r2 ⟨rfl, by rw [Rb_isN rx]; exact fin p⟩
    · exact p.elim
  · split at p
    · cases ry.non
      exact op_notN pins s σ H _ _ u1 u2 Q I r1 r2 ⟨rfl, by rw [Rb_isN rx]; exact fin p⟩
    · exact p.elim
  · -- In
    split at p
    · cases rx.str; cases ry.str
      split at p
      · rename_i c
        exact op_in_sign pins s σ H _ _ u1 u2 Q I r1 r2 ⟨_, _, congrArg V.str (headD_sign c), rfl, fin p⟩
      · exact p.elim
    · rename_i ds
      split at p
      · rename_i c
        obtain ⟨a, vs, rfl, ha, hr⟩ := ry.lst ok
        have rx' := flD_rb c.1 rx
        refine op_in_seq pins s σ H _ _ u1 u2 Q I r1 r2 ⟨a, vs, rfl, .inl (SqL.of ha), flD_v c.1 rx', flD_all c.2 hr, ?_⟩
        rw [if_neg Bool.false_ne_true, inV_of c.1 rx' c.2 hr]
        exact fin p
      · exact p.elim
    · rename_i ds
      split at p
      · rename_i c
        obtain ⟨a, vs, rfl, ha, hr⟩ := ry.tup
        have rx' := flD_rb c.1 rx
        refine op_in_seq pins s σ H _ _ u1 u2 Q I r1 r2 ⟨a, vs, rfl, .inr (exSqT ok.sub ha), flD_v c.1 rx', flD_all c.2 hr, ?_⟩
        rw [if_neg Bool.false_ne_true, inV_of c.1 rx' c.2 hr]
        exact fin p
      · exact p.elim
    · rename_i ks ds
      split at p
      · rename_i k hk
        obtain ⟨a, vs, rfl, ha, hl, hr⟩ := ry.dic ok
        cases key_rb hk rx
        cases r2
        refine d_in (by omega) I (DGet.k (k := k) ha) r1 fun s3 I3 => ⟨.bl _, H, I3, rfl, ?_⟩
        rw [valV_in hl]
        exact fin p
      · exact p.elim
    · exact hO pins s σ H W h x y v w u1 u2 Q I r1 r2 ok rx ry p
  · -- NotIn
    split at p
    · exact p.elim
    · rename_i ds
      split at p
      · rename_i c
        obtain ⟨a, vs, rfl, ha, hr⟩ := ry.lst ok
        have rx' := flD_rb c.1 rx
        refine op_notIn_seq pins s σ H _ _ u1 u2 Q I r1 r2 ⟨a, vs, rfl, .inl (SqL.of ha), flD_v c.1 rx', flD_all c.2 hr, ?_⟩
        rw [if_pos rfl, inV_of c.1 rx' c.2 hr]
        exact fin p
      · exact p.elim
    · rename_i ds
      split at p
      · rename_i c
        obtain ⟨a, vs, rfl, ha, hr⟩ := ry.tup
        have rx' := flD_rb c.1 rx
        refine op_notIn_seq pins s σ H _ _ u1 u2 Q I r1 r2 ⟨a, vs, rfl, .inr (exSqT ok.sub ha), flD_v c.1 rx', flD_all c.2 hr, ?_⟩
        rw [if_pos rfl, inV_of c.1 rx' c.2 hr]
        exact fin p
      · exact p.elim
    · rename_i ks ds
      split at p
      · rename_i k hk
        obtain ⟨a, vs, rfl, ha, hl, hr⟩ := ry.dic ok
        cases key_rb hk rx
        cases r2
        refine d_notIn (by omega) I (DGet.k (k := k) ha) r1 fun s3 I3 => ⟨.bl _, H, I3, rfl, ?_⟩
        rw [valV_in hl]
        exact fin p
      · exact p.elim
    · exact hO pins s σ H W h x y v w u1 u2 Q I r1 r2 ok rx ry p
theorem se_cmp {g : D → D → M D} (hg : OpM T X (compareOp op) g) (hm : behindInMarks op b = false) (ha : SL T X a ca) (hb : SL T X b cb) : SE T X (.Compare a [op] [b] pos) (mBin g ca cb) := by
  intro ε σ W h H Q r o p
  have g1 : Go X a σ H fun v H1 => Go X b σ H1 fun w H2 => ∃ x y W2 h2, WOk X.K W2 h2 H2 ∧ Rb X W2 H2 x v ∧ Rb X W2 H2 y w ∧ Post X.K T W2 H2 σ (g x y h2) (fun d _ W' H' => ∀ v, Rp X.K W'.F W'.m d v → Q v H') :=
    ha ε σ W h H _ r o (Post.mono (Post.bnd p) (Le.rfl' o.mN) fun x h1 W1 H1 l1 o1 p1 v hv => hb ε σ W1 h1 H1 _ (r.le l1) o1 (Post.mono (Post.bnd p1) (Le.rfl' o1.mN) fun y h2 W2 H2 l2 o2 p2 w hw => ⟨x, y, W2, h2, o2, hv.mono l2, hw, p2⟩))
  intro pins s I
  exact wpAny_Compare1 (thn (g1 pins s I) fun v s1 ⟨x, H1, I1, r1, q1⟩ => thn (q1 pins s1 I1) fun u s2 ⟨y, H2, I2, r2, x', y', W2, h2, o2, hx, hy, p2⟩ => hg pins s2 σ H2 W2 h2 x' y' x y v u Q I2 r1 r2 o2 hx hy p2) hm
/-! ### tests -/
def asB (r : R D) : R Bool := r.bnd fun d h => match d with
  | .bl b => .ok b h
  | _ => .no
theorem Post.asB {W : Wd} {σ : L2.St} {r : R D} {Q : Bool → Store → Wd → Hp → Prop} (p : Post X.K T W H σ (asB r) Q) : Post X.K T W H σ r (fun d h' W' H' => ∀ v, Rp X.K W'.F W'.m d v → ∃ b, v = .bl b ∧ Q b h' W' H') := by
  cases r with
  | ex c ns ds h' => exact p
  | no => exact p
  | ok d h' =>
    intro W' H' l o v hv
    cases d <;> try (exact p.elim)
    unfold Rp at hv
    exact ⟨_, hv, p W' H' l o⟩
theorem st_cmp {g : D → D → M D} (hg : OpM T X (compareOp op) g) (hm : behindInMarks op b = false) (ha : SL T X a ca) (hb : SL T X b cb) : ST T X (.Compare a [op] [b] pos) (fun ε h => asB (mBin g ca cb ε h)) := by
  intro ε σ W h H Q r o p
  have p := Post.asB p
  have g1 : Go X a σ H fun v H1 => Go X b σ H1 fun w H2 => ∃ x y W2 h2, WOk X.K W2 h2 H2 ∧ Rb X W2 H2 x v ∧ Rb X W2 H2 y w ∧ Post X.K T W2 H2 σ (g x y h2) (fun d _ W' H' => ∀ v, Rp X.K W'.F W'.m d v → ∃ b, v = .bl b ∧ Q b H') :=
    ha ε σ W h H _ r o (Post.mono (Post.bnd p) (Le.rfl' o.mN) fun x h1 W1 H1 l1 o1 p1 v hv => hb ε σ W1 h1 H1 _ (r.le l1) o1 (Post.mono (Post.bnd p1) (Le.rfl' o1.mN) fun y h2 W2 H2 l2 o2 p2 w hw => ⟨x, y, W2, h2, o2, hv.mono l2, hw, p2⟩))
  intro pins s I
  refine wpAny_isTrue_Compare1 (thn (g1 pins s I) fun v s1 ⟨x, H1, I1, r1, q1⟩ => thn (q1 pins s1 I1) fun u s2 ⟨y, H2, I2, r2, x', y', W2, h2, o2, hx, hy, p2⟩ => thn (hg pins s2 σ H2 W2 h2 x' y' x y v u (fun v H' => ∃ b, v = .bl b ∧ Q b H') I2 r1 r2 o2 hx hy p2) fun c s3 ⟨z, H3, I3, r3, k, e, q3⟩ => ?_) hm
  subst e
  cases r3
  exact wpAny_truthy_bool ⟨H3, I3, q3⟩
/-- a value that is a truth -/
theorem st_val (hv : ∀ whole, isTrue e X.env whole = (do let v ← whole; standAt e.pos; holding [v] (truthy v))) (he : SE T X e ca) : ST T X e (fun ε h => asB (ca ε h)) := fun ε σ W h H Q r o p =>
  t_val hv (he ε σ W h H _ r o (Post.asB p))
def notB (c : Ev → M Bool) : Ev → M Bool := fun ε h => (c ε h).bnd fun b h1 => .ok (!b) h1
def andB (a b : Ev → M Bool) : Ev → M Bool := fun ε h => (a ε h).bnd fun k h1 => if k = true then b ε h1 else .ok false h1
def orB (a b : Ev → M Bool) : Ev → M Bool := fun ε h => (a ε h).bnd fun k h1 => if k = true then .ok true h1 else b ε h1
def bD (c : Ev → M Bool) : EM := fun ε h => (c ε h).bnd fun b h1 => .ok (.bl b) h1
variable {ta tb : Ev → M Bool} {es rest : List Expr}
theorem st_not (ha : ST T X a ta) : ST T X (.UnaryOp .Not a pos) (notB ta) := fun ε σ W h H Q r o p =>
  t_not (ha ε σ W h H _ r o (Post.mono (Post.bnd p) (Le.rfl' o.mN) fun b h1 W1 H1 l1 o1 p1 => p1.ok o1 o1.mN))
theorem sw_and1 (ha : ST T X a ta) : SW T X (.BoolOp .And [a] pos) ta := fun ε σ W h H Q r o p => w_and1 (ha ε σ W h H Q r o p)
theorem sw_or1 (ha : ST T X a ta) : SW T X (.BoolOp .Or [a] pos) ta := fun ε σ W h H Q r o p => w_or1 (ha ε σ W h H Q r o p)
theorem sw_and (ha : ST T X a ta) (hb : SW T X (.BoolOp .And (b :: rest) pos) tb) : SW T X (.BoolOp .And (a :: b :: rest) pos) (andB ta tb) := fun ε σ W h H Q r o p =>
  w_and (ha ε σ W h H _ r o (Post.mono (Post.bnd p) (Le.rfl' o.mN) fun k h1 W1 H1 l1 o1 p1 => by
    cases k with
    | true => exact cT (hb ε σ W1 h1 H1 _ (r.le l1) o1 (by simpa using p1))
    | false => exact cF (Post.ok (T := T) (K := X.K) (by simpa using p1) o1 o1.mN)))
theorem sw_or (ha : ST T X a ta) (hb : SW T X (.BoolOp .Or (b :: rest) pos) tb) : SW T X (.BoolOp .Or (a :: b :: rest) pos) (orB ta tb) := fun ε σ W h H Q r o p =>
  w_or (ha ε σ W h H _ r o (Post.mono (Post.bnd p) (Le.rfl' o.mN) fun k h1 W1 H1 l1 o1 p1 => by
    cases k with
    | true => exact cT (Post.ok (T := T) (K := X.K) (by simpa using p1) o1 o1.mN)
    | false => exact cF (hb ε σ W1 h1 H1 _ (r.le l1) o1 (by simpa using p1))))
theorem st_and (ha : SW T X (.BoolOp .And rest pos) ta) : ST T X (.BoolOp .And rest pos) ta := fun ε σ W h H Q r o p => t_and (ha ε σ W h H Q r o p)
theorem st_or (ha : SW T X (.BoolOp .Or rest pos) ta) : ST T X (.BoolOp .Or rest pos) ta := fun ε σ W h H Q r o p => t_or (ha ε σ W h H Q r o p)
theorem se_if (ht : ST T X c ta) (ha : SE T X a ca) (hb : SE T X b cb) : SE T X (.IfExp c a b pos) (mIf ta ca cb) := fun ε σ W h H Q r o p =>
  e_if (ht ε σ W h H _ r o (Post.mono (Post.bnd p) (Le.rfl' o.mN) fun k h1 W1 H1 l1 o1 p1 => by
    cases k with
    | true => exact cT (ha ε σ W1 h1 H1 _ (r.le l1) o1 (by simpa using p1))
    | false => exact cF (hb ε σ W1 h1 H1 _ (r.le l1) o1 (by simpa using p1))))
/-- and, or, not as values: truths -/
theorem Post.toB {W : Wd} {σ : L2.St} {c : R Bool} {Q : VK} (p : Post X.K T W H σ (c.bnd fun b h1 => .ok (.bl b) h1) (fun d _ W' H' => ∀ v, Rp X.K W'.F W'.m d v → Q v H')) : Post X.K T W H σ c (fun b _ _ H' => Q (.bl b) H') := by
  cases c with
  | ex c ns ds h' => exact p
  | no => exact p
  | ok b h' => exact fun W' H' l o => p W' H' l o _ (by unfold Rp; rfl)
/-- and, or as values: all truths -/
theorem se_one {o : BoolOp} (ha : SE T X a ca) : SE T X (.BoolOp o [a] pos) ca := fun ε σ W h H Q r ok p => e_one (ha ε σ W h H Q r ok p)
end
end Z
set_option Elab.async false
set_option linter.all false
set_option maxRecDepth 100000
set_option maxHeartbeats 4000000
namespace Z
open PySem PySem.Spec PyProof.Rows L2 G
variable {K : PySem.W.Frag} {F F' H H' : Hp} {m m' : List Addr}
/-! ### and, or, not as values -/
def mAnd (a b : EM) : EM := fun ε h => (a ε h).bnd fun d h1 => match d with
  | .bl true => b ε h1
  | .bl false => .ok (.bl false) h1
  | _ => .no
def mOr (a b : EM) : EM := fun ε h => (a ε h).bnd fun d h1 => match d with
  | .bl true => .ok (.bl true) h1
  | .bl false => b ε h1
  | _ => .no
def mNot (a : EM) : EM := fun ε h => (a ε h).bnd fun d h1 => match d with
  | .bl b => .ok (.bl (!b)) h1
  | _ => .no
/-- fields by their names -/
def lookD : List Str → List D → Str → Option D
  | n :: ns, d :: ds, f => if f = n then some d else lookD ns ds f
  | _, _, _ => none
theorem lookD_ok : ∀ {ns : List Str} {ds : List D} {vs : List V} {f : Str} {d : D}, Rps K F m ds vs → ns.length = vs.length → lookD ns ds f = some d → ∃ v, (ns.zip vs).lookup f = some v ∧ Rp K F m d v
  | [], _, _, _, _, _, _, e => by unfold lookD at e; cases e
  | n :: ns, [], _, _, _, _, _, e => by unfold lookD at e; cases e
  | n :: ns, d :: ds, _, f, d', r, hl, e => by
    unfold Rps at r
    obtain ⟨x, xs, rfl, r1, r2⟩ := r
    unfold lookD at e
    by_cases z : f = n
    · rw [if_pos z] at e
      cases e
      subst z
      exact ⟨x, by simp [List.lookup], r1⟩
    · rw [if_neg z] at e
      obtain ⟨v, h1, h2⟩ := lookD_ok r2 (by simpa using hl) e
      exact ⟨v, by rw [List.zip_cons_cons, List.lookup_cons]; simp [show (f == n) = false by simpa using z]; exact h1, h2⟩
section
variable {T : WX} {X : Cx} {a b c e o : Expr} {es rest : List Expr} {ca cb cc : EM} {pos : Pos} {op op' : CmpOp}
theorem se_and (ha : SE T X a ca) (hb : SE T X (.BoolOp .And (b :: rest) pos) cb) : SE T X (.BoolOp .And (a :: b :: rest) pos) (mAnd ca cb) := fun ε σ W h H Q r o p =>
  e_and (ha ε σ W h H _ r o (Post.mono (Post.bnd p) (Le.rfl' o.mN) fun d h1 W1 H1 l1 o1 p1 v hv => by
    cases d <;> try (exact p1.elim)
    rename_i k
    unfold Rp at hv
    refine ⟨k, hv, ?_⟩
    cases k with
    | true => exact cT (hb ε σ W1 h1 H1 _ (r.le l1) o1 p1)
    | false => exact cF (p1.ok o1 o1.mN _ (by unfold Rp; rfl))))
theorem se_or (ha : SE T X a ca) (hb : SE T X (.BoolOp .Or (b :: rest) pos) cb) : SE T X (.BoolOp .Or (a :: b :: rest) pos) (mOr ca cb) := fun ε σ W h H Q r o p =>
  e_or (ha ε σ W h H _ r o (Post.mono (Post.bnd p) (Le.rfl' o.mN) fun d h1 W1 H1 l1 o1 p1 v hv => by
    cases d <;> try (exact p1.elim)
    rename_i k
    unfold Rp at hv
    refine ⟨k, hv, ?_⟩
    cases k with
    | true => exact cT (p1.ok o1 o1.mN _ (by unfold Rp; rfl))
    | false => exact cF (hb ε σ W1 h1 H1 _ (r.le l1) o1 p1)))
theorem se_not (ha : SE T X a ca) : SE T X (.UnaryOp .Not a pos) (mNot ca) := fun ε σ W h H Q r o p =>
  e_not (ha ε σ W h H _ r o (Post.mono (Post.bnd p) (Le.rfl' o.mN) fun d h1 W1 H1 l1 o1 p1 v hv => by
    cases d <;> try (exact p1.elim)
    unfold Rp at hv
    exact ⟨_, hv, p1.ok o1 o1.mN _ (by unfold Rp; rfl)⟩))
/-! ### chains -/
def mChn (f g : D → D → M D) (a b c : EM) : Ev → M Bool := fun ε h => (a ε h).bnd fun x h1 => (b ε h1).bnd fun y h2 => (asB (f x y h2)).bnd fun k h3 => if k = true then (c ε h3).bnd fun z h4 => asB (g y z h4) else .ok false h3
theorem st_chn {f g : D → D → M D} (hf : OpM T X (compareOp op) f) (hg : OpM T X (compareOp op') g) (hm : lastMarks [op, op'] [b, c] = false) (ha : SL T X a ca) (hb : SL T X b cb) (hc : SL T X c cc) : ST T X (.Compare a [op, op'] [b, c] pos) (mChn f g ca cb cc) := by
  intro ε σ W h H Q r o p
  have g1 : Go X a σ H fun v H1 => Go X b σ H1 fun w H2 => ∃ x y W2 h2, WOk X.K W2 h2 H2 ∧ Rel X.K W2.F W2.m σ ε W2.O ∧ Rb X W2 H2 x v ∧ Rb X W2 H2 y w ∧ Post X.K T W2 H2 σ ((asB (f x y h2)).bnd fun k h3 => if k = true then (cc ε h3).bnd fun z h4 => asB (g y z h4) else .ok false h3) (fun b _ _ H' => Q b H') :=
    ha ε σ W h H _ r o (Post.mono (Post.bnd p) (Le.rfl' o.mN) fun x h1 W1 H1 l1 o1 p1 v hv => hb ε σ W1 h1 H1 _ (r.le l1) o1 (Post.mono (Post.bnd p1) (Le.rfl' o1.mN) fun y h2 W2 H2 l2 o2 p2 w hw => ⟨x, y, W2, h2, o2, (r.le l1).le l2, hv.mono l2, hw, p2⟩))
  intro pins s I
  refine isTrue_chain (thn (g1 pins s I) fun v s1 ⟨x, H1, I1, r1, q1⟩ => test_link (thn (q1 pins s1 I1) fun u s2 ⟨y, H2, I2, r2, x', y', W2, h2, o2, rl2, hx, hy, p2⟩ =>
    thn (hf pins s2 σ H2 W2 h2 x' y' x y v u (fun z H3 => ∃ (k : Bool) (h3 : Store) (W3 : Wd), z = .bl k ∧ WOk X.K W3 h3 H3 ∧ Rel X.K W3.F W3.m σ ε W3.O ∧ Rb X W3 H3 y' y ∧ Post X.K T W3 H3 σ (if k = true then (cc ε h3).bnd fun z h4 => asB (g y' z h4) else .ok false h3) (fun b _ _ H' => Q b H')) I2 r1 r2 o2 hx hy
      (Post.mono (Post.asB (Post.bnd p2)) (Le.rfl' o2.mN) fun d h3 W3 H3 l3 o3 q v hv => let ⟨k, e, q'⟩ := q v hv; ⟨k, h3, W3, e, o3, rl2.le l3, hy.mono l3, q'⟩)) fun d s3 ⟨z, H3, I3, r3, k, h3, W3, e, o3, rl3, hy3, q3⟩ => ?_)) hm
  subst e
  cases r3
  refine wpAny_truthy_bool ?_
  cases k with
  | false =>
    rw [if_neg Bool.false_ne_true] at q3
    exact ite_ff ⟨H3, I3, q3.ok o3 o3.mN⟩
  | true =>
    rw [if_pos rfl] at q3
    have gc : Go X c σ H3 fun w H4 => ∃ z W4 h4, WOk X.K W4 h4 H4 ∧ Rb X W4 H4 y' y ∧ Rb X W4 H4 z w ∧ Post X.K T W4 H4 σ (asB (g y' z h4)) (fun b _ _ H' => Q b H') := hc ε σ W3 h3 H3 _ rl3 o3 (Post.mono (Post.bnd q3) (Le.rfl' o3.mN) fun z h4 W4 H4 l4 o4 p4 w hw => ⟨z, W4, h4, o4, hy3.mono l4, hw, p4⟩)
    refine ite_tt (test_last (thn (gc pins s3 I3) fun w' s4 ⟨z', H4, I4, r4, z, W4, h4, o4, hy4, hz4, p4⟩ => thn (hg pins s4 σ H4 W4 h4 y' z y z' u w' (fun v H' => ∃ b, v = .bl b ∧ Q b H') I4 r2 r4 o4 hy4 hz4 (Post.mono (Post.asB p4) (Le.rfl' o4.mN) fun d h5 W5 H5 l5 o5 q5 v hv => q5 v hv)) fun v5 s5 ⟨z5, H5, I5, r5, k5, e5, q5⟩ => ?_))
    subst e5
    cases r5
    exact wpAny_truthy_bool ⟨H5, I5, q5⟩
end
end Z
set_option Elab.async false
set_option linter.all false
set_option maxRecDepth 100000
set_option maxHeartbeats 4000000
namespace Z
open PySem PySem.Spec PyProof.Rows L2 G
variable {K : PySem.W.Frag} {F F' H H' : Hp} {m m' : List Addr}
/-! ### calls of builtins -/
section
variable (T : WX) (X : Cx)
def Rbs (W : Wd) (H : Hp) : List D → List V → Prop
  | [], vs => vs = []
  | d :: ds, vs => ∃ x xs, vs = x :: xs ∧ Rb X W H d x ∧ Rbs W H ds xs
def SLA (es : List Expr) (c : Ev → M (List D)) : Prop := ∀ ε σ W h H Q, Rel X.K W.F W.m σ ε W.O → WOk X.K W h H → Post X.K T W H σ (c ε h) (fun ds _ W' H' => ∀ vs, Rbs X W' H' ds vs → Q vs H') → Ga X es σ H Q
def CallB (u : Value) (f : List D → M D) : Prop := ∀ pins s σ H W h ds vs us Q, Inv X pins σ H s → Vals vs us → WOk X.K W h H → Rbs X W H ds vs → Post X.K T W H σ (f ds h) (fun d _ W' H' => ∀ v, Rp X.K W'.F W'.m d v → Q v H') →
  wpAny (model X.prog X.w) X.A (call u us) (EP X pins σ Q) X.xe s
structure Fb (x : Str) (f : List D → M D) : Prop where
  ex : ∃ u, CallB T X u f ∧ Rch X x u
  g : Gl X x
  db : (x == ("__debug__" : Str)) = false
end
section
variable {T : WX} {X : Cx} {e : Expr} {es : List Expr} {c : EM} {cs : Ev → M (List D)} {p pos : Pos} {x : Str} {f : List D → M D}
theorem Rbs.mono {W W' : Wd} (l : Le W H W' H') : ∀ {ds : List D} {vs : List V}, Rbs X W H ds vs → Rbs X W' H' ds vs
  | [], _, r => by unfold Rbs at r ⊢; exact r
  | d :: ds, _, r => by
    unfold Rbs at r ⊢
    obtain ⟨x, xs, e, r1, r2⟩ := r
    exact ⟨x, xs, e, r1.mono l, Rbs.mono l r2⟩
theorem Rbs.one {W : Wd} {d : D} {vs : List V} (r : Rbs X W H [d] vs) : ∃ v, vs = [v] ∧ Rb X W H d v := by
  unfold Rbs at r
  obtain ⟨x, xs, rfl, r1, r2⟩ := r
  unfold Rbs at r2
  exact ⟨x, by rw [r2], r1⟩
theorem Rbs.two {W : Wd} {d e : D} {vs : List V} (r : Rbs X W H [d, e] vs) : ∃ v w, vs = [v, w] ∧ Rb X W H d v ∧ Rb X W H e w := by
  unfold Rbs at r
  obtain ⟨x, xs, rfl, r1, r2⟩ := r
  obtain ⟨w, rfl, r3⟩ := Rbs.one r2
  exact ⟨x, w, rfl, r1, r3⟩
theorem sla_nil : SLA T X [] mNilA := fun ε σ W h H Q r o p => a_nil (p.ok o o.mN _ (by unfold Rbs; rfl))
theorem sla_cons (ha : SL T X e c) (hr : SLA T X es cs) (hs : starEach (e :: es) X.env = (false, eval e X.env) :: starEach es X.env) : SLA T X (e :: es) (mConsA c cs) := by
  intro ε σ W h H Q r o p
  refine a_cons hs (ha ε σ W h H _ r o (Post.mono (Post.bnd p) (Le.rfl' o.mN) fun d h1 W1 H1 l1 o1 p1 v hv => ?_))
  refine hr ε σ W1 h1 H1 _ (r.le l1) o1 (Post.mono (Post.bnd p1) (Le.rfl' o1.mN) fun ds h2 W2 H2 l2 o2 p2 vs hvs => ?_)
  exact p2.ok o2 o2.mN _ (by unfold Rbs; exact ⟨v, vs, rfl, hv.mono l2, hvs⟩)
theorem se_callB (F : Fb T X x f) (he : starEach (e :: es) X.env = (false, eval e X.env) :: starEach es X.env) (hpl : (backTo pos (starEach es X.env)).any (·.1) = false)
    (ha : SLA T X (e :: es) cs) : SE T X (.Call (.Name x p) (e :: es) [] pos) (mCall f cs) := by
  intro ε σ W h H Q r o p'
  obtain ⟨u, hc, rc⟩ := F.ex
  have go : Ga X (e :: es) σ H (fun vs H1 => ∃ ds h1 W1, WOk X.K W1 h1 H1 ∧ Rbs X W1 H1 ds vs ∧ Post X.K T W1 H1 σ (f ds h1) (fun d _ W' H' => ∀ v, Rp X.K W'.F W'.m d v → Q v H')) :=
    ha ε σ W h H _ r o (Post.mono (Post.bnd p') (Le.rfl' o.mN) fun ds h1 W1 H1 l1 o1 p1 vs hvs => ⟨ds, h1, W1, o1, hvs, p1⟩)
  intro pins s I
  cases rc with
  | own hm hk => exact wpAny_Call_Name_kw (ld_glob I F.g hm (PySem.W.callWith_K (h₀ := X.base) I.ok.mod.kin hk (thn (go pos pins s I) fun us s1 ⟨vs, H1, I1, r, ds, h1, W1, o1, hvs, q⟩ => ⟨I1.kIn, hc pins s1 σ H1 W1 h1 ds vs us Q I1 r o1 hvs q⟩) he hpl) F.db)
  | blt bn => exact wpAny_Call_Name_kw (ld_blt I F.g bn.m bn.b (PyProof.Rows.callWith_builtin1 (thn (go pos pins s I) fun us s1 ⟨vs, H1, I1, r, ds, h1, W1, o1, hvs, q⟩ => hc pins s1 σ H1 W1 h1 ds vs us Q I1 r o1 hvs q) he hpl) bn.nn F.db)
  | typ bn => exact wpAny_Call_Name_kw (ld_blt I F.g bn.m bn.b (PyProof.Rows.callWith_type1 (thn (go pos pins s I) fun us s1 ⟨vs, H1, I1, r, ds, h1, W1, o1, hvs, q⟩ => hc pins s1 σ H1 W1 h1 ds vs us Q I1 r o1 hvs q) he hpl) bn.nn F.db)
theorem fb_b {id : String} (hc : CallB T X (.builtin id) f) (bn : Bn X x (.builtin id)) : Fb T X x f := ⟨⟨_, hc, .blt bn⟩, bn.g, bn.db⟩
theorem fb_t {id : String} (hc : CallB T X (.type id) f) (bn : Bn X x (.type id)) : Fb T X x f := ⟨⟨_, hc, .typ bn⟩, bn.g, bn.db⟩
/-! ### len, abs, int, str, tuple, list, all, any, max, min, sum -/
def bLen (ds : List D) : M D := fun h => match ds with
  | [.str s] => if s.length ≤ 1000000 then .ok (.int s.length) h else .no
  | [.lst xs] => .ok (.int xs.length) h
  | [.tup xs] => .ok (.int xs.length) h
  | [.scr ns] => .ok (.int ns.length) h
  | [.dic ks _] => .ok (.int ks.length) h
  | _ => .no
theorem len_ok : CallB T X (.builtin "len") bLen := by
  intro pins s σ H W h ds vs us Q I r ok rb p
  unfold bLen at p
  split at p
  · obtain ⟨v, rfl, hv⟩ := rb.one
    cases hv.str
    split at p
    · rename_i c
      exact call_len pins s σ H _ us Q I r ⟨_, _, rfl, ⟨Nat.le_trans c sizeL, rfl⟩, p.ok ok ok.mN _ (by unfold Rp; rfl)⟩
    · exact p.elim
  · obtain ⟨v, rfl, hv⟩ := rb.one
    obtain ⟨a, ws, rfl, ha, hr⟩ := hv.lst ok
    refine call_len pins s σ H _ us Q I r ⟨_, _, rfl, .inl ⟨ws, SqL.of ha, rfl⟩, p.ok ok ok.mN _ (by unfold Rp; rw [hr.len])⟩
  · obtain ⟨v, rfl, hv⟩ := rb.one
    obtain ⟨a, ws, rfl, ha, hr⟩ := hv.tup
    refine call_len pins s σ H _ us Q I r ⟨_, _, rfl, .inr ⟨ws, exSqT ok.sub ha, rfl⟩, p.ok ok ok.mN _ (by unfold Rp; rw [hr.len])⟩
  · obtain ⟨v, rfl, hv⟩ := rb.one
    have hv := hv.rp (by simp) (by simp)
    unfold Rp at hv
    obtain ⟨a, rfl, ha⟩ := hv
    refine call_len pins s σ H _ us Q I r ⟨_, _, rfl, .inl ⟨_, exSqL ok.sub ha, rfl⟩, p.ok ok ok.mN _ (by unfold Rp; rw [List.length_map])⟩
  · obtain ⟨v, rfl, hv⟩ := rb.one
    obtain ⟨a, ws, rfl, ha, hl, hr⟩ := hv.dic ok
    exact call_lenD pins s σ H _ us Q I r ⟨a, _, rfl, ha, p.ok ok ok.mN _ (by unfold Rp; rw [List.length_zip, ← hl, Nat.min_self])⟩
  · exact p.elim
def bAbs (O : D → M D) (ds : List D) : M D := fun h => match ds with
  | [.int i] => .ok (.int (if i < 0 then -i else i)) h
  | [d] => O d h
  | _ => .no
/-- an operation on one own object -/
def OneM (T : WX) (X : Cx) (u : Value) (g : D → M D) : Prop := ∀ pins s σ H W h d v us Q, Inv X pins σ H s → Vals [v] us → WOk X.K W h H → Rb X W H d v → Post X.K T W H σ (g d h) (fun d _ W' H' => ∀ v, Rp X.K W'.F W'.m d v → Q v H') → wpAny (model X.prog X.w) X.A (call u us) (EP X pins σ Q) X.xe s
def no1 : D → M D := fun _ _ => .no
theorem no1_ok {u : Value} : OneM T X u no1 := fun _ _ _ _ _ _ _ _ _ _ _ _ _ _ p => p.elim
theorem abs_ok {O : D → M D} (hO : OneM T X (.builtin "abs") O) : CallB T X (.builtin "abs") (bAbs O) := by
  intro pins s σ H W h ds vs us Q I r ok rb p
  unfold bAbs at p
  split at p
  · obtain ⟨v, rfl, hv⟩ := rb.one
    cases hv.int
    exact call_abs pins s σ H _ us Q I r ⟨_, rfl, p.ok ok ok.mN _ (by unfold Rp; rfl)⟩
  · obtain ⟨v, rfl, hv⟩ := rb.one
    exact hO pins s σ H W h _ v us Q I r ok hv p
  · exact p.elim
def bInt (ds : List D) : M D := fun h => match ds with
  | [.int i] => .ok (.int i) h
  | [.bl b] => .ok (.int (b2 b)) h
  | [.str s] => if s.length ≤ 640 then (match PySem.intText? s with
    | some n => .ok (.int n) h
    | none => .no) else .no
  | _ => .no
theorem int_ok : CallB T X (.type "int") bInt := by
  intro pins s σ H W h ds vs us Q I r ok rb p
  unfold bInt at p
  split at p
  · obtain ⟨v, rfl, hv⟩ := rb.one
    cases hv.int
    exact call_int1 pins s σ H _ us Q I r (.inl ⟨_, rfl, p.ok ok ok.mN _ (by unfold Rp; rfl)⟩)
  · obtain ⟨v, rfl, hv⟩ := rb.one
    cases hv.bl
    exact call_int1 pins s σ H _ us Q I r (.inr ⟨_, rfl, p.ok ok ok.mN _ (by unfold Rp; rfl)⟩)
  · obtain ⟨v, rfl, hv⟩ := rb.one
    cases hv.str
    split at p
    · rename_i c
      split at p
      · rename_i n e
        exact call_int_str pins s σ H _ us Q I r ⟨_, _, rfl, e, c, p.ok ok ok.mN _ (by unfold Rp; rfl)⟩
      · exact p.elim
    · exact p.elim
  · exact p.elim
def bStr (O : D → M D) (ds : List D) : M D := fun h => match ds with
  | [.int i] => if i.natAbs.log2 < 1920 then .ok (.str (toString i)) h else .no
  | [.str s] => .ok (.str s) h
  | [d] => O d h
  | _ => .no
theorem str_ok {O : D → M D} (hO : OneM T X (.type "str") O) : CallB T X (.type "str") (bStr O) := by
  intro pins s σ H W h ds vs us Q I r ok rb p
  unfold bStr at p
  split at p
  · obtain ⟨v, rfl, hv⟩ := rb.one
    cases hv.int
    split at p
    · rename_i c
      exact call_str_int pins s σ H _ us Q I r ⟨_, rfl, c, p.ok ok ok.mN _ (by unfold Rp; rfl)⟩
    · exact p.elim
  · obtain ⟨v, rfl, hv⟩ := rb.one
    cases hv.str
    exact SkE.call_str_str pins s σ H _ us Q I r ⟨_, rfl, p.ok ok ok.mN _ (by unfold Rp; rfl)⟩
  · obtain ⟨v, rfl, hv⟩ := rb.one
    exact hO pins s σ H W h _ v us Q I r ok hv p
  · exact p.elim
def bTup (ds : List D) : M D := fun h => match ds with
  | [.lst xs] => .ok (.tup xs) h
  | [.tup xs] => .ok (.tup xs) h
  | _ => .no
theorem tup_ok : CallB T X (.type "tuple") bTup := by
  intro pins s σ H W h ds vs us Q I r ok rb p
  unfold bTup at p
  split at p
  · obtain ⟨v, rfl, hv⟩ := rb.one
    obtain ⟨a, ws, rfl, ha, hr⟩ := hv.lst ok
    refine call_tuple_of pins s σ H _ us Q I r ⟨a, ws, rfl, .inl ⟨SqL.of ha, fun l hl => ?_⟩⟩
    exact p.lay ok (fun z F' e hz => by unfold Rp; exact ⟨z, _, rfl, SqT.of hz, Rps.mono e ⟨[], by simp⟩ _ hr⟩) hl
  · obtain ⟨v, rfl, hv⟩ := rb.one
    obtain ⟨a, ws, rfl, ha, hr⟩ := hv.tup
    exact call_tuple_of pins s σ H _ us Q I r ⟨a, ws, rfl, .inr ⟨exSqT ok.sub ha, p.ok ok ok.mN _ (by unfold Rp; exact ⟨a, ws, rfl, ha, hr⟩)⟩⟩
  · exact p.elim
def bLst (ds : List D) : M D := fun h => match ds with
  | [.lst xs] => .ok (.lst xs) h
  | [.tup xs] => .ok (.lst xs) h
  | _ => .no
theorem lst_ok : CallB T X (.type "list") bLst := by
  intro pins s σ H W h ds vs us Q I r ok rb p
  unfold bLst at p
  split at p
  · obtain ⟨v, rfl, hv⟩ := rb.one
    obtain ⟨a, ws, rfl, ha, hr⟩ := hv.lst ok
    refine call_list_of pins s σ H _ us Q I r ⟨a, ws, rfl, .inl (SqL.of ha), fun l hl => ?_⟩
    exact p.lay ok (fun z F' e hz => by unfold Rp; exact ⟨z, _, rfl, hz, Rps.mono e ⟨[], by simp⟩ _ hr⟩) hl
  · obtain ⟨v, rfl, hv⟩ := rb.one
    obtain ⟨a, ws, rfl, ha, hr⟩ := hv.tup
    refine call_list_of pins s σ H _ us Q I r ⟨a, ws, rfl, .inr (exSqT ok.sub ha), fun l hl => ?_⟩
    exact p.lay ok (fun z F' e hz => by unfold Rp; exact ⟨z, _, rfl, hz, Rps.mono e ⟨[], by simp⟩ _ hr⟩) hl
  · exact p.elim
/-- the truths | the ints that these are -/
def blsD : List D → Option (List Bool)
  | [] => some []
  | .bl b :: ds => (blsD ds).map (b :: ·)
  | _ => none
def intsD : List D → Option (List Int)
  | [] => some []
  | .int b :: ds => (intsD ds).map (b :: ·)
  | _ => none
def strsD : List D → Option (List Str)
  | [] => some []
  | .str b :: ds => (strsD ds).map (b :: ·)
  | _ => none
theorem blsD_v : ∀ {ds : List D} {bs : List Bool} {vs : List V}, blsD ds = some bs → Rps K F m ds vs → vs = bs.map V.bl
  | [], _, _, e, r => by unfold blsD at e; cases e; unfold Rps at r; exact r
  | d :: ds, _, _, e, r => by
    unfold Rps at r
    obtain ⟨x, xs, rfl, r1, r2⟩ := r
    cases d <;> unfold blsD at e <;> try (cases e; done)
    cases q : blsD ds with
    | none => rw [q] at e; cases e
    | some bs =>
      rw [q] at e
      cases e
      unfold Rp at r1
      rw [r1, blsD_v q r2]
      rfl
theorem intsD_v : ∀ {ds : List D} {bs : List Int} {vs : List V}, intsD ds = some bs → Rps K F m ds vs → vs = bs.map V.int
  | [], _, _, e, r => by unfold intsD at e; cases e; unfold Rps at r; exact r
  | d :: ds, _, _, e, r => by
    unfold Rps at r
    obtain ⟨x, xs, rfl, r1, r2⟩ := r
    cases d <;> unfold intsD at e <;> try (cases e; done)
    cases q : intsD ds with
    | none => rw [q] at e; cases e
    | some bs =>
      rw [q] at e
      cases e
      unfold Rp at r1
      rw [r1, intsD_v q r2]
      rfl
theorem strsD_v : ∀ {ds : List D} {bs : List Str} {vs : List V}, strsD ds = some bs → Rps K F m ds vs → vs = bs.map V.str
  | [], _, _, e, r => by unfold strsD at e; cases e; unfold Rps at r; exact r
  | d :: ds, _, _, e, r => by
    unfold Rps at r
    obtain ⟨x, xs, rfl, r1, r2⟩ := r
    cases d <;> unfold strsD at e <;> try (cases e; done)
    cases q : strsD ds with
    | none => rw [q] at e; cases e
    | some bs =>
      rw [q] at e
      cases e
      unfold Rp at r1
      rw [r1, strsD_v q r2]
      rfl
def bAll (ds : List D) : M D := fun h => match ds with
  | [.lst xs] => (match blsD xs with
    | some bs => .ok (.bl (bs.all id)) h
    | none => .no)
  | _ => .no
def bAny (ds : List D) : M D := fun h => match ds with
  | [.lst xs] => (match blsD xs with
    | some bs => .ok (.bl (bs.any id)) h
    | none => .no)
  | _ => .no
theorem all_ok (hc : X.calm = true) : CallB T X (.builtin "all") bAll := by
  intro pins s σ H W h ds vs us Q I r ok rb p
  unfold bAll at p
  split at p
  · split at p
    · rename_i bs e
      obtain ⟨v, rfl, hv⟩ := rb.one
      obtain ⟨a, ws, rfl, ha, hr⟩ := hv.lst ok
      exact cr_all hc pins s σ H _ us Q I r ⟨a, bs, rfl, by rw [← blsD_v e hr]; exact SqL.of ha, p.ok ok ok.mN _ (by unfold Rp; rfl)⟩
    · exact p.elim
  · exact p.elim
theorem any_ok (hc : X.calm = true) : CallB T X (.builtin "any") bAny := by
  intro pins s σ H W h ds vs us Q I r ok rb p
  unfold bAny at p
  split at p
  · split at p
    · rename_i bs e
      obtain ⟨v, rfl, hv⟩ := rb.one
      obtain ⟨a, ws, rfl, ha, hr⟩ := hv.lst ok
      exact cr_any hc pins s σ H _ us Q I r ⟨a, bs, rfl, by rw [← blsD_v e hr]; exact SqL.of ha, p.ok ok ok.mN _ (by unfold Rp; rfl)⟩
    · exact p.elim
  · exact p.elim
def bMax (ds : List D) : M D := fun h => match ds with
  | [.int i, .int j] => .ok (.int (if j > i then j else i)) h
  | [.lst xs] => (match intsD xs with
    | some (n :: ns) => .ok (.int (ns.foldl max n)) h
    | _ => .no)
  | _ => .no
def bMin (ds : List D) : M D := fun h => match ds with
  | [.int i, .int j] => .ok (.int (if j < i then j else i)) h
  | [.lst xs] => (match intsD xs with
    | some (n :: ns) => .ok (.int (ns.foldl min n)) h
    | _ => .no)
  | _ => .no
theorem foldl_max_mem : ∀ (ns : List Int) (n : Int), ns.foldl max n ∈ n :: ns ∧ ∀ y ∈ n :: ns, y ≤ ns.foldl max n
  | [], n => ⟨by simp, by simp⟩
  | k :: ns, n => by
    obtain ⟨h1, h2⟩ := foldl_max_mem ns (max n k)
    rw [List.foldl_cons]
    refine ⟨?_, fun y hy => ?_⟩
    · rcases List.mem_cons.mp h1 with e | e
      · rw [e]
        rcases Int.le_total n k with z | z
        · rw [Int.max_eq_right z]; simp
        · rw [Int.max_eq_left z]; simp
      · simp [e]
    · have h3 := h2 (max n k) (by simp)
      rcases List.mem_cons.mp hy with rfl | hy
      · omega
      · rcases List.mem_cons.mp hy with rfl | hy
        · omega
        · exact h2 y (by simp [hy])
theorem foldl_min_mem : ∀ (ns : List Int) (n : Int), ns.foldl min n ∈ n :: ns ∧ ∀ y ∈ n :: ns, ns.foldl min n ≤ y
  | [], n => ⟨by simp, by simp⟩
  | k :: ns, n => by
    obtain ⟨h1, h2⟩ := foldl_min_mem ns (min n k)
    rw [List.foldl_cons]
    refine ⟨?_, fun y hy => ?_⟩
    · rcases List.mem_cons.mp h1 with e | e
      · rw [e]
        rcases Int.le_total n k with z | z
        · rw [Int.min_eq_left z]; simp
        · rw [Int.min_eq_right z]; simp
      · simp [e]
    · have h3 := h2 (min n k) (by simp)
      rcases List.mem_cons.mp hy with rfl | hy
      · omega
      · rcases List.mem_cons.mp hy with rfl | hy
        · omega
        · exact h2 y (by simp [hy])
def bSum (ds : List D) : M D := fun h => match ds with
  | [.lst xs] => (match intsD xs with
    | some ns => .ok (.int ns.sum) h
    | none => .no)
  | _ => .no
theorem sum_ok (hc : X.calm = true) : CallB T X (.builtin "sum") bSum := by
  intro pins s σ H W h ds vs us Q I r ok rb p
  unfold bSum at p
  split at p
  · split at p
    · rename_i bs e
      obtain ⟨v, rfl, hv⟩ := rb.one
      obtain ⟨a, ws, rfl, ha, hr⟩ := hv.lst ok
      exact cr_sum hc pins s σ H _ us Q I r ⟨a, bs, rfl, by rw [← intsD_v e hr]; exact SqL.of ha, p.ok ok ok.mN _ (by unfold Rp; rfl)⟩
    · exact p.elim
  · exact p.elim
theorem max_ok (hc : X.calm = true) : CallB T X (.builtin "max") bMax := by
  intro pins s σ H W h ds vs us Q I r ok rb p
  unfold bMax at p
  split at p
  · obtain ⟨v, w, rfl, hv, hw⟩ := rb.two
    cases hv.int
    cases hw.int
    exact call_max2 hc pins s σ H _ us Q I r ⟨_, _, rfl, p.ok ok ok.mN _ (by unfold Rp; rfl)⟩
  · split at p
    · rename_i n ns e
      obtain ⟨v, rfl, hv⟩ := rb.one
      obtain ⟨a, ws, rfl, ha, hr⟩ := hv.lst ok
      refine cr_max hc pins s σ H _ us Q I r ⟨a, n :: ns, rfl, by rw [← intsD_v e hr]; exact SqL.of ha, by simp, fun m hm hle => ?_⟩
      obtain ⟨g1, g2⟩ := foldl_max_mem ns n
      have : m = ns.foldl max n := Int.le_antisymm (g2 m hm) (hle _ g1)
      subst this
      exact p.ok ok ok.mN _ (by unfold Rp; rfl)
    · exact p.elim
  · exact p.elim
end
end Z
set_option Elab.async false
set_option linter.all false
set_option maxRecDepth 100000
set_option maxHeartbeats 4000000
namespace Z
open PySem PySem.Spec PyProof.Rows L2 G
variable {K : PySem.W.Frag} {F F' H H' : Hp} {m m' : List Addr}
section
variable {T : WX} {X : Cx} {a b c e o : Expr} {es : List Expr} {ca cb : EM} {cs : Ev → M (List D)} {p pos apos : Pos} {x : Str} {f : List D → M D}
theorem min_ok (hc : X.calm = true) : CallB T X (.builtin "min") bMin := by
  intro pins s σ H W h ds vs us Q I r ok rb p
  unfold bMin at p
  split at p
  · obtain ⟨v, w, rfl, hv, hw⟩ := rb.two
    cases hv.int
    cases hw.int
    exact call_min2 hc pins s σ H _ us Q I r ⟨_, _, rfl, p.ok ok ok.mN _ (by unfold Rp; rfl)⟩
  · split at p
    · rename_i n ns e
      obtain ⟨v, rfl, hv⟩ := rb.one
      obtain ⟨a, ws, rfl, ha, hr⟩ := hv.lst ok
      refine cr_min hc pins s σ H _ us Q I r ⟨a, n :: ns, rfl, by rw [← intsD_v e hr]; exact SqL.of ha, by simp, fun m hm hle => ?_⟩
      obtain ⟨g1, g2⟩ := foldl_min_mem ns n
      have : m = ns.foldl min n := Int.le_antisymm (hle _ g1) (g2 m hm)
      subst this
      exact p.ok ok ok.mN _ (by unfold Rp; rfl)
    · exact p.elim
  · exact p.elim
/-! ### isinstance -/
inductive TK where
  | b (n : String) | c (c : Str)
  deriving DecidableEq
def TK.v (K : PySem.W.Frag) : TK → Value
  | .b n => .type n
  | .c c => .ref (ga K c)
def tkD : D → Option TK
  | .non => some (.b "NoneType") | .bl _ => some (.b "bool") | .int _ => some (.b "int") | .str _ => some (.b "str")
  | .tup _ => some (.b "tuple") | .lst _ => some (.b "list") | .dic _ _ => some (.b "dict") | .obj c _ _ => some (.c c)
  | _ => none
def tkC : D → Option TK
  | .ty n => some (.b n) | .cls c => some (.c c)
  | _ => none
def lookT (t : List (TK × TK × Bool)) (k u : TK) : Option Bool := match t with
  | [] => none
  | (k', u', b) :: r => if k' = k ∧ u' = u then some b else lookT r k u
def bIsi (t : List (TK × TK × Bool)) (ds : List D) : M D := fun h => match ds with
  | [x, y] => (match tkD x, tkC y with
    | some k, some u => (match lookT t k u with
      | some b => .ok (.bl b) h
      | none => .no)
    | _, _ => .no)
  | _ => .no
theorem lookT_mem : ∀ {t : List (TK × TK × Bool)} {k u : TK} {b : Bool}, lookT t k u = some b → (k, u, b) ∈ t
  | [], _, _, _, e => by unfold lookT at e; cases e
  | (k', u', b') :: r, k, u, b, e => by
    unfold lookT at e
    split at e
    · rename_i z
      obtain ⟨rfl, rfl⟩ := z
      cases e
      exact List.mem_cons_self
    · exact List.mem_cons_of_mem _ (lookT_mem e)
/-- facts of an own class -/
structure CF (K : PySem.W.Frag) (c : Str) : Prop where
  cl : Cls K (ga K c)
  ca : PySem.W.plainGet K (ga K c) "__class__" = true
  cn : PySem.W.findIn K (.ref (ga K c)) "__class__" = some (some (.builtin "object.__class__"))
  cm : PySem.W.mroIn K (ga K c) (.type "object") = some true
theorem tk_ty {W : Wd} {h : Store} {d : D} {v : V} {k : TK} (ok : WOk X.K W h H) (r : Rb X W H d v) (e : tkD d = some k) (hc : ∀ c ns ds, d = .obj c ns ds → ∀ a dx gs, H a = some (.ins (ga X.K c) dx gs) → TyX X.K H (.ref a) (.ref (ga X.K c))) : TyX X.K H v (k.v X.K) := by
  cases d <;> unfold tkD at e <;> try (cases e; done)
  all_goals cases e
  · cases r.non; exact .base .non
  · cases r.bl; exact .base (.bl _)
  · cases r.int; exact .base (.int _)
  · cases r.str; exact .base (.str _)
  · obtain ⟨a, vs, rfl, ha, _⟩ := r.tup
    rcases exSqT ok.sub ha with h | ⟨o, its, n, e1, e2, _⟩
    · rcases h with h | ⟨ob, h⟩
      · exact .base (.tup h)
      · exact .fTuple h
    · exact .kTuple e1 e2
  · obtain ⟨a, vs, rfl, ha, _⟩ := r.lst ok
    exact .base (.lst ha)
  · have r := r.rp (by simp) (by simp)
    unfold Rp at r
    obtain ⟨a, dx, vs, rfl, h1, _⟩ := r
    exact hc _ _ _ rfl a dx _ (ok.sub _ _ h1)
  · obtain ⟨a, vs, rfl, ha, _⟩ := r.dic ok
    exact .base (.dK ha)
theorem isi_ok {t : List (TK × TK × Bool)} (ht : ∀ k u b, (k, u, b) ∈ t → PySem.W.kitOne X.K (k.v X.K) (u.v X.K) = some b) (hc : ∀ (c : Str) (u : TK) b, (TK.c c, u, b) ∈ t → ∀ H a dx gs, H a = some (HO.ins (ga X.K c) dx gs) → TyX X.K H (.ref a) (.ref (ga X.K c))) : CallB T X (.builtin "isinstance") (bIsi t) := by
  intro pins s σ H W h ds vs us Q I r ok rb p
  unfold bIsi at p
  split at p
  · rename_i x y
    obtain ⟨v, w, rfl, hv, hw⟩ := rb.two
    split at p
    · rename_i k u e1 e2
      split at p
      · rename_i bb e3
        have hm := lookT_mem e3
        have ty := tk_ty ok hv e1 (fun c ns ds e a dx gs hh => by
          subst e
          unfold tkD at e1
          cases e1
          exact hc c u bb hm H a dx gs hh)
        have cv : ClsV w (u.v X.K) := by
          have hw := hw.rp (fun ds e => by subst e; cases e2) (fun ks ds e => by subst e; cases e2)
          cases y <;> unfold tkC at e2 <;> try (cases e2; done)
          all_goals cases e2
          · unfold Rp at hw; subst hw; exact .ty _
          · unfold Rp at hw; subst hw; exact .own _
        exact call_isi pins s σ H _ us Q I r ⟨v, w, _, _, bb, rfl, cv, ty, ht _ _ _ hm, p.ok ok ok.mN _ (by unfold Rp; rfl)⟩
      · exact p.elim
    · exact p.elim
  · exact p.elim
/-- a builtin class, an own class as a value; a module's constant -/
theorem se_ty {n : String} (bn : Bn X x (.type n)) : SE T X (.Name x pos) (mLit (.ty n)) := fun ε σ W h H Q r o p => e_blt (v := .ty n) bn rfl (p.ok o o.mN _ (by unfold Rp; rfl))
theorem se_glo {d : D} {v : V} (g : Gn X x v) (hd : ∀ F m, Rp X.K F m d v) : SE T X (.Name x pos) (mLit d) := fun ε σ W h H Q r o p => e_glob g (p.ok o o.mN _ (hd _ _))
/-! ### fields -/
def mAtt (cs : List Str) (f : Str) (g : D → M D) (c : EM) : EM := fun ε h => (c ε h).bnd fun d h1 => match d with
  | .obj c ns ds => if c ∈ cs then (match lookD ns ds f with
    | some x => .ok x h1
    | none => .no) else g d h1
  | .cell i => (match h1[i]? with
    | some (.obj c ns ds) => if c ∈ cs then (match lookD ns ds f with
      | some x => .ok x h1
      | none => .no) else .no
    | _ => .no)
  | _ => .no
/-- what a class has besides: a property, a constant -/
def AttM (T : WX) (X : Cx) (f : Str) (g : D → M D) : Prop := ∀ pins s σ H W h d v u Q, Inv X pins σ H s → RelV v u → WOk X.K W h H → Rp X.K W.F W.m d v → Post X.K T W H σ (g d h) (fun d _ W' H' => ∀ v, Rp X.K W'.F W'.m d v → Q v H') → wpAny (model X.prog X.w) X.A (getAttr u f true) (EP X pins σ Q) X.xe s
theorem noA_ok {f : Str} : AttM T X f no1 := fun _ _ _ _ _ _ _ _ _ _ _ _ _ _ p => p.elim
theorem se_att {cl : List Str} {f : Str} {g : D → M D} (hcl : ∀ c ∈ cl, Cls X.K (ga X.K c) ∧ NoAttr X.K (ga X.K c) f) (hg : AttM T X f g) (hb : attributeBase o f X.env (eval o X.env) = eval o X.env) (ho : SE T X o ca) : SE T X (.Attribute o f pos) (mAtt cl f g ca) := by
  intro ε σ W h H Q r ok p
  have g1 : Go X o σ H fun v H1 => ∃ d h1 W1, WOk X.K W1 h1 H1 ∧ Rp X.K W1.F W1.m d v ∧ Post X.K T W1 H1 σ (match d with
      | .obj c ns ds => if c ∈ cl then (match lookD ns ds f with
        | some x => .ok x h1
        | none => .no) else g d h1
      | .cell i => (match h1[i]? with
        | some (.obj c ns ds) => if c ∈ cl then (match lookD ns ds f with
          | some x => .ok x h1
          | none => .no) else .no
        | _ => .no)
      | _ => .no) (fun d _ W' H' => ∀ v, Rp X.K W'.F W'.m d v → Q v H') := ho ε σ W h H _ r ok (Post.mono (Post.bnd p) (Le.rfl' ok.mN) fun d h1 W1 H1 l1 o1 p1 v hv => ⟨d, h1, W1, o1, hv, p1⟩)
  intro pins s I
  refine attr_of hb (thn (g1 pins s I) fun u s1 ⟨v, H1, I1, r1, d, h1, W1, o1, hv, p1⟩ => ?_)
  split at p1
  · rename_i c ns ds
    split at p1
    · rename_i hc
      obtain ⟨k1, k2⟩ := hcl c hc
      split at p1
      · rename_i d' e'
        unfold Rp at hv
        obtain ⟨q, dx, vs, rfl, e1, e2, e3⟩ := hv
        obtain ⟨v', l, rv⟩ := lookD_ok e3 e2 e'
        cases r1
        exact getattr_ok I1 (o1.sub _ _ e1) k1 k2 l fun u s' I' r' => ⟨v', H1, I', r', p1.ok o1 o1.mN _ rv⟩
      · exact p1.elim
    · exact hg pins s1 σ H1 W1 h1 _ v u Q I1 r1 o1 hv p1
  · rename_i i
    split at p1
    · rename_i c ns ds eh
      split at p1
      · rename_i hc
        obtain ⟨k1, k2⟩ := hcl c hc
        split at p1
        · rename_i d' e'
          unfold Rp at hv
          obtain ⟨q, rfl, em⟩ := hv
          obtain ⟨dx, vs, e1, e2, e3⟩ := o1.cel i q _ em eh
          obtain ⟨v', l, rv⟩ := lookD_ok e3 e2 e'
          cases r1
          exact getattr_ok I1 e1 k1 k2 l fun u s' I' r' => ⟨v', H1, I', r', p1.ok o1 o1.mN _ rv⟩
        · exact p1.elim
      · exact p1.elim
    · exact p1.elim
  · exact p1.elim
/-! ### subscripts -/
def getK (ks : List Key) (ds : List D) (k : Key) : Option D := match ks, ds with
  | q :: ks, d :: ds => if q = k then some d else getK ks ds k
  | _, _ => none
theorem getK_v : ∀ {ks : List Key} {ds : List D} {vs : List V} {k : Key} {d : D}, getK ks ds k = some d → ks.length = vs.length → Rps K F m ds vs → ∃ v, valV (ks.zip vs) k = some v ∧ Rp K F m d v
  | [], _, _, _, _, e, _, _ => by unfold getK at e; cases e
  | _ :: _, [], _, _, _, e, _, _ => by unfold getK at e; cases e
  | q :: ks, d :: ds, _, k, d', e, hl, r => by
    unfold Rps at r
    obtain ⟨x, xs, rfl, r1, r2⟩ := r
    unfold getK at e
    by_cases z : q = k
    · rw [if_pos z] at e
      cases e
      exact ⟨x, by rw [List.zip_cons_cons]; exact valV_pos z, r1⟩
    · rw [if_neg z] at e
      obtain ⟨v, h1, h2⟩ := getK_v e (by simpa using hl) r2
      exact ⟨v, by rw [List.zip_cons_cons, valV_neg z]; exact h1, h2⟩
def ixD (x y : D) : M D := fun h => match x, y with
  | .lst ds, .int i => (match atI ds i with
    | some d => .ok d h
    | none => .no)
  | .tup ds, .int i => (match atI ds i with
    | some d => .ok d h
    | none => .no)
  | .scr ns, .int i => (match atI ns i with
    | some n => .ok (.int n) h
    | none => .no)
  | .str s, .int i => if s.length ≤ 1000000 then (match atI s.cps.toList i with
    | some c => .ok (.str ⟨#[c]⟩) h
    | none => .no) else .no
  | .dic ks ds, y => (match keyD y with
    | some k => (match getK ks ds k with
      | some d => .ok d h
      | none => .no)
    | none => .no)
  | .cell j, .int i => (match h[j]? with
    | some (.lst ds) => (match atI ds i with
      | some d => .ok d h
      | none => .no)
    | _ => .no)
  | _, _ => .no
theorem atI_rps {ds : List D} {vs : List V} {i : Int} {d : D} (r : Rps K F m ds vs) (e : atI ds i = some d) : ∃ v, atI vs i = some v ∧ Rp K F m d v := by
  unfold atI at e ⊢
  rw [← r.len]
  cases q : ixN ds.length i with
  | none => rw [q] at e; cases e
  | some j =>
    rw [q] at e
    exact r.get e
theorem atI_map {α β : Type} {f : α → β} {xs : List α} {i : Int} {x : α} (e : atI xs i = some x) : atI (xs.map f) i = some (f x) := by
  unfold atI at e ⊢
  rw [List.length_map]
  cases q : ixN xs.length i with
  | none => rw [q] at e; cases e
  | some j =>
    rw [q] at e
    show (xs.map f)[j]? = _
    rw [List.getElem?_map, show xs[j]? = some x from e]
    rfl
theorem tail_get {prog : Program} {w : World} {A : Around} {E : Value → Shared → Prop} {s₂ : Shared} {value slice : Expr} {T id : String} {o i : Value} {Q : Value → Shared → Prop} (hT : s₂.TypeIs o T)
    (hl : typeLookup (.type T) "__getitem__" = pure (some (.builtin id))) (hs : subscripted slice false o i = operate [o, i] (getItem o i)) (h : wpAny (model prog w) A (getItem o i) Q E s₂) : wpAny (model prog w) A (subscriptTail value slice o i) Q E s₂ := by
  unfold subscriptTail
  refine wpAny_bind ?_
  rw [getitemInPython_of_ne hT.not_modules]
  refine wpAny_bind (wpAny_specialOf hT hl ?_)
  have fin : wpAny (model prog w) A (subscripted slice false o i) (fun r s₃ => wpAny (model prog w) A (letTemporaryGo value o r >>= fun _ => pure r) Q E s₃) E s₂ := by
    rw [hs]
    exact wpAny_operating (wpAny_mono h (fun r s₃ h₃ => wpAny_bind (wpAny_letTemporaryGo (wpAny_pure h₃))) fun _ _ x => x)
  first
    | exact wpAny_pure (wpAny_bind fin)
    | exact wpAny_bind (wpAny_pure (wpAny_bind fin))
    | exact wpAny_bind fin
theorem se_ix (hu : X.A.units + 64 < cLine) (hs : PlainIx b) (ha : SL T X a ca) (hb : SL T X b cb) : SE T X (.Subscript a b pos) (mBin ixD ca cb) := by
  intro ε σ W h H Q r o p
  have g1 : Go X a σ H fun v H1 => Go X b σ H1 fun w H2 => ∃ x y W2 h2, WOk X.K W2 h2 H2 ∧ Rb X W2 H2 x v ∧ Rb X W2 H2 y w ∧ Post X.K T W2 H2 σ (ixD x y h2) (fun d _ W' H' => ∀ v, Rp X.K W'.F W'.m d v → Q v H') :=
    ha ε σ W h H _ r o (Post.mono (Post.bnd p) (Le.rfl' o.mN) fun x h1 W1 H1 l1 o1 p1 v hv => hb ε σ W1 h1 H1 _ (r.le l1) o1 (Post.mono (Post.bnd p1) (Le.rfl' o1.mN) fun y h2 W2 H2 l2 o2 p2 w hw => ⟨x, y, W2, h2, o2, hv.mono l2, hw, p2⟩))
  intro pins s I
  refine Subscript_ (thn (g1 pins s I) fun v s1 ⟨x, H1, I1, r1, q1⟩ => thn (q1 pins s1 I1) fun u s2 ⟨y, H2, I2, r2, x', y', W2, h2, o2, hx, hy, p2⟩ => ?_)
  unfold ixD at p2
  split at p2
  · rename_i ds i
    obtain ⟨q, vs, rfl, hq, hr⟩ := hx.lst o2
    cases hy.int
    split at p2
    · rename_i d e
      obtain ⟨v', e', rv⟩ := atI_rps hr e
      exact ix_list a b pins s2 σ H2 _ _ v u Q I2 r1 r2 ⟨q, vs, i, v', rfl, rfl, SqL.of hq, e', p2.ok o2 o2.mN _ rv⟩ (hs _ _)
    · exact p2.elim
  · rename_i ds i
    obtain ⟨q, vs, rfl, hq, hr⟩ := hx.tup
    cases hy.int
    split at p2
    · rename_i d e
      obtain ⟨v', e', rv⟩ := atI_rps hr e
      exact ix_tup a b pins s2 σ H2 _ _ v u Q I2 r1 r2 ⟨q, vs, i, v', rfl, rfl, exSqT o2.sub hq, e', p2.ok o2 o2.mN _ rv⟩ (hs _ _)
    · exact p2.elim
  · rename_i ns i
    have hx := hx.rp (by simp) (by simp)
    unfold Rp at hx
    obtain ⟨q, rfl, hq⟩ := hx
    cases hy.int
    split at p2
    · rename_i d e
      exact ix_list a b pins s2 σ H2 _ _ v u Q I2 r1 r2 ⟨q, _, i, .int d, rfl, rfl, exSqL o2.sub hq, atI_map e, p2.ok o2 o2.mN _ (by unfold Rp; rfl)⟩ (hs _ _)
    · exact p2.elim
  · rename_i z i
    cases hx.str
    cases hy.int
    split at p2
    · rename_i hl
      split at p2
      · rename_i c e
        exact ix_str a b pins s2 σ H2 _ _ v u Q I2 r1 r2 ⟨z, i, c, rfl, rfl, Nat.le_trans hl sizeL, e, p2.ok o2 o2.mN _ (by unfold Rp; rfl)⟩ (hs _ _)
      · exact p2.elim
    · exact p2.elim
  · rename_i ks ds
    split at p2
    · rename_i k ek
      split at p2
      · rename_i d e
        obtain ⟨q, vs, rfl, hq, hl, hr⟩ := hx.dic o2
        obtain ⟨v', e', rv⟩ := getK_v e hl hr
        cases key_rb ek hy
        cases r1
        have g : DGet H2 q (kV k) (some v') := by rw [← e']; exact DGet.k hq
        exact tail_get (dict_typeIs I2 g) PySem.F.slot_dict_getitem.lookup (hs _ _) (d_getItem (by omega) I2 g r2 fun w' s3 I3 rw' => ⟨v', H2, I3, rw', p2.ok o2 o2.mN _ rv⟩)
      · exact p2.elim
    · exact p2.elim
  · rename_i j i
    have hx := hx.rp (by simp) (by simp)
    unfold Rp at hx
    obtain ⟨q, rfl, hq⟩ := hx
    cases hy.int
    split at p2
    · rename_i ds eh
      split at p2
      · rename_i d e
        obtain ⟨vs, hq', hr⟩ := o2.cel j q _ hq eh
        obtain ⟨v', e', rv⟩ := atI_rps hr e
        exact ix_list a b pins s2 σ H2 _ _ v u Q I2 r1 r2 ⟨q, vs, i, v', rfl, rfl, SqL.of hq', e', p2.ok o2 o2.mN _ rv⟩ (hs _ _)
      · exact p2.elim
    · exact p2.elim
  · exact p2.elim
end
end Z
set_option Elab.async false
set_option linter.all false
set_option maxRecDepth 100000
set_option maxHeartbeats 4000000
namespace Z
open PySem PySem.Spec PyProof.Rows L2 G
variable {K : PySem.W.Frag} {F F' H H' : Hp} {m m' : List Addr}
/-! ### targets -/
inductive Tg where
  | n (i : Nat) | t (ts : List Tg)
mutual
def asT : Tg → D → Ev → Option Ev
  | .n i, d, ε => some (ε.set i (.pu d))
  | .t ts, .tup ds, ε => asTs ts ds ε
  | .t ts, .lst ds, ε => asTs ts ds ε
  | _, _, _ => none
def asTs : List Tg → List D → Ev → Option Ev
  | [], [], ε => some ε
  | t :: ts, d :: ds, ε => match asT t d ε with
    | some ε' => asTs ts ds ε'
    | none => none
  | _, _, _ => none
end
mutual
def Tg.js : Tg → List Nat
  | .n i => [i]
  | .t ts => Tg.jss ts
def Tg.jss : List Tg → List Nat
  | [] => []
  | q :: qs => q.js ++ Tg.jss qs
end
def Ggs (X : Cx) (tgs : List Expr) : TGs := fun vs σ H Q => ∀ pins s us, Inv X pins σ H s → Vals vs us → wpAny (model X.prog X.w) X.A (assignInOrder ((assignEach tgs X.env).map (·.2)) us) (fun _ s' => ∃ σ' H', Inv X pins σ' H' s' ∧ Q σ' H') X.xe s
theorem pgs {X : Cx} {tgs : List Expr} : PGs X tgs (Ggs X tgs) := ⟨fun pins s σ H vs us Q I r h => h pins s us I r⟩
/-- behind a target: the world is the same but for what names own -/
structure Aft (K : PySem.W.Frag) (W : Wd) (σ : L2.St) (h : Store) (H : Hp) (js : List Nat) (ε' : Ev) (σ' : L2.St) (W' : Wd) : Prop where
  rel : Rel K W'.F W'.m σ' ε' W'.O
  ok : WOk K W' h H
  F : W'.F = W.F
  m : W'.m = W.m
  O : ∀ (j : Nat) a u, W'.O[j]? = some (some (a, u)) → W.O[j]? = some (some (a, u))
  s : ∀ j, j ∉ js → σ'[j]? = σ[j]?
  l : σ'.length = σ.length
theorem Aft.lg {W W' : Wd} {σ σ' : L2.St} {h : Store} {js : List Nat} {ε' : Ev} (a : Aft K W σ h H js ε' σ' W') (ok : WOk K W h H) : Lg W H W' H :=
  ⟨by rw [a.F]; exact Ex.rfl', fun _ _ e _ _ => e, fun _ _ e => .inl (by rw [← a.F]; exact e), ⟨[], by rw [a.m]; simp, fun _ q => by cases q⟩, fun j b u e => .inr ⟨j, u, a.O j b u e⟩, ok.mN, fun i b u e => by rw [(ok.own i b u e).1]; simp, fun j b C dx gs e => ⟨gs, a.O j b _ e⟩⟩
theorem Aft.tr {W W1 W2 : Wd} {σ σ1 σ2 : L2.St} {h : Store} {js ks : List Nat} {ε1 ε2 : Ev} (a : Aft K W σ h H js ε1 σ1 W1) (b : Aft K W1 σ1 h H ks ε2 σ2 W2) : Aft K W σ h H (js ++ ks) ε2 σ2 W2 :=
  ⟨b.rel, b.ok, b.F.trans a.F, b.m.trans a.m, fun j x u e => a.O j x u (b.O j x u e), fun j hj => by rw [b.s j fun z => hj (List.mem_append_right _ z), a.s j fun z => hj (List.mem_append_left _ z)], b.l.trans a.l⟩
section
variable (X : Cx)
def STg (tg : Expr) (t : Tg) : Prop := ∀ ε σ W h H v d ε' Q, Rel X.K W.F W.m σ ε W.O → WOk X.K W h H → Rp X.K W.F W.m d v → asT t d ε = some ε' → (∀ σ' W', Aft X.K W σ h H t.js ε' σ' W' → Q σ' H) → Gg X tg v σ H Q
def STs (tgs : List Expr) (ts : List Tg) : Prop := ∀ ε σ W h H vs ds ε' Q, Rel X.K W.F W.m σ ε W.O → WOk X.K W h H → Rps X.K W.F W.m ds vs → asTs ts ds ε = some ε' → (∀ σ' W', Aft X.K W σ h H (Tg.jss ts) ε' σ' W' → Q σ' H) → Ggs X tgs vs σ H Q
end
section
variable {X : Cx} {tg : Expr} {tgs : List Expr} {t : Tg} {ts : List Tg} {i : Nat} {x : Str} {pos : Pos}
theorem tg_n (w : Sw X i x) : STg X (.Name x pos) (.n i) := by
  intro ε σ W h H v d ε' Q r ok rv e k
  unfold asT at e
  cases e
  refine g_name w (st_ok rfl (k _ ⟨W.F, W.m, W.O.set i none⟩ ⟨r.set (show SR _ _ _ _ (.pu d) none from ⟨rfl, v, rfl, rv⟩), ok.drop i, rfl, rfl, fun j a u e => own_set e, fun j hj => ?_, by simp⟩))
  unfold Tg.js at hj
  rw [List.getElem?_set_ne (fun z => hj (by simp [z]))]
theorem ts_nil : STs X [] [] := by
  intro ε σ W h H vs ds ε' Q r ok rv e k pins s us I rr
  cases ds with
  | cons d ds => unfold asTs at e; cases e
  | nil =>
    unfold asTs at e
    cases e
    unfold Rps at rv
    subst rv
    exact pgs_nil.run pins s σ H _ us Q I rr ⟨rfl, k _ W ⟨r, ok, rfl, rfl, fun _ _ _ z => z, fun _ _ => rfl, rfl⟩⟩
theorem ts_cons (h1 : STg X tg t) (h2 : STs X tgs ts) (hs : (assignEach (tg :: tgs) X.env).map (·.2) = assign tg X.env :: (assignEach tgs X.env).map (·.2)) : STs X (tg :: tgs) (t :: ts) := by
  intro ε σ W h H vs ds ε' Q r ok rv e k pins s us I rr
  cases ds with
  | nil => unfold asTs at e; cases e
  | cons d ds =>
    unfold asTs at e
    cases q : asT t d ε with
    | none => rw [q] at e; cases e
    | some ε1 =>
      rw [q] at e
      unfold Rps at rv
      obtain ⟨v, vs', rfl, r1, r2⟩ := rv
      refine (pgs_cons pg pgs hs).run pins s σ H _ us Q I rr ⟨v, vs', rfl, h1 ε σ W h H v d ε1 _ r ok r1 q fun σ1 W1 a1 => ?_⟩
      exact h2 ε1 σ1 W1 h H vs' ds ε' Q a1.rel a1.ok (by rw [a1.F, a1.m]; exact r2) e fun σ2 W2 a2 => k σ2 W2 (by unfold Tg.jss; exact a1.tr a2)
theorem tg_t {kk : Nat} {n : Nat} (hc : X.calm = true) (h1 : STs X tgs ts) (hn : (assignEach tgs X.env).length = n) (hl : ts.length = n) (hst : (assignEach tgs X.env).findIdx? (·.1) = none) : STg X (.Tuple tgs kk pos) (.t ts) := by
  have al : ∀ (ts : List Tg) (ds : List D) (ε ε' : Ev), asTs ts ds ε = some ε' → ds.length = ts.length := by
    intro ts
    induction ts with
    | nil =>
      intro ds ε ε' e
      cases ds with
      | nil => rfl
      | cons d ds => unfold asTs at e; cases e
    | cons t ts ih =>
      intro ds ε ε' e
      cases ds with
      | nil => unfold asTs at e; cases e
      | cons d ds =>
        unfold asTs at e
        split at e
        · simp [ih ds _ _ e]
        · cases e
  intro ε σ W h H v d ε' Q r ok rv e k
  cases d <;> unfold asT at e <;> try (cases e; done)
  · rename_i ds
    unfold Rp at rv
    obtain ⟨a, vs, rfl, ha, hr⟩ := rv
    exact gg (pg_tup hc pgs hn hst) ⟨a, vs, rfl, exSqT ok.sub ha, by rw [← hr.len, al _ _ _ _ e, hl], h1 ε σ W h H vs ds ε' Q r ok hr e fun σ' W' a' => k σ' W' (by unfold Tg.js; exact a')⟩
  · rename_i ds
    unfold Rp at rv
    obtain ⟨a, vs, rfl, ha, hr⟩ := rv
    exact gg (pg_unl hc pgs hn hst) ⟨a, vs, rfl, SqL.of (ok.sub _ _ ha), by rw [← hr.len, al _ _ _ _ e, hl], h1 ε σ W h H vs ds ε' Q r ok hr e fun σ' W' a' => k σ' W' (by unfold Tg.js; exact a')⟩
end
/-- a, b = e -/
def mAsgT (t : Tg) (c : EM) : SC := fun ε h => (c ε h).up ε fun d h1 => match asT t d ε with
  | some ε' => .ok (.nx ε') h1
  | none => .no
theorem ss_asgT {T : WX} {X : Cx} {tg e : Expr} {t : Tg} {c : EM} {pos : Pos} (hs : swapsWithSole [tg] e pos.line X.env = pure false) (hw : swappedStores [tg] e X.env = pure none) (h1 : (assignEach [tg] X.env).map (·.2) = [assign tg X.env]) (ht : STg X tg t) (he : SE T X e c) : SS T X (.Assign [tg] e pos) (mAsgT t c) := by
  intro ε σ W h H E r o p
  refine s_asg hs hw h1 (he ε σ W h H _ r o (Post.mono (PostS.up p o r) (Le.rfl' o.mN) fun d h1 W1 H1 l1 o1 p1 v hv => ?_))
  split at p1
  · rename_i ε' e'
    exact ht ε σ W1 h1 H1 v d ε' _ (r.le l1) o1 hv e' fun σ' W' a => p1 _ _ _ (a.lg o1) a.ok a.rel
  · exact p1.elim
/-- a, b = x, y of local names -/
def mPar (i j : Nat) (c : Ev → M (List D)) : SC := fun ε h => (c ε h).up ε fun ds h1 => match ds with
  | [x, y] => .ok (.nx ((ε.set i (.pu x)).set j (.pu y))) h1
  | _ => .no
theorem ss_par {T : WX} {X : Cx} {i j : Nat} {x y : Str} {px py pt' pos : Pos} {a b : Expr} {kt k2 pt2} {c : Ev → M (List D)} (hc : X.calm = true) (w1 : Sw X i x) (w2 : Sw X j y) (hij : i ≠ j) (hx : X.env.scope.names.lookup x = some .local) (hy : X.env.scope.names.lookup y = some .local)
    (hw : swappedStores [.Tuple [.Name x px, .Name y py] kt pt'] (.Tuple [a, b] k2 pt2) X.env = pure (some [x, y])) (hs : swapsWithSole [.Tuple [.Name x px, .Name y py] kt pt'] (.Tuple [a, b] k2 pt2) pos.line X.env = pure false) (ha : SA T X [a, b] c) :
    SS T X (.Assign [.Tuple [.Name x px, .Name y py] kt pt'] (.Tuple [a, b] k2 pt2) pos) (mPar i j c) := by
  intro ε σ W h H E r o p
  refine s_par hc w1 w2 hij hx hy hw hs (ha ε σ W h H _ r o (Post.mono (PostS.up p o r) (Le.rfl' o.mN) fun ds h1 W1 H1 l1 o1 p1 vs hvs => ?_))
  split at p1
  · rename_i d e
    unfold Rps at hvs
    obtain ⟨v, vs', rfl, r1, r2⟩ := hvs
    unfold Rps at r2
    obtain ⟨w, vs2, rfl, r3, r4⟩ := r2
    unfold Rps at r4
    subst r4
    refine ⟨v, w, rfl, st_ok rfl (st_ok rfl (p1 _ ⟨W1.F, W1.m, (W1.O.set i none).set j none⟩ _ ((Lg.drop o1 i).tr (Lg.drop (W := ⟨W1.F, W1.m, W1.O.set i none⟩) (o1.drop i) j)) ((o1.drop i).drop j) ?_))⟩
    exact ((r.le l1).set (show SR _ _ _ _ (.pu d) none from ⟨rfl, v, rfl, r1⟩)).set (show SR _ _ _ _ (.pu e) none from ⟨rfl, w, rfl, r3⟩)
  · exact p1.elim
/-! ### what is walked -/
structure ItOk (K : PySem.W.Frag) (b : Bool) (W : Wd) (J : It) (ds : List D) : Prop where
  ex : ∃ G Y, Walk J ds.length G Y ∧ (∀ W1 h1 H1, Ex W.F W1.F → (∃ k, W1.m = W.m ++ k) → (b = true → W1.O = W.O) → WOk K W1 h1 H1 → G H1) ∧
    ∀ (i : Nat) x H1 H2 W1 h1 d, Ex W.F W1.F → (∃ k, W1.m = W.m ++ k) → (b = true → W1.O = W.O) → WOk K W1 h1 H1 → ds[i]? = some d → Y i H1 x H2 → ∃ W2, Le W1 H1 W2 H2 ∧ WOk K W2 h1 H2 ∧ Rp K W2.F W2.m d x
def SI (T : WX) (X : Cx) (b : Bool) (tg e : Expr) (c : Ev → M (List D)) : Prop := ∀ ε σ W h H R, Rel X.K W.F W.m σ ε W.O → WOk X.K W h H → Post X.K T W H σ (c ε h) (fun ds _ W' H' => ∀ J, ItOk X.K b W' J ds → R J H') → Gi X tg e σ H R
def itD (c : EM) : Ev → M (List D) := fun ε h => (c ε h).bnd fun d h1 => match d with
  | .lst ds => .ok ds h1
  | .tup ds => .ok ds h1
  | .scr ns => .ok (ns.map .int) h1
  | .str s => .ok (s.cps.toList.map fun c => .str ⟨#[c]⟩) h1
  | _ => .no
def rngD (a b : Int) : List D := (List.range (b - a).toNat).map fun (i : Nat) => .int (a + (i : Int))
def itR1 (c : EM) : Ev → M (List D) := fun ε h => (c ε h).bnd fun d h1 => match d with
  | .int n => if -1000000 ≤ n ∧ n ≤ 1000000 then .ok (rngD 0 n) h1 else .no
  | _ => .no
section
variable {T : WX} {X : Cx} {b : Bool} {tg e a : Expr} {c : EM} {pos p : Pos}
theorem it_list {pins : List (Addr × Obj)} {σ : L2.St} {s : Shared} {R : It → Hp → Prop} {xs : List V} {q : Addr} (I : Inv X pins σ H s) (hq : SqL X.K H q xs) (hR : R (Itl X.K q) H) : wpAny (model X.prog X.w) X.A (pyIter (.ref q)) (PIE X pins σ tg R) X.xe s := by
  obtain ⟨its, rv, p, hz⟩ := I.list hq
  refine wpAny_pyIter_list p.isList ?_
  refine ⟨s.heap.objs.size, [s.heap.objs.size], _, _, H, rfl, I.kept (t' := s.toks) fun b o e => Heap.get?_push_of_some _ e, turn_list q _, ⟨_, Heap.get?_push_size _ rfl, rfl, rfl⟩, fun b hb => ?_, hR⟩
  have e : b = s.heap.objs.size := by simpa using hb
  subst e
  exact I.fpOk (Nat.le_refl _) (I.hok.fresh (Nat.le_refl _))
theorem it_tup {pins : List (Addr × Obj)} {σ : L2.St} {s : Shared} {R : It → Hp → Prop} {xs : List V} {q : Addr} (I : Inv X pins σ H s) (hq : SqT X.K H q xs) (hR : R (Itt X.K q) H) : wpAny (model X.prog X.w) X.A (pyIter (.ref q)) (PIE X pins σ tg R) X.xe s := by
  obtain ⟨its, rv, p, hz⟩ := I.tuple hq
  refine wpAny_pyIter_tuple (show s.heap.IsTuple q its.toArray from p) ?_
  refine ⟨s.heap.objs.size, [s.heap.objs.size], _, _, H, rfl, I.kept (t' := s.toks) fun b o e => Heap.get?_push_of_some _ e, turn_tuple q _, ⟨_, Heap.get?_push_size _ rfl, rfl, rfl⟩, fun b hb => ?_, hR⟩
  have e : b = s.heap.objs.size := by simpa using hb
  subst e
  exact I.fpOk (Nat.le_refl _) (I.hok.fresh (Nat.le_refl _))
theorem it_str {pins : List (Addr × Obj)} {σ : L2.St} {s : Shared} {R : It → Hp → Prop} {x : Str} {t : Tok} (I : Inv X pins σ H s) (hR : R (Its x) H) : wpAny (model X.prog X.w) X.A (pyIter (.str x t)) (PIE X pins σ tg R) X.xe s := by
  cases ha : x.cps.all (· < 128)
  · exact wpAny_pyIter_wide ha (pi_one (tk := s.toks) I _ (turn_str _ x t "str_iterator" (.inr rfl)) ⟨_, Heap.get?_push_size _ rfl, rfl, rfl⟩ hR)
  · exact wpAny_pyIter_ascii ha (pi_one (tk := s.toks) I _ (turn_str _ x t "str_ascii_iterator" (.inl rfl)) ⟨_, Heap.get?_push_size _ rfl, rfl, rfl⟩ hR)
theorem itok_at {W : Wd} {J : It} {ds : List D} {vs : List V} {G : Hp → Prop} (w : Walk J ds.length G (YAt vs)) (hG : ∀ W1 h1 H1, Ex W.F W1.F → (∃ k, W1.m = W.m ++ k) → (b = true → W1.O = W.O) → WOk K W1 h1 H1 → G H1) (hr : Rps K W.F W.m ds vs) : ItOk K b W J ds := by
  refine ⟨G, _, w, hG, ?_⟩
  rintro i x H1 H2 W1 h1 d e1 e2 _ o1 hd ⟨rfl, hx⟩
  obtain ⟨v, hv, rv⟩ := hr.get hd
  rw [hx] at hv
  cases hv
  exact ⟨W1, Le.rfl' o1.mN, o1, Rp.mono e1 e2 _ rv⟩
theorem ints_rps {ns : List Int} : Rps K F m (ns.map .int) (ns.map V.int) := by
  induction ns with
  | nil => exact Rps.nil
  | cons n ns ih => exact Rps.cons (by unfold Rp; rfl) ih
theorem si_of (g : ∀ (ε : Ev) (σ : L2.St) (W : Wd) (h : Store) (H : Hp) (R : It → Hp → Prop), Rel X.K W.F W.m σ ε W.O → WOk X.K W h H → Post X.K T W H σ (itD c ε h) (fun ds _ W' H' => ∀ J, ItOk X.K b W' J ds → R J H') → Go X e σ H (fun v H1 => ∃ d W1 h1, WOk X.K W1 h1 H1 ∧ Rb X W1 H1 d v ∧ (b = false → Rp X.K W1.F W1.m d v) ∧ Post X.K T W1 H1 σ (match d with
  | .lst ds => .ok ds h1
  | .tup ds => .ok ds h1
  | .scr ns => .ok (ns.map .int) h1
  | .str s => .ok (s.cps.toList.map fun c => .str ⟨#[c]⟩) h1
  | _ => .no) (fun ds _ W' H' => ∀ J, ItOk X.K b W' J ds → R J H'))) : SI T X b tg e (itD c) := by
  intro ε σ W h H R r o p
  intro pins s I
  refine thn (g ε σ W h H R r o p pins s I) fun u s1 ⟨v, H1, I1, r1, d, W1, h1, o1, hb, hf, p1⟩ => ?_
  cases d <;> try (exact p1.elim)
  · rename_i z
    cases hb.str
    obtain ⟨t, rfl⟩ := r1
    refine it_str I1 (p1.ok o1 o1.mN _ ⟨_, _, by rw [show (z.cps.toList.map fun c => D.str ⟨#[c]⟩).length = z.cps.size by simp]; exact walk_str (z := z), fun _ _ _ _ _ _ _ => trivial, ?_⟩)
    rintro i x H1 H2 W1 h1 d e1 e2 _ o1 hd ⟨rfl, c, hc, rfl⟩
    rw [List.getElem?_map, Array.getElem?_toList, hc] at hd
    cases hd
    exact ⟨W1, Le.rfl' o1.mN, o1, by unfold Rp; rfl⟩
  · rename_i ds
    obtain ⟨a, vs, rfl, ha, hr⟩ := hb.tup
    cases r1
    exact it_tup I1 (exSqT o1.sub ha) (p1.ok o1 o1.mN _ (itok_at (by rw [hr.len]; exact walk_tup) (fun W2 h2 H2 e1 _ _ o2 => exSqT o2.sub (exSqT e1 ha)) hr))
  · rename_i ds
    cases b with
    | false =>
      have hf := hf rfl
      unfold Rp at hf
      obtain ⟨a, vs, rfl, ha, hr⟩ := hf
      cases r1
      exact it_list I1 (SqL.of (o1.sub _ _ ha)) (p1.ok o1 o1.mN _ (itok_at (by rw [hr.len]; exact walk_list) (fun W2 h2 H2 e1 _ _ o2 => SqL.of (o2.sub _ _ (e1 _ _ ha))) hr))
    | true =>
      rcases hb with hf | ⟨i, q, rfl, ⟨ds', vs, e, e1, e2⟩ | ⟨_, _, _, e, _⟩⟩
      · unfold Rp at hf
        obtain ⟨a, vs, rfl, ha, hr⟩ := hf
        cases r1
        exact it_list I1 (SqL.of (o1.sub _ _ ha)) (p1.ok o1 o1.mN _ (itok_at (by rw [hr.len]; exact walk_list) (fun W2 h2 H2 e1 _ _ o2 => SqL.of (o2.sub _ _ (e1 _ _ ha))) hr))
      · cases e
        cases r1
        exact it_list I1 (SqL.of (o1.own i q _ e1).1) (p1.ok o1 o1.mN _ (itok_at (by rw [e2.len]; exact walk_list) (fun W2 h2 H2 _ _ eO o2 => SqL.of (o2.own i q _ (by rw [eO rfl]; exact e1)).1) e2))
      · cases e
  · rename_i ns
    have hb := hb.rp (by simp) (by simp)
    unfold Rp at hb
    obtain ⟨a, rfl, ha⟩ := hb
    cases r1
    exact it_list I1 (exSqL o1.sub ha) (p1.ok o1 o1.mN _ (itok_at (by simpa using walk_list (K := X.K) (a := a) (xs := ns.map V.int)) (fun W2 h2 H2 e1 _ _ o2 => exSqL o2.sub (exSqL e1 ha)) ints_rps))
theorem si_val (he : SE T X e c) : SI T X b tg e (itD c) := si_of fun ε σ W h H R r o p => he ε σ W h H _ r o (Post.mono (Post.bnd p) (Le.rfl' o.mN) fun d h1 W1 H1 l1 o1 p1 v hv => ⟨d, W1, h1, o1, .inl hv, fun _ => hv, p1⟩)
theorem si_own (he : SL T X e c) : SI T X true tg e (itD c) := si_of fun ε σ W h H R r o p => he ε σ W h H _ r o (Post.mono (Post.bnd p) (Le.rfl' o.mN) fun d h1 W1 H1 l1 o1 p1 v hv => ⟨d, W1, h1, o1, hv, (fun z => by cases z), p1⟩)
theorem si_rng1 (bn : Bn X "range" (.type "range")) (hs : starEach [a] X.env = [(false, eval a X.env)]) (ha : SE T X a c) : SI T X b tg (.Call (.Name "range" p) [a] [] pos) (itR1 c) := by
  intro ε σ W h H R r o p
  refine i_rng1 bn hs (ha ε σ W h H _ r o (Post.mono (Post.bnd p) (Le.rfl' o.mN) fun d h1 W1 H1 l1 o1 p1 v hv => ?_))
  split at p1
  · rename_i n
    split at p1
    · unfold Rp at hv
      subst hv
      refine ⟨n, rfl, by omega, by omega, p1.ok o1 o1.mN _ ⟨_, _, by rw [show (rngD 0 n).length = n.toNat by simp [rngD]]; exact walk_range (lo := 0) (n := n.toNat), fun _ _ _ _ _ _ _ => trivial, ?_⟩⟩
      rintro i x H1 H2 W1 h1 d e1 e2 _ o1 hd ⟨rfl, rfl⟩
      unfold rngD at hd
      rw [List.getElem?_map] at hd
      have hi : i < (n - 0).toNat := by
        cases q : (List.range (n - 0).toNat)[i]? with
        | none => rw [q] at hd; cases hd
        | some k => simpa using (List.getElem?_eq_some_iff.mp q).1
      rw [List.getElem?_range hi] at hd
      cases hd
      exact ⟨W1, Le.rfl' o1.mN, o1, by unfold Rp; rfl⟩
    · exact p1.elim
  · exact p1.elim
end
end Z
set_option Elab.async false
set_option linter.all false
set_option maxRecDepth 100000
set_option maxHeartbeats 4000000
namespace Z
open PySem PySem.Spec PyProof.Rows L2 G
variable {K : PySem.W.Frag} {F F' H H' : Hp} {m m' : List Addr}
/-! ### for, while -/
def loopF (t : Tg) (body : SC) : List D → SC
  | [] => fun ε h => .ok (.nx ε) h
  | d :: ds => fun ε h => match asT t d ε with
    | some ε1 => (match body ε1 h with
      | .ok (.nx ε2) h2 => loopF t body ds ε2 h2
      | .ok (.ct ε2) h2 => loopF t body ds ε2 h2
      | .ok (.bk ε2) h2 => .ok (.nx ε2) h2
      | r => r)
    | none => .no
def mFor (t : Tg) (it : Ev → M (List D)) (body : SC) : SC := fun ε h => (it ε h).up ε fun ds h1 => loopF t body ds ε h1
def loopW (t : Ev → M Bool) (body : SC) : Nat → SC
  | 0 => fun _ _ => .no
  | n + 1 => fun ε h => (t ε h).up ε fun k h1 => if k = true then (match body ε h1 with
      | .ok (.nx ε2) h2 => loopW t body n ε2 h2
      | .ok (.ct ε2) h2 => loopW t body n ε2 h2
      | .ok (.bk ε2) h2 => .ok (.nx ε2) h2
      | r => r) else .ok (.nx ε) h1
section
variable {T : WX} {X : Cx} {tg e : Expr} {t : Tg} {it : Ev → M (List D)} {ct : Ev → M Bool} {cS : SC} {body : List Stmt} {pos : Pos}
/-- what a loop's body wants: the loop goes on -/
theorem PostS.turn {W : Wd} {H : Hp} {h : Store} {E : Ends} {r : R Fw} {k : SC} (ok : WOk K W h H) (p : PostS K T W H (match r with
      | .ok (.nx ε2) h2 => k ε2 h2
      | .ok (.ct ε2) h2 => k ε2 h2
      | .ok (.bk ε2) h2 => .ok (.nx ε2) h2
      | r => r) E) {N : L2.St → Hp → Prop} (hN : ∀ ε' h' σ' W' H', Lg W H W' H' → WOk K W' h' H' → Rel K W'.F W'.m σ' ε' W'.O → PostS K T W' H' (k ε' h') E → N σ' H') : PostS K T W H r { E with nx := N, ct := N, bk := E.nx } := by
  cases r with
  | ex c ns ds h' => exact p
  | no => exact p
  | ok f h' =>
    cases f with
    | nx ε' => exact fun σ' W' H' l o r => hN ε' h' σ' W' H' l o r (PostS.lg p l)
    | rt d => exact p
    | bk ε' => exact p
    | ct ε' => exact fun σ' W' H' l o r => hN ε' h' σ' W' H' l o r (PostS.lg p l)
    | rs c ns ds ε' => exact p
theorem Lg.ix' {W0 W W' : Wd} (a : Ex W0.F W.F) (b : ∃ k, W.m = W0.m ++ k) (l : Lg W H W' H') : Ex W0.F W'.F ∧ ∃ k, W'.m = W0.m ++ k := by
  refine ⟨a.tr l.F, ?_⟩
  obtain ⟨k, e⟩ := b
  obtain ⟨n, e2, _⟩ := l.m
  exact ⟨k ++ n, by rw [e2, e, List.append_assoc]⟩
theorem ss_for (hp : PassesOwn (model X.prog X.w) X.A X.env X.xe) (hc : X.calm = true) (hs : ∀ x, foldedSetIterable e X.env x = pure x) (hi : SI T X false tg e it) (ht : STg X tg t) (hb : SB T X body cS) : SS T X (.For tg e body [] pos) (mFor t it cS) := by
  intro ε σ W h H E r o p
  refine s_for hp hc hs (hi ε σ W h H _ r o (Post.mono (PostS.up p o r) (Le.rfl' o.mN) fun ds h1 W1 H1 l1 o1 p1 J hJ => ?_))
  obtain ⟨G, Y, w, hG, hY⟩ := hJ.ex
  refine ⟨fun i m σ' H' => m = ds.length - i ∧ i ≤ ds.length ∧ ∃ ε' W' h', Ex W1.F W'.F ∧ (∃ k, W'.m = W1.m ++ k) ∧ WOk X.K W' h' H' ∧ Rel X.K W'.F W'.m σ' ε' W'.O ∧ PostS X.K T W' H' (loopF t cS (ds.drop i) ε' h') E, ⟨ds.length, by simp, Nat.zero_le _, ε, W1, h1, Ex.rfl', ⟨[], by simp⟩, o1, r.le l1, by simpa using p1⟩, ?_⟩
  rintro i m σ' H' ⟨rfl, hi, ε', W', h', e1, e2, o', r', p'⟩
  have g := hG W' h' H' e1 e2 (fun z => by cases z) o'
  by_cases hlt : i < ds.length
  · refine .inr ⟨w.goes i H' hlt g, fun σ2 H2 => ∃ ε2 W2 h2, Ex W1.F W2.F ∧ (∃ k, W2.m = W1.m ++ k) ∧ WOk X.K W2 h2 H2 ∧ Rel X.K W2.F W2.m σ2 ε2 W2.O ∧ PostS X.K T W2 H2 (loopF t cS (ds.drop (i + 1)) ε2 h2) E, fun σ2 H2 ⟨ε2, W2, h2, z⟩ => ⟨ds.length - (i + 1), by omega, rfl, hlt, ε2, W2, h2, z⟩, fun x H2 y => ?_⟩
    obtain ⟨W2, l2, o2, rv⟩ := hY i x H' H2 W' h' ds[i] e1 e2 (fun z => by cases z) o' (List.getElem?_eq_getElem hlt) (w.yields i H' x H2 hlt g y)
    have lg2 := l2.lg o'
    obtain ⟨e3, e4⟩ := Lg.ix' e1 e2 lg2
    have p2 := PostS.lg p' lg2
    rw [List.drop_eq_getElem_cons hlt] at p2
    unfold loopF at p2
    cases q : asT t ds[i] ε' with
    | none => rw [q] at p2; exact p2.elim
    | some ε3 =>
      rw [q] at p2
      refine ht ε' σ' W2 h' H2 x ds[i] ε3 _ (r'.le l2) o2 rv q fun σ3 W3 a3 => ?_
      have lg3 := a3.lg o2
      refine hb ε3 σ3 W3 h' H2 _ a3.rel a3.ok (PostS.turn a3.ok (PostS.lg p2 lg3) fun ε4 h4 σ4 W4 H4 l4 o4 r4 p4 => ?_)
      obtain ⟨e5, e6⟩ := Lg.ix' e3 e4 (lg3.tr l4)
      exact ⟨ε4, W4, h4, e5, e6, o4, r4, p4⟩
  · obtain rfl : i = ds.length := by omega
    rw [List.drop_length] at p'
    exact .inl ⟨w.stops H' g, p' σ' W' H' (Lg.rfl' o') o' r'⟩
theorem ss_while {n : Nat} (hp : PassesOwn (model X.prog X.w) X.A X.env X.xe) (ht : ST T X e ct) (hb : SB T X body cS) : SS T X (.While e body [] pos) (loopW ct cS n) := by
  intro ε σ W h H E r o p
  refine s_while hp ⟨fun m σ' H' => ∃ ε' W' h', WOk X.K W' h' H' ∧ Rel X.K W'.F W'.m σ' ε' W'.O ∧ PostS X.K T W' H' (loopW ct cS m ε' h') E, ⟨n, ε, W, h, o, r, p⟩, ?_⟩
  rintro m σ' H' ⟨ε', W', h', o', r', p'⟩
  cases m with
  | zero => exact p'.elim
  | succ m =>
    unfold loopW at p'
    refine ht ε' σ' W' h' H' _ r' o' (Post.mono (PostS.up p' o' r') (Le.rfl' o'.mN) fun k h1 W1 H1 l1 o1 p1 => ?_)
    cases k with
    | true =>
      rw [if_pos rfl] at p1
      refine cT ⟨fun σ2 H2 => ∃ ε2 W2 h2, WOk X.K W2 h2 H2 ∧ Rel X.K W2.F W2.m σ2 ε2 W2.O ∧ PostS X.K T W2 H2 (loopW ct cS m ε2 h2) E, fun σ2 H2 z => ⟨m, by omega, z⟩, ?_⟩
      exact hb ε' σ' W1 h1 H1 _ (r'.le l1) o1 (PostS.turn o1 p1 fun ε4 h4 σ4 W4 H4 l4 o4 r4 p4 => ⟨ε4, W4, h4, o4, r4, p4⟩)
    | false =>
      rw [if_neg Bool.false_ne_true] at p1
      exact cF (p1 σ' W1 H1 (Lg.rfl' o1) o1 (r'.le l1))
end
/-! ### list comprehensions -/
/-- a run from which nothing is raised -/
def calm {α : Type} (r : R α) : R α := match r with
  | .ex _ _ _ _ => .no
  | r => r
def wipeE (ε : Ev) : List Nat → Ev
  | [] => ε
  | v :: vs => (wipeE ε vs).set v .un
def mapE (t : Tg) (tst : Ev → M Bool) (elt : EM) (ε : Ev) : List D → M (List D)
  | [] => fun h => .ok [] h
  | d :: ds => fun h => match asT t d ε with
    | some ε1 => (calm (tst ε1 h)).bnd fun k h1 => if k = true then (calm (elt ε1 h1)).bnd fun y h2 => (mapE t tst elt ε ds h2).bnd fun ys h3 => .ok (y :: ys) h3 else mapE t tst elt ε ds h1
    | none => .no
def mLc (vs : List Nat) (it : Ev → M (List D)) (t : Tg) (tst : Ev → M Bool) (elt : EM) : Ev → M (List D) := fun ε h => (it ε h).bnd fun ds h1 => if ds.length ≤ 100000 then mapE t tst elt (wipeE ε vs) ds h1 else .no
def yesE : Ev → M Bool := fun _ h => .ok true h
def STf (T : WX) (X : Cx) (ifs : List Expr) (c : Ev → M Bool) : Prop := (ifs = [] ∧ c = yesE) ∨ ∃ e, ifs = [e] ∧ ST T X e c
theorem wipe_get (σ : L2.St) : ∀ (vs : List Nat) (j : Nat), (wipe σ vs)[j]? = if j ∈ vs then (if j < σ.length then some none else none) else σ[j]?
  | [], j => by simp [wipe]
  | v :: vs, j => by
    unfold wipe
    by_cases z : v = j
    · subst z
      by_cases hl : v < σ.length
      · rw [List.getElem?_set_self (by rw [wipe_length]; exact hl)]; simp [hl]
      · rw [List.getElem?_eq_none (by rw [List.length_set, wipe_length]; omega)]; simp [hl]
    · rw [List.getElem?_set_ne z, wipe_get σ vs j]
      simp [Ne.symm z]
theorem wipe_same {σ σ' : L2.St} {vs js : List Nat} (hl : σ'.length = σ.length) (h : ∀ j, j ∉ js → σ'[j]? = (wipe σ vs)[j]?) (hs : ∀ j ∈ js, j ∈ vs) : wipe σ' vs = wipe σ vs := by
  apply List.ext_getElem?
  intro j
  rw [wipe_get, wipe_get, hl]
  by_cases z : j ∈ vs
  · rw [if_pos z, if_pos z]
  · rw [if_neg z, if_neg z, h j (fun q => z (hs j q)), wipe_get, if_neg z]
theorem wipeE_len (ε : Ev) : ∀ vs : List Nat, (wipeE ε vs).length = ε.length
  | [] => rfl
  | v :: vs => by unfold wipeE; rw [List.length_set, wipeE_len ε vs]
/-- what the names own, the wiped ones left out -/
def wipeO (O : List (Option (Addr × HO))) : List Nat → List (Option (Addr × HO))
  | [] => O
  | v :: vs => (wipeO O vs).set v none
theorem Rel.wipe {σ : L2.St} {ε : Ev} {O : List (Option (Addr × HO))} (r : Rel K F m σ ε O) : ∀ vs : List Nat, Rel K F m (wipe σ vs) (wipeE ε vs) (wipeO O vs)
  | [] => r
  | v :: vs => (Rel.wipe r vs).set (show SR _ _ _ none .un none from rfl)
theorem wipeO_get {O : List (Option (Addr × HO))} {a : Addr} {u : HO} : ∀ {vs : List Nat} {j : Nat}, (wipeO O vs)[j]? = some (some (a, u)) → O[j]? = some (some (a, u))
  | [], _, e => e
  | v :: vs, j, e => wipeO_get (vs := vs) (own_set e)
/-- an inner world: the same but for what names own, less -/
theorem Aft.same {W : Wd} {h : Store} {σ : L2.St} {ε : Ev} (ok : WOk K W h H) (r : Rel K W.F W.m σ ε W.O) (vs : List Nat) : WOk K ⟨W.F, W.m, wipeO W.O vs⟩ h H ∧ Rel K W.F W.m (wipe σ vs) (wipeE ε vs) (wipeO W.O vs) := by
  refine ⟨?_, r.wipe vs⟩
  refine ⟨ok.sub, ok.len, ok.cel, ok.mF, ok.mN, ok.nd, fun i p u e => ok.own i p u (wipeO_get e), fun i j p u p' u' ne e1 e2 => ok.ond i j p u p' u' ne (wipeO_get e1) (wipeO_get e2)⟩
section
variable {T : WX} {X : Cx} {tg iter elt : Expr} {ifs : List Expr} {t : Tg} {it : Ev → M (List D)} {tst : Ev → M Bool} {ce : EM} {scope : Scope} {own : List (Str × Nat)} {pos : Pos} {b : Bool}
abbrev T0 : WX := fun _ _ _ _ => False
theorem Post.calm {α : Type} {W : Wd} {σ σ' : L2.St} {r : R α} {Q : α → Store → Wd → Hp → Prop} {T' : WX} (p : Post K T W H σ (calm r) Q) : Post K T' W H σ' r Q := by
  cases r with
  | ok a h => exact p
  | ex c ns ds h => exact p.elim
  | no => exact p
end
end Z
set_option Elab.async false
set_option linter.all false
set_option maxRecDepth 100000
set_option maxHeartbeats 4000000
namespace Z
open PySem PySem.Spec PyProof.Rows L2 G
variable {K : PySem.W.Frag} {F F' H H' : Hp} {m m' : List Addr}
theorem Le.reO {F1 F2 : Hp} {m1 m2 : List Addr} {O1 O1' : List (Option (Addr × HO))} (l : Le ⟨F1, m1, O1⟩ H ⟨F2, m2, O1'⟩ H') (O : List (Option (Addr × HO))) : Le ⟨F1, m1, O⟩ H ⟨F2, m2, O⟩ H' := ⟨l.F, l.frm, l.new, l.m, rfl, l.cel⟩
theorem WOk.reO {W : Wd} {h h' : Store} {F' : Hp} {m' : List Addr} {O' : List (Option (Addr × HO))} (ok : WOk K W h H) (l : Le W H ⟨F', m', W.O⟩ H') (o : WOk K ⟨F', m', O'⟩ h' H') : WOk K ⟨F', m', W.O⟩ h' H' := by
  refine ⟨o.sub, o.len, o.cel, o.mF, o.mN, o.nd, fun i q u e => ?_, ok.ond⟩
  obtain ⟨g1, g2, g3⟩ := ok.own i q u e
  refine ⟨l.frm _ _ g1 g3, ?_, fun hm => ?_⟩
  · show F' q = none
    cases z : F' q with
    | none => rfl
    | some u' =>
      rcases l.new _ _ z with z | z
      · rw [g2] at z; cases z
      · rw [g1] at z; cases z
  · obtain ⟨nn, en, hnn⟩ := l.m
    replace hm : q ∈ m' := hm
    rw [show m' = W.m ++ nn from en] at hm
    rcases List.mem_append.mp hm with hm | hm
    · exact g3 hm
    · rw [hnn q hm] at g1; cases g1
/-- a list that the world does not speak of is changed -/
theorem WOk.other {W : Wd} {h : Store} {p : Addr} {o : HO} (ok : WOk K W h H) (hF : W.F p = none) (hm : p ∉ W.m) (ho : ∀ (i : Nat) u, W.O[i]? ≠ some (some (p, u))) : WOk K W h (upd H p o) := by
  have ne : ∀ {a u}, W.F a = some u → a ≠ p := fun e z => by subst z; rw [hF] at e; cases e
  refine ⟨fun a u e => by rw [upd_ne (ne e)]; exact ok.sub a u e, ok.len, fun i a c e1 e2 => ?_, ok.mF, fun a ha => ?_, ok.nd, fun i q u e => ?_, ok.ond⟩
  · have na : a ≠ p := fun z => hm (z ▸ (List.mem_of_getElem? e1))
    have q := ok.cel i a c e1 e2
    cases c with
    | lst ds => exact let ⟨vs, g1, g2⟩ := q; ⟨vs, by rw [upd_ne na]; exact g1, g2⟩
    | obj c ns ds => exact let ⟨dx, vs, g1, g2, g3⟩ := q; ⟨dx, vs, by rw [upd_ne na]; exact g1, g2, g3⟩
    | dic ks ds => exact let ⟨vs, g1, g2, g3⟩ := q; ⟨vs, by rw [upd_ne na]; exact g1, g2, g3⟩
    | tab x q2 => exact ⟨q.1, q.2.mono Ex.rfl' fun o z => by rw [upd_ne na]; exact z⟩
  · have na : a ≠ p := fun z => hm (z ▸ ha)
    rw [upd_ne na]
    exact ok.mN a ha
  · obtain ⟨g1, g2, g3⟩ := ok.own i q u e
    have nq : q ≠ p := fun z => ho i u (by rw [← z]; exact e)
    exact ⟨by rw [upd_ne nq]; exact g1, g2, g3⟩
def Gts (X : Cx) (ifs : List Expr) : TT := fun σ H Q => ∀ pins s, Inv X pins σ H s → wpAny (model X.prog X.w) X.A (forIn ifs true fun c r => if r = true then do let ok ← isTrue c X.env (eval c X.env); pure (ForInStep.yield ok) else pure (ForInStep.yield r)) (TP X pins σ Q) X.xe s
theorem STf.run {T : WX} {X : Cx} {ifs : List Expr} {c : Ev → M Bool} (s : STf T X ifs c) {ε : Ev} {σ : L2.St} {W : Wd} {h : Store} {Q : Bool → Hp → Prop} (r : Rel X.K W.F W.m σ ε W.O) (o : WOk X.K W h H) (p : Post X.K T W H σ (c ε h) (fun b _ _ H' => Q b H')) : Gts X ifs σ H Q := by
  intro pins s' I
  rcases s with ⟨rfl, rfl⟩ | ⟨e, rfl, st⟩
  · exact pts_nil.run pins s' σ H Q I (p.ok o o.mN)
  · exact (pts_one pt).run pins s' σ H Q I (st ε σ W h H Q r o p)
theorem calm_nex {α : Type} {r : R α} {c : Str} {ns : List Str} {es : List D} {h : Store} : calm r ≠ .ex c ns es h := by
  cases r <;> (intro e; cases e)
theorem calm_ok {α : Type} {r : R α} {a : α} {h : Store} (e : calm r = .ok a h) : r = .ok a h := by
  cases r with
  | ok a h => exact e
  | ex c ns es h => cases e
  | no => cases e
theorem mapE_nex {t : Tg} {tst : Ev → M Bool} {ce : EM} {ε : Ev} : ∀ {ds : List D} {h : Store} {c : Str} {ns : List Str} {es : List D} {h' : Store}, mapE t tst ce ε ds h ≠ .ex c ns es h'
  | [], _, _, _, _, _ => fun e => by unfold mapE at e; cases e
  | d :: ds, h, _, _, _, _ => fun e => by
    unfold mapE at e
    cases q : asT t d ε with
    | none => rw [q] at e; cases e
    | some ε1 =>
      rw [q] at e
      dsimp only at e
      cases q1 : calm (tst ε1 h) with
      | no => rw [q1] at e; cases e
      | ex c ns es h'' => exact calm_nex q1
      | ok k h1 =>
        rw [q1] at e
        dsimp only [R.bnd] at e
        cases k with
        | false => exact mapE_nex (by simpa using e)
        | true =>
          rw [if_pos rfl] at e
          cases q2 : calm (ce ε1 h1) with
          | no => rw [q2] at e; cases e
          | ex c ns es h'' => exact calm_nex q2
          | ok y h2 =>
            rw [q2] at e
            dsimp only at e
            cases q3 : mapE t tst ce ε ds h2 with
            | no => rw [q3] at e; cases e
            | ex c ns es h'' => exact mapE_nex q3
            | ok zs h3 => rw [q3] at e; cases e
theorem mapE_step {t : Tg} {tst : Ev → M Bool} {ce : EM} {ε : Ev} {d : D} {ds : List D} {h : Store} {zs : List D} {hf : Store} (e : mapE t tst ce ε (d :: ds) h = .ok zs hf) :
    ∃ ε1 k h1, asT t d ε = some ε1 ∧ tst ε1 h = .ok k h1 ∧ ((k = false ∧ mapE t tst ce ε ds h1 = .ok zs hf) ∨ (k = true ∧ ∃ y h2 zs', ce ε1 h1 = .ok y h2 ∧ mapE t tst ce ε ds h2 = .ok zs' hf ∧ zs = y :: zs')) := by
  unfold mapE at e
  cases q : asT t d ε with
  | none => rw [q] at e; cases e
  | some ε1 =>
    rw [q] at e
    dsimp only at e
    cases q1 : calm (tst ε1 h) with
    | no => rw [q1] at e; cases e
    | ex c ns es h'' => exact absurd q1 calm_nex
    | ok k h1 =>
      rw [q1] at e
      dsimp only [R.bnd] at e
      refine ⟨ε1, k, h1, rfl, calm_ok q1, ?_⟩
      cases k with
      | false => exact .inl ⟨rfl, by simpa using e⟩
      | true =>
        rw [if_pos rfl] at e
        cases q2 : calm (ce ε1 h1) with
        | no => rw [q2] at e; cases e
        | ex c ns es h'' => exact absurd q2 calm_nex
        | ok y h2 =>
          rw [q2] at e
          dsimp only at e
          cases q3 : mapE t tst ce ε ds h2 with
          | no => rw [q3] at e; cases e
          | ex c ns es h'' => rw [q3] at e; cases e
          | ok zs' h3 =>
            rw [q3] at e
            cases e
            exact .inr ⟨rfl, y, h2, zs', calm_ok q2, q3, rfl⟩
/-- what is tracked and not of the world stays out of it -/
theorem Le.out {W W' : Wd} (l : Le W H W' H') {p : Addr} {o : HO} (h : H p = some o) (hF : W.F p = none) (hm : p ∉ W.m) : H' p = some o ∧ W'.F p = none ∧ p ∉ W'.m := by
  refine ⟨l.frm _ _ h hm, ?_, fun q => ?_⟩
  · cases z : W'.F p with
    | none => rfl
    | some u =>
      rcases l.new _ _ z with z | z
      · rw [hF] at z; cases z
      · rw [h] at z; cases z
  · obtain ⟨n, en, hn⟩ := l.m
    rw [en] at q
    rcases List.mem_append.mp q with q | q
    · exact hm q
    · rw [hn _ q] at h; cases h
section
variable {T : WX} {X : Cx} {tg iter elt : Expr} {ifs : List Expr} {t : Tg} {it : Ev → M (List D)} {tst : Ev → M Bool} {ce : EM} {scope : Scope} {own : List (Str × Nat)} {pos : Pos}
theorem lc_tell (hi : SI T X true tg iter it) (hjs : ∀ j ∈ t.js, j ∈ own.map (·.2)) (ht : ∀ Z, Blk X scope Z → STg Z tg t) (htst : ∀ Z, Blk X scope Z → STf T0 Z ifs tst) (he : ∀ Z, Blk X scope Z → SE T0 Z elt ce)
    {ε : Ev} {σ : L2.St} {W : Wd} {h : Store} {Q : VK} (r : Rel X.K W.F W.m σ ε W.O) (o : WOk X.K W h H)
    (p : Post X.K T W H σ (mLc (own.map (·.2)) it t tst ce ε h) (fun ds _ W' H' => ∀ p vs, H p = none → H' p = some (.lst vs) → W'.F p = none → p ∉ W'.m → Rps X.K W'.F W'.m ds vs → Q (.ref p) H')) :
    tLc (Gi X tg iter) (fun v σ H Q => ∀ Z, Blk X scope Z → Gg Z tg v σ H Q) (fun σ H Q => ∀ Z, Blk X scope Z → Gts Z ifs σ H Q) (fun σ H Q => ∀ Z, Blk X scope Z → Go Z elt σ H Q) (own.map (·.2)) σ H Q := by
  refine hi ε σ W h H _ r o (Post.mono (Post.bnd p) (Le.rfl' o.mN) fun ds h1 W1 H1 l1 o1 p1 J hJ => ?_)
  by_cases hl : ds.length ≤ 100000
  · rw [if_pos hl] at p1
    cases em : mapE t tst ce (wipeE ε (own.map (·.2))) ds h1 with
    | no => rw [em] at p1; exact p1.elim
    | ex c ns es h' => exact absurd em mapE_nex
    | ok total hf =>
    rw [em] at p1
    obtain ⟨G, Y, w, hG, hY⟩ := hJ.ex
    intro D0 nD
    have r1 := r.le l1
    obtain ⟨fF, fm⟩ := o1.freshF nD
    have noO : ∀ (i : Nat) u, W1.O[i]? ≠ some (some (D0, u)) := fun i u e => by have := (o1.own i D0 u e).1; rw [nD] at this; cases this
    refine lc_it (g := fun v σ H Q => ∀ Z, Blk X scope Z → Gg Z tg v σ H Q) (tt := fun σ H Q => ∀ Z, Blk X scope Z → Gts Z ifs σ H Q) (te := fun σ H Q => ∀ Z, Blk X scope Z → Go Z elt σ H Q) (vs := own.map (·.2)) (σ := σ) (H1 := H1) (D := D0) (Qd := fun H => Q (.ref D0) H) w
      (fun i H' => ∃ W' h' acc ys zs, Le W1 H1 W' H' ∧ WOk X.K W' h' H' ∧ H' D0 = some (.lst acc) ∧ W'.F D0 = none ∧ D0 ∉ W'.m ∧ Rps X.K W'.F W'.m ys acc ∧ acc.length ≤ i ∧
        mapE t tst ce (wipeE ε (own.map (·.2))) (ds.drop i) h' = .ok zs hf ∧ ys ++ zs = total)
      ?h0 ?hG ?hs ?hd
    case h0 =>
      obtain ⟨g1, g2⟩ := grow (H2 := upd H1 D0 (.lst [])) o1 (Ex.new nD)
      exact ⟨W1, h1, [], [], total, g1, g2, upd_same, fF, fm, Rps.nil, Nat.zero_le _, by rw [List.drop_zero]; exact em, rfl⟩
    case hG =>
      rintro i H' _ ⟨W', h', acc, ys, zs, l', o', _⟩
      exact hG W' h' H' l'.F l'.mx (fun _ => l'.O) o'
    case hd =>
      rintro H' ⟨W', h', acc, ys, zs, l', o', e1, e2, e3, e4, _, e6, e7⟩
      rw [List.drop_length] at e6
      unfold mapE at e6
      cases e6
      rw [List.append_nil] at e7
      subst e7
      exact p1 W' H' l' o' D0 acc (l1.fresh nD) e1 e2 e3 e4
    case hs =>
      rintro i x H2 H3 hi ⟨W', h', acc, ys, zs, l', o', e1, e2, e3, e4, e5, e6, e7⟩ hy Z hZ
      obtain ⟨W2, l2, o2, rv⟩ := hY i x H2 H3 W' h' ds[i] l'.F l'.mx (fun _ => l'.O) o' (List.getElem?_eq_getElem hi) hy
      rw [List.drop_eq_getElem_cons hi] at e6
      obtain ⟨ε1, k, h4, q1, q2, q3⟩ := mapE_step e6
      obtain ⟨f1, f2, f3⟩ := l2.out e1 e2 e3
      have l12 := l'.tr l2
      obtain ⟨oi, ri⟩ := Aft.same o2 (r1.le l12) (own.map (·.2))
      have eK : Z.K = X.K := hZ.like.K
      refine ht Z hZ (wipeE ε (own.map (·.2))) (wipe σ (own.map (·.2))) ⟨W2.F, W2.m, wipeO W2.O (own.map (·.2))⟩ h' H3 x ds[i] ε1 _ (by rw [eK]; exact ri) (by rw [eK]; exact oi) (by rw [eK]; exact rv) q1 fun σ3 W3 a3 => ?_
      rw [eK] at a3
      refine ⟨wipe_same (by rw [a3.l, wipe_length]) a3.s hjs, fun Z2 hZ2 => ?_⟩
      have eK2 : Z2.K = X.K := hZ2.like.K
      obtain ⟨F2, m2, O2⟩ := W2
      obtain ⟨F3, m3, O3⟩ := W3
      obtain rfl : F3 = F2 := a3.F
      obtain rfl : m3 = m2 := a3.m
      obtain rfl : O2 = W1.O := l12.O
      refine (htst Z2 hZ2).run (ε := ε1) (σ := σ3) (W := ⟨F3, m3, O3⟩) (h := h') (by rw [eK2]; exact a3.rel) (by rw [eK2]; exact a3.ok) ?_
      rw [eK2, q2]
      rintro ⟨F4, m4, O4⟩ H4 l4 o4
      obtain rfl : O4 = O3 := l4.O
      obtain ⟨g1, g2, g3⟩ := l4.out f1 f2 f3
      have l4' : Le ⟨F3, m3, W1.O⟩ H3 ⟨F4, m4, W1.O⟩ H4 := l4.reO W1.O
      have l14 := l12.tr l4'
      have o4' : WOk X.K ⟨F4, m4, W1.O⟩ h4 H4 := o1.reO l14 o4
      have r4 : Rps X.K F4 m4 ys acc := Rps.mono l4.F l4.mx _ (Rps.mono l2.F l2.mx _ e4)
      rcases q3 with ⟨rfl, q4⟩ | ⟨rfl, y, h5, zs', q4, q5, rfl⟩
      · rw [if_neg Bool.false_ne_true]
        exact ⟨_, h4, acc, ys, zs, l14, o4', g1, g2, g3, r4, Nat.le_succ_of_le e5, q4, e7⟩
      · rw [if_pos rfl]
        intro Z3 hZ3
        have eK3 : Z3.K = X.K := hZ3.like.K
        refine he Z3 hZ3 ε1 σ3 ⟨F4, m4, O4⟩ h4 H4 _ (by rw [eK3]; exact a3.rel.mono l4.F l4.mx) (by rw [eK3]; exact o4) ?_
        rw [eK3, q4]
        rintro ⟨F5, m5, O5⟩ H5 l5 o5 v hv
        obtain rfl : O5 = O4 := l5.O
        obtain ⟨k1, k2, k3⟩ := l5.out g1 g2 g3
        have l15 : Le W1 H1 ⟨F5, m5, W1.O⟩ H5 := l14.tr (l5.reO W1.O)
        have oX := (o1.reO l15 o5).other (p := D0) (o := .lst (acc ++ [v])) k2 k3 noO
        refine ⟨acc, k1, by have := sizeL; omega, ⟨F5, m5, W1.O⟩, h5, acc ++ [v], ys ++ [y], zs', ⟨l15.F, fun a u e hm => ?_, l15.new, l15.m, rfl, fun a ha => ?_⟩, oX, upd_same, k2, k3, (Rps.mono l5.F l5.mx _ r4).app (Rps.cons hv Rps.nil), by simp; omega, q5, by rw [← e7]; simp⟩
        · rw [upd_ne (ne_of_none e nD)]
          exact l15.frm a u e hm
        · rw [upd_ne (fun z => by subst z; exact fm ha)]
          exact l15.cel a ha
  · rw [if_neg hl] at p1
    exact p1.elim
theorem Post.frz {W : Wd} {σ : L2.St} {h : Store} {r : R (List D)} {Q' : List D → Store → Wd → Hp → Prop} (o : WOk K W h H) (p : Post K T W H σ r Q') : Post K T W H σ r (fun ds h' W' H' => ∀ a vs, H a = none → H' a = some (.lst vs) → W'.F a = none → a ∉ W'.m → Rps K W'.F W'.m ds vs → ∃ W2, Le W H W2 H' ∧ WOk K W2 h' H' ∧ Rp K W2.F W2.m (.lst ds) (.ref a) ∧ Q' ds h' W2 H') := by
  cases r with
  | no => exact p
  | ex c ns ds h' => exact p
  | ok ds h' =>
    intro W' H' l' o' a vs ha hp hF hm hr
    have no : ∀ (i : Nat) u, W'.O[i]? ≠ some (some (a, u)) := fun i u e => by
      rw [l'.O] at e
      have := (o.own i a u e).1
      rw [ha] at this; cases this
    obtain ⟨o2, ex⟩ := freeze o' hp hF hm no
    have l2 : Le W H ⟨upd W'.F a (.lst vs), W'.m, W'.O⟩ H' := ⟨l'.F.tr ex, l'.frm, fun b u e => by
      by_cases z : b = a
      · subst z; exact .inr ha
      · replace e : upd W'.F a (.lst vs) b = some u := e
        rw [upd_ne z] at e
        exact l'.new _ _ e, l'.m, l'.O, l'.cel⟩
    refine ⟨_, l2, o2, ?_, p _ _ l2 o2⟩
    unfold Rp
    exact ⟨a, vs, rfl, upd_same, Rps.mono ex ⟨[], by simp⟩ ds hr⟩
theorem sf_lc (hc : X.calm = true) (hN : X.N.Nodup) (ok : BlkOk X.N X.env.scope scope own) (hf : ∀ x, foldedSetIterable iter X.env x = pure x) (hi : SI T X true tg iter it) (hjs : ∀ j ∈ t.js, j ∈ own.map (·.2)) (ht : ∀ Z, Blk X scope Z → STg Z tg t) (htst : ∀ Z, Blk X scope Z → STf T0 Z ifs tst) (he : ∀ Z, Blk X scope Z → SE T0 Z elt ce) :
    SF T X (.ListComp elt [⟨tg, iter, ifs, 0⟩] scope pos) (mLc (own.map (·.2)) it t tst ce) := by
  intro ε σ W h H Q r o p
  exact ge (pe_lc (g := fun v σ H Q => ∀ Z, Blk X scope Z → Gg Z tg v σ H Q) (tt := fun σ H Q => ∀ Z, Blk X scope Z → Gts Z ifs σ H Q) (te := fun σ H Q => ∀ Z, Blk X scope Z → Go Z elt σ H Q) hc hN pi ok (fun s H C cl fp => ⟨fun pins s' σ H v u Q I r h => h _ ⟨s, _, C, cl, fp, rfl⟩ pins s' u I r⟩) (fun s H C cl fp => ⟨fun pins s' σ H Q I h => h _ ⟨s, _, C, cl, fp, rfl⟩ pins s' I⟩) (fun s H C cl fp => ⟨fun pins s' σ H Q I h => h _ ⟨s, _, C, cl, fp, rfl⟩ pins s' I⟩) hf) (lc_tell hi hjs ht htst he r o p)
/-- name = [..] on one line -/
def mSetL (i : Nat) (c : Ev → M (List D)) : SC := fun ε h => (c ε h).up ε fun ds h1 => .ok (.nx (ε.set i (.pu (.lst ds)))) h1
theorem ss_setLc {i : Nat} {y : Str} {py spos : Pos} (hc : X.calm = true) (hN : X.N.Nodup) (hy : X.N[i]? = some y) (hyl : X.env.scope.names.lookup y = some .local) (hsw : swapsWith (.ListComp elt [⟨tg, iter, ifs, 0⟩] scope pos) (some (.Name y py)) spos.line X.env = pure true)
    (ok : BlkOk X.N X.env.scope scope own) (hf : ∀ x, foldedSetIterable iter X.env x = pure x) (hi : SI T X true tg iter it) (hjs : ∀ j ∈ t.js, j ∈ own.map (·.2)) (ht : ∀ Z, Blk X scope Z → STg Z tg t) (htst : ∀ Z, Blk X scope Z → STf T0 Z ifs tst) (he : ∀ Z, Blk X scope Z → SE T0 Z elt ce) :
    SS T X (.Assign [.Name y py] (.ListComp elt [⟨tg, iter, ifs, 0⟩] scope pos) spos) (mSetL i (mLc (own.map (·.2)) it t tst ce)) := by
  intro ε σ W h H E r o p
  refine gs (ps_setLc (g := fun v σ H Q => ∀ Z, Blk X scope Z → Gg Z tg v σ H Q) (tt := fun σ H Q => ∀ Z, Blk X scope Z → Gts Z ifs σ H Q) (te := fun σ H Q => ∀ Z, Blk X scope Z → Go Z elt σ H Q) hc hN hy hyl hsw pi ok (fun s H C cl fp => ⟨fun pins s' σ H v u Q I r h => h _ ⟨s, _, C, cl, fp, rfl⟩ pins s' u I r⟩) (fun s H C cl fp => ⟨fun pins s' σ H Q I h => h _ ⟨s, _, C, cl, fp, rfl⟩ pins s' I⟩) (fun s H C cl fp => ⟨fun pins s' σ H Q I h => h _ ⟨s, _, C, cl, fp, rfl⟩ pins s' I⟩) hf) ?_
  refine lc_tell hi hjs ht htst he r o (Post.mono (Post.frz o (PostS.up p o r)) (Le.rfl' o.mN) fun ds h1 W1 H1 l1 o1 p1 q vs hq hq1 hF hm hr => ?_)
  obtain ⟨W2, l2, o2, rv, p2⟩ := p1 q vs hq hq1 hF hm hr
  show E.nx (σ.set i (some (.ref q))) H1
  exact p2 _ ⟨W2.F, W2.m, W2.O.set i none⟩ _ (Lg.drop o2 i) (o2.drop i) ((r.le l2).set (show SR _ _ _ _ (.pu (.lst ds)) none from ⟨rfl, _, rfl, rv⟩))
end
end Z
set_option Elab.async false
set_option linter.all false
set_option maxRecDepth 100000
set_option maxHeartbeats 4000000
namespace Z
open PySem PySem.Spec PyProof.Rows L2 G
variable {K : PySem.W.Frag} {F F' H H' : Hp} {m m' : List Addr}
/-! ### a def runs somewhere near the running body -/
theorem fnM_run {q : Bool} {T : WX} {X : Cx} {A' : Around} {k : Nat} {f : Addr} {fd : FuncData} {ps : List Str} {n : Nat} {mf : List D → M D} {dus : List Value} {dvs : List V} {dfl : List D} (F : FnT q X.prog X.w X.K X.mg X.base (L2.CX X.prog X.w) k f fd ps (spM X.K n mf)) (hn : ps.length = n) (hr : RoomG q k A') (hb : Binds X.K fd ps dus)
    (hd : Vals dvs dus) (hD : ∀ F m, Rps X.K F m dfl dvs) (tk : Takes X T) {pins : List (Addr × Obj)} {s : Shared} {σ : L2.St} {W : Wd} {h : Store} {ds : List D} {vs : List V} {us : List Value} {Q : VK} (e0 : Env0 X.prog X.w X.K X.mg X.base A' X.stack s H) (I : Inv X pins σ H s) (r : Vals vs us) (ok : WOk X.K W h H)
    (rp : Rps X.K W.F W.m ds vs) (hl : ds.length + dfl.length = n) (p : Post X.K T W H σ (mf (ds ++ dfl) h) (fun d _ W' H' => ∀ v, Rp X.K W'.F W'.m d v → Q v H')) : wpAny (model X.prog X.w) A' (call (.ref f) us) (EP X pins σ Q) X.xe s := by
  have r2 : Vals (vs ++ dvs) (us ++ dus) := r.append hd
  have rl := rp.len
  have dl := (hD W.F W.m).len
  have hl2 : (us ++ dus).length = ps.length := by rw [← r2.length, List.length_append, hn]; omega
  have ok0 : WOk X.K ⟨W.F, W.m, []⟩ h H := ⟨ok.sub, ok.len, ok.cel, ok.mF, ok.mN, ok.nd, fun i p u e => by simp at e, fun i j p u p' u' _ e _ => by simp at e⟩
  have fin : ∀ {W' : Wd} {H' : Hp} {h' : Store}, Le ⟨W.F, W.m, []⟩ H W' H' → WOk X.K W' h' H' → Le W H ⟨W'.F, W'.m, W.O⟩ H' ∧ WOk X.K ⟨W'.F, W'.m, W.O⟩ h' H' := fun {W' H' h'} l o =>
    have l2 : Le W H ⟨W'.F, W'.m, W.O⟩ H' := l.reO W.O
    ⟨l2, ok.reO l2 o⟩
  have hE : spM X.K n mf (vs ++ dvs) H Q (fun cls d H' => T cls d σ H') := by
    refine ⟨by rw [List.length_append]; omega, ⟨W.F, W.m, []⟩, h, ds ++ dfl, rfl, ok0, rp.app (hD _ _), ?_⟩
    generalize mf (ds ++ dfl) h = res at p ⊢
    cases res with
    | ok d h' => exact fun v W' H' l o rv => p _ _ (fin l o).1 (fin l o).2 v rv
    | ex c ns es h' => exact fun dx W' H' l o e => p dx _ _ (fin l o).1 (fin l o).2 e
    | no => exact p
  refine wpAny_call (codeAny_mono (F.run A' X.stack s H ⟨us, []⟩ (us ++ dus) (vs ++ dvs) Q _ hr e0 (hb s us I.kIn hl2) r2 hE) fun res s' hq => ?_)
  cases res with
  | error e => exact tk e s' (XE.of_call I (fun _ _ _ z => z) hq)
  | ok fl =>
    cases fl with
    | ret u => exact I.after hq
    | next => exact hq.elim
    | brk => exact hq.elim
    | cont => exact hq.elim
theorem vR (a : Addr) : RelV (.ref a) (.ref a) := rfl
theorem vI (i : Int) (t : Tok) : RelV (.int i) (.int i t) := ⟨t, rfl⟩
/-- a special method of an own class, of n parameters -/
structure DmM (T : WX) (X : Cx) (c m : Str) (n : Nat) (f : List D → M D) : Prop where
  ex : ∃ (q : Bool) (fA : Addr) (k : Nat) (fd : FuncData) (ps : List Str), PySem.W.findIn X.K (.ref (ga X.K c)) m = some (some (.ref fA)) ∧ PySem.W.isFn X.K (.ref fA) = true ∧ FnT q X.prog X.w X.K X.mg X.base (L2.CX X.prog X.w) k fA fd ps (spM X.K n f) ∧ ps.length = n ∧ Binds X.K fd ps [] ∧ RoomG q (k + 4) X.A ∧ Takes X T
section
variable {T : WX} {X : Cx} {c m' : Str} {f g : List D → M D} {op : Operator} {n : Nat}
theorem DmM.run (D1 : DmM T X c m' n f) : ∃ (q : Bool) (fA : Addr), PySem.W.findIn X.K (.ref (ga X.K c)) m' = some (some (.ref fA)) ∧ PySem.W.isFn X.K (.ref fA) = true ∧ RoomG q 4 X.A ∧ ∀ (A' : Around) (pins : List (Addr × Obj)) (s : Shared) (σ : L2.St) (H : Hp) (W : Wd) (h : Store) (ds : List D) (vs : List V) (us : List Value) (Q : VK),
    (A' = X.A ∨ A' = X.A.in1 ∨ A' = X.A.in1.in1) → Inv X pins σ H s → Vals vs us → WOk X.K W h H → Rps X.K W.F W.m ds vs → ds.length = n → Post X.K T W H σ (f ds h) (fun d _ W' H' => ∀ v, Rp X.K W'.F W'.m d v → Q v H') → wpAny (model X.prog X.w) A' (call (.ref fA) us) (EP X pins σ Q) X.xe s := by
  obtain ⟨q, fA, k, fd, ps, h1, h2, F, hn, hb, hr, tk⟩ := D1.ex
  refine ⟨q, fA, h1, h2, hr.mono (by omega), fun A' pins s σ H W h ds vs us Q hA I r ok rp hl p => ?_⟩
  have p' : Post X.K T W H σ (f (ds ++ []) h) (fun d _ W' H' => ∀ v, Rp X.K W'.F W'.m d v → Q v H') := by rw [List.append_nil]; exact p
  rcases hA with rfl | rfl | rfl
  · exact fnM_run (dfl := []) F hn (hr.mono (by omega)) hb .nil (fun _ _ => Rps.nil) tk I.env0 I r ok rp (by simpa using hl) p'
  · exact fnM_run (dfl := []) F hn (RoomG.mono (hr.in1) (by omega)) hb .nil (fun _ _ => Rps.nil) tk I.env0.in1 I r ok rp (by simpa using hl) p'
  · exact fnM_run (dfl := []) F hn (RoomG.mono (hr.in1.in1) (by omega)) hb .nil (fun _ _ => Rps.nil) tk I.env0.in1.in1 I r ok rp (by simpa using hl) p'
theorem Rb.obj {W : Wd} {v : V} {cc : Str} {ns : List Str} {ds : List D} (r : Rb X W H (.obj cc ns ds) v) : ∃ a dx vs, v = .ref a ∧ W.F a = some (.ins (ga X.K cc) dx (ns.zip vs)) ∧ Rp X.K W.F W.m (.obj cc ns ds) v := by
  have r' := r.rp (by simp) (by simp)
  have r2 := r'
  unfold Rp at r2
  obtain ⟨a, dx, vs, e, h1, _⟩ := r2
  exact ⟨a, dx, vs, e, h1, r'⟩
theorem cmpBk {pins : List (Addr × Obj)} {σ : L2.St} {Q : VK} {v : Value} {s' : Shared} (z : EP X pins σ Q v s') : PySem.W.CmpBack (EP X pins σ Q) v s' := by
  obtain ⟨z', H', I', rz, qz⟩ := z
  exact SlX.cmpback rz ⟨z', H', I', rz, qz⟩
/-- own op own (of the same class), own op int -/
def ownL (c : Str) (f : List D → M D) (x y : D) : M D := fun h => match x, y with
  | .obj c1 n1 d1, .obj c2 n2 d2 => if c1 = c ∧ c2 = c then f [.obj c1 n1 d1, .obj c2 n2 d2] h else .no
  | .obj c1 n1 d1, .int j => if c1 = c then f [.obj c1 n1 d1, .int j] h else .no
  | _, _ => .no
/-- .. and int op own -/
def ownB (c : Str) (f g : List D → M D) (x y : D) : M D := fun h => match x, y with
  | .int i, .obj c2 n2 d2 => if c2 = c then g [.obj c2 n2 d2, .int i] h else .no
  | x, y => ownL c f x y h
theorem ownL_ok (D1 : DmM T X c (PySem.dunder op.info.2) 2 f) (N : Nu X.K (ga X.K c) op) : OpM T X (binaryOp op) (ownL c f) := by
  intro pins s σ H W h x y v w u1 u2 Q I r1 r2 ok rx ry p
  obtain ⟨_, fA, h1, h2, _, run⟩ := D1.run
  obtain ⟨m, hF⟩ := I.fr
  unfold ownL at p
  split at p
  · split at p
    · rename_i e
      obtain ⟨rfl, rfl⟩ := e
      obtain ⟨a, dx, vs, rfl, ha, ra⟩ := rx.obj
      obtain ⟨b, dy, ws, rfl, hb, rb⟩ := ry.obj
      cases r1
      cases r2
      obtain ⟨ox, od, J⟩ := ins_at I (ok.sub _ _ ha)
      obtain ⟨oy, ody, Jy⟩ := ins_at I (ok.sub _ _ hb)
      exact PySem.W.binop_K hF I.ok.mod.kin J Jy.type N.first h1 h2 (wpAny_mono (run X.A pins s σ H W h _ _ [.ref a, .ref b] Q (.inl rfl) I (.cons (vR _) (.cons (vR _) .nil)) ok (Rps.cons ra (Rps.cons rb Rps.nil)) rfl p) (fun _ _ z => cmpBk z) fun _ _ z => z)
    · exact p.elim
  · split at p
    · rename_i e
      subst e
      obtain ⟨a, dx, vs, rfl, ha, ra⟩ := rx.obj
      cases ry.int
      cases r1
      obtain ⟨ox, od, J⟩ := ins_at I (ok.sub _ _ ha)
      obtain ⟨t, rfl⟩ := r2
      obtain ⟨rc, k1, k2⟩ := N.rr
      obtain ⟨fo, f1⟩ := N.fi
      obtain ⟨ro, o1⟩ := N.ri
      exact PySem.W.ksp_binT (T := "int") hF I.ok.mod.kin J rfl N.first h1 h2 k1 k2 f1 o1 N.sub (wpAny_mono (run X.A pins s σ H W h _ _ [.ref a, .int _ t] Q (.inl rfl) I (.cons (vR _) (.cons (vI _ t) .nil)) ok (Rps.cons ra (Rps.cons (by unfold Rp; rfl) Rps.nil)) rfl p) (fun _ _ z => cmpBk z) fun _ _ z => z)
    · exact p.elim
  · exact p.elim
theorem ownB_ok (D1 : DmM T X c (PySem.dunder op.info.2) 2 f) (N : Nu X.K (ga X.K c) op) (D2 : DmM T X c (PySem.dunderR op.info.2) 2 g) (ho : op = .Add ∨ op = .Sub ∨ op = .Mult) : OpM T X (binaryOp op) (ownB c f g) := by
  intro pins s σ H W h x y v w u1 u2 Q I r1 r2 ok rx ry p
  unfold ownB at p
  split at p
  · split at p
    · rename_i e
      subst e
      obtain ⟨_, fA, h1, h2, _, _⟩ := D1.run
      obtain ⟨_, gA, k1, k2, _, run⟩ := D2.run
      obtain ⟨b, dy, ws, rfl, hb, rb⟩ := ry.obj
      cases rx.int
      cases r2
      obtain ⟨ox, od, J⟩ := ins_at I (ok.sub _ _ hb)
      obtain ⟨mA, O, _⟩ := ins_get I.hok (ok.sub _ _ hb)
      obtain ⟨t, rfl⟩ := r1
      have go := wpAny_mono (run X.A pins s σ H W h _ _ [.ref b, .int _ t] Q (.inl rfl) I (.cons (vR _) (.cons (vI _ t) .nil)) ok (Rps.cons rb (Rps.cons (by unfold Rp; rfl) Rps.nil)) rfl p) (fun _ _ z => cmpBk z) fun _ _ z => z
      rcases ho with rfl | rfl | rfl
      · exact refl_own I.kIn J N.first h1 k1 k2 N.ap PySem.F.fills_int_add (decl_add O.obj) go
      · exact refl_own I.kIn J N.first h1 k1 k2 N.ap PySem.F.fills_int_sub (decl_sub O.obj) go
      · exact refl_own I.kIn J N.first h1 k1 k2 N.ap PySem.F.fills_int_mul (decl_mul O.obj) go
    · exact p.elim
  · exact ownL_ok D1 N pins s σ H W h x y v w u1 u2 Q I r1 r2 ok rx ry p
/-- -x; abs(x), str(x), repr(x) of an own object -/
def own1 (c : Str) (f : List D → M D) (x : D) : M D := fun h => match x with
  | .obj c1 n1 d1 => if c1 = c then f [.obj c1 n1 d1] h else .no
  | _ => .no
/-- .. whose answer is a text -/
def own1S (c : Str) (f : List D → M D) (x : D) : M D := fun h => (own1 c f x h).bnd fun d h1 => match d with
  | .str s => .ok (.str s) h1
  | _ => .no
def UnM (T : WX) (X : Cx) (f : Value → Sem Value) (g : D → M D) : Prop := ∀ pins s σ H W h x v u Q, Inv X pins σ H s → RelV v u → WOk X.K W h H → Rb X W H x v → Post X.K T W H σ (g x h) (fun d _ W' H' => ∀ v, Rp X.K W'.F W'.m d v → Q v H') → wpAny (model X.prog X.w) X.A (f u) (EP X pins σ Q) X.xe s
def uneg (O : D → M D) (x : D) : M D := fun h => match x with
  | .int i => .ok (.int (-i)) h
  | x => O x h
theorem noU_ok {f : Value → Sem Value} : UnM T X f no1 := fun _ _ _ _ _ _ _ _ _ _ _ _ _ _ p => p.elim
theorem uneg_ok {O : D → M D} (hO : UnM T X (unaryOp .USub) O) : UnM T X (unaryOp .USub) (uneg O) := by
  intro pins s σ H W h x v u Q I r ok rx p
  unfold uneg at p
  split at p
  · cases rx.int
    exact un_neg pins s σ H _ u Q I r ⟨_, rfl, p.ok ok ok.mN _ (by unfold Rp; rfl)⟩
  · exact hO pins s σ H W h x v u Q I r ok rx p
theorem neg_ok (D1 : DmM T X c "__neg__" 1 f) : UnM T X (unaryOp .USub) (own1 c f) := by
  intro pins s σ H W h x v u Q I r ok rx p
  unfold own1 at p
  split at p
  · split at p
    · rename_i e
      subst e
      obtain ⟨_, fA, h1, h2, _, run⟩ := D1.run
      obtain ⟨a, dx, vs, rfl, ha, ra⟩ := rx.obj
      cases r
      obtain ⟨ox, od, J⟩ := ins_at I (ok.sub _ _ ha)
      obtain ⟨m, hF⟩ := I.fr
      exact PySem.W.ksp_neg hF I.ok.mod.kin J h1 h2 (run X.A pins s σ H W h _ _ [.ref a] Q (.inl rfl) I (.cons (vR _) .nil) ok (Rps.cons ra Rps.nil) rfl p)
    · exact p.elim
  · exact p.elim
theorem ownAbs_ok (D1 : DmM T X c "__abs__" 1 f) : OneM T X (.builtin "abs") (own1 c f) := by
  intro pins s σ H W h x v us Q I r ok rx p
  unfold own1 at p
  split at p
  · split at p
    · rename_i e
      subst e
      obtain ⟨_, fA, h1, h2, hr, run⟩ := D1.run
      obtain ⟨a, dx, vs, rfl, ha, ra⟩ := rx.obj
      obtain ⟨u, rfl, ru⟩ := vals1 r
      cases ru
      obtain ⟨ox, od, J⟩ := ins_at I (ok.sub _ _ ha)
      refine PySem.Calls.call_function_entry kind_abs plain_abs entry_abs (args_abs _) ?_
      unfold Builtin.«abs»
      refine wpAny_bind (m := _) (wpAny_pure ?_)
      refine wpAny_bind (m := callSpecial? (.ref a) (Str.ofString "__abs__")) (PySem.W.special_fn I.kIn J h1 (beq_iff_eq.mp h2) (thn (run X.A.in1 pins s σ H W h _ _ [.ref a] Q (.inr (.inl rfl)) I (.cons (vR _) .nil) ok (Rps.cons ra Rps.nil) rfl p) fun v s' z => ?_))
      exact wpAny_pure ⟨_, rfl, z⟩
    · exact p.elim
  · exact p.elim
theorem own1S_post {W : Wd} {σ : L2.St} {h : Store} {x : D} {Q : VK} (p : Post X.K T W H σ (own1S c f x h) (fun d _ W' H' => ∀ v, Rp X.K W'.F W'.m d v → Q v H')) : ∃ n1 d1, x = .obj c n1 d1 ∧ Post X.K T W H σ (f [x] h) (fun d _ W' H' => ∀ v, Rp X.K W'.F W'.m d v → ∃ t, v = .str t ∧ Q v H') := by
  have q := Post.bnd p
  unfold own1 at q
  split at q
  · rename_i c1 n1 d1
    split at q
    · rename_i e
      subst e
      refine ⟨n1, d1, rfl, ?_⟩
      generalize f [.obj c1 n1 d1] h = res at q ⊢
      cases res with
      | no => exact q
      | ex c ns es h' => exact q
      | ok d h' =>
        intro W' H' l o v hv
        have q' := q W' H' l o
        dsimp only at q'
        split at q'
        · rename_i s
          unfold Rp at hv
          exact ⟨s, hv, q'.ok o o.mN _ (by unfold Rp; exact hv)⟩
        · exact q'.elim
    · exact q.elim
  · exact q.elim
theorem strBk {pins : List (Addr × Obj)} {σ : L2.St} {Q : VK} {v : Value} {s' : Shared} (z : EP X pins σ (fun z H' => ∃ t, z = .str t ∧ Q z H') v s') : PySem.W.StrBack (EP X pins σ Q) v s' := by
  obtain ⟨x, H', I', r, t, rfl, q⟩ := z
  obtain ⟨u, rfl⟩ := r
  exact ⟨.str t, H', I', ⟨u, rfl⟩, q⟩
theorem ownStr_ok (D1 : DmM T X c "__str__" 1 f) : OneM T X (.type "str") (own1S c f) := by
  intro pins s σ H W h x v us Q I r ok rx p
  obtain ⟨n1, d1, rfl, p1⟩ := own1S_post p
  obtain ⟨_, fA, h1, h2, hr, run⟩ := D1.run
  obtain ⟨a, dx, vs, rfl, ha, ra⟩ := rx.obj
  obtain ⟨u, rfl, ru⟩ := vals1 r
  cases ru
  obtain ⟨ox, od, J⟩ := ins_at I (ok.sub _ _ ha)
  have r2 := RoomG.in1 (k := 2) (RoomG.in1 (k := 3) hr)
  refine PySem.W.kso_call r2.units0 I.kIn J h1 h2 ?_
  exact wpAny_mono (run X.A.in1.in1 pins s σ H W h _ _ [.ref a] _ (.inr (.inr rfl)) I (.cons (vR _) .nil) ok (Rps.cons ra Rps.nil) rfl p1) (fun _ _ z => strBk z) fun _ _ z => z
theorem ownRepr_ok (D1 : DmM T X c "__repr__" 1 f) : OneM T X (.builtin "repr") (own1S c f) := by
  intro pins s σ H W h x v us Q I r ok rx p
  obtain ⟨n1, d1, rfl, p1⟩ := own1S_post p
  obtain ⟨_, fA, h1, h2, hr, run⟩ := D1.run
  obtain ⟨a, dx, vs, rfl, ha, ra⟩ := rx.obj
  obtain ⟨u, rfl, ru⟩ := vals1 r
  cases ru
  obtain ⟨ox, od, J⟩ := ins_at I (ok.sub _ _ ha)
  obtain ⟨m, hF⟩ := I.fr
  have r1 := RoomG.in1 (k := 3) hr
  refine PySem.W.repr_K r1.units0 hF I.ok.mod.kin J h1 h2 ?_
  exact wpAny_mono (run X.A.in1 pins s σ H W h _ _ [.ref a] _ (.inr (.inl rfl)) I (.cons (vR _) .nil) ok (Rps.cons ra Rps.nil) rfl p1) (fun _ _ z => strBk z) fun _ _ z => z
/-- == of an own object of the class c with any value whose type is known -/
def ownEq (c : Str) (ok : TK → Bool) (f : List D → M D) (x y : D) : M D := fun h => match x with
  | .obj c1 n1 d1 => if c1 = c then (match tkD y with
    | some k => if ok k = true then f [.obj c1 n1 d1, y] h else .no
    | none => .no) else .no
  | _ => .no
def ownE (c : Str) (ok : TK → Bool) (f : List D → M D) (x y : D) : M D := fun h => match y with
  | .lst _ => .no
  | .dic _ _ => .no
  | y => ownEq c ok f x y h
theorem ownEq_ok {okk : TK → Bool} (D1 : DmM T X c "__eq__" 2 f) (hk : ∀ k, okk k = true → PySem.W.notFirst X.K (ga X.K c) (k.v X.K) = true) (hc : ∀ c', okk (.c c') = true → ∀ H a dx gs, H a = some (HO.ins (ga X.K c') dx gs) → TyX X.K H (.ref a) (.ref (ga X.K c'))) : OpM T X (compareOp .Eq) (ownE c okk f) := by
  intro pins s σ H W h x y v w u1 u2 Q I r1 r2 ok rx ry p
  have hy : (∀ ds, y ≠ .lst ds) ∧ (∀ ks ds, y ≠ .dic ks ds) ∧ Post X.K T W H σ (ownEq c okk f x y h) (fun d _ W' H' => ∀ v, Rp X.K W'.F W'.m d v → Q v H') := by
    unfold ownE at p
    split at p
    · exact p.elim
    · exact p.elim
    · rename_i h1 h2
      exact ⟨fun ds e => h1 ds e, fun ks ds e => h2 ks ds e, p⟩
  clear p
  obtain ⟨y1, y2, p⟩ := hy
  have ryp := ry.rp y1 y2
  unfold ownEq at p
  split at p
  · split at p
    · rename_i e
      subst e
      split at p
      · rename_i k ek
        split at p
        · rename_i hok
          obtain ⟨_, fA, h1, h2, hr, run⟩ := D1.run
          obtain ⟨a, dx, vs, rfl, ha, ra⟩ := rx.obj
          cases r1
          obtain ⟨ox, od, J⟩ := ins_at I (ok.sub _ _ ha)
          obtain ⟨m, hF⟩ := I.fr
          have ty := tk_ty ok ry ek (fun c' ns ds e a dx gs hh => by
            subst e
            unfold tkD at ek
            cases ek
            exact hc c' hok H a dx gs hh)
          obtain ⟨P, kx, hP, _⟩ := kit_of I r2 ty
          refine PySem.W.cmp_ofEq (PySem.W.cmp_K hr.units0 hF I.ok.mod.kin J (kx.ty _ _ I.kIn hP) (hk _ hok) h1 h2 ?_)
          exact wpAny_mono (run X.A pins s σ H W h _ _ [.ref a, u2] Q (.inl rfl) I (.cons (vR _) (.cons r2 .nil)) ok (Rps.cons ra (Rps.cons ryp Rps.nil)) rfl p) (fun _ _ z => cmpBk z) fun _ _ z => z
        · exact p.elim
      · exact p.elim
    · exact p.elim
  · exact p.elim
end
end Z
set_option Elab.async false
set_option linter.all false
set_option maxRecDepth 100000
set_option maxHeartbeats 4000000
namespace Z
open PySem PySem.Spec PyProof.Rows L2 G
variable {K : PySem.W.Frag} {F F' H H' : Hp} {m m' : List Addr}
/-! ### an object is made: its fields -/
def putX {α : Type} : List Str → List α → Str → α → List Str × List α
  | g :: r, x :: xs, f, d => if g = f then (g :: r, d :: xs) else (g :: (putX r xs f d).1, x :: (putX r xs f d).2)
  | _, _, f, d => ([f], [d])
theorem putX_ns {α β : Type} : ∀ {ns : List Str} {xs : List α} {ys : List β} {f : Str} {a : α} {b : β}, ns.length = xs.length → ns.length = ys.length → (putX ns xs f a).1 = (putX ns ys f b).1
  | [], [], [], _, _, _, _, _ => rfl
  | g :: r, x :: xs, y :: ys, f, a, b, h1, h2 => by
    unfold putX
    by_cases z : g = f
    · rw [if_pos z, if_pos z]
    · rw [if_neg z, if_neg z]
      show g :: _ = g :: _
      rw [putX_ns (xs := xs) (ys := ys) (a := a) (b := b) (by simpa using h1) (by simpa using h2)]
theorem putX_len {α : Type} : ∀ {ns : List Str} {xs : List α} {f : Str} {a : α}, ns.length = xs.length → (putX ns xs f a).1.length = (putX ns xs f a).2.length
  | [], [], _, _, _ => rfl
  | g :: r, x :: xs, f, a, h1 => by
    unfold putX
    by_cases z : g = f
    · rw [if_pos z]; simpa using h1
    · rw [if_neg z]
      simpa using putX_len (ns := r) (xs := xs) (f := f) (a := a) (by simpa using h1)
theorem putX_F : ∀ {ns : List Str} {vs : List V} {f : Str} {v : V}, ns.length = vs.length → putF f v (ns.zip vs) = (putX ns vs f v).1.zip (putX ns vs f v).2
  | [], [], _, _, _ => rfl
  | g :: r, x :: xs, f, v, h => by
    unfold putX
    show (if g = f then (g, v) :: r.zip xs else (g, x) :: putF f v (r.zip xs)) = _
    by_cases z : g = f
    · rw [if_pos z, if_pos z]; rfl
    · rw [if_neg z, if_neg z, putX_F (by simpa using h)]; rfl
theorem putX_rps : ∀ {ns : List Str} {ds : List D} {vs : List V} {f : Str} {d : D} {v : V}, ns.length = vs.length → Rps K F m ds vs → Rp K F m d v → Rps K F m (putX ns ds f d).2 (putX ns vs f v).2
  | [], [], _, _, _, _, hl, r, s => by
    unfold Rps at r
    subst r
    exact Rps.cons s Rps.nil
  | [], _ :: _, _, _, _, _, hl, r, s => by
    have := r.len
    rw [← hl] at this
    simp at this
  | g :: ns, [], _, _, _, _, hl, r, s => by
    unfold Rps at r
    subst r
    simp at hl
  | g :: ns, x :: xs, _, f, d, v, hl, r, s => by
    unfold Rps at r
    obtain ⟨w, ws, rfl, r1, r2⟩ := r
    unfold putX
    by_cases z : g = f
    · rw [if_pos z, if_pos z]; exact Rps.cons s r2
    · rw [if_neg z, if_neg z]; exact Rps.cons r1 (putX_rps (by simpa using hl) r2 s)
/-- self.f, while the object is made -/
def mSelf (cl : List Str) (i : Nat) (f : Str) : EM := fun ε h => match ε[i]? with
  | some (.oo c ns ds) => if c ∈ cl then (match lookD ns ds f with
    | some d => .ok d h
    | none => .no) else .no
  | _ => .no
def mSetF (cl : List Str) (i : Nat) (f : Str) (c : EM) : SC := fun ε h => (c ε h).up ε fun d h1 => match ε[i]? with
  | some (.oo c ns ds) => if ns.length < 100 ∧ c ∈ cl then .ok (.nx (ε.set i (.oo c (putX ns ds f d).1 (putX ns ds f d).2))) h1 else .no
  | _ => .no
theorem Rel.oo {σ : L2.St} {ε : Ev} {O : List (Option (Addr × HO))} (r : Rel K F m σ ε O) {i : Nat} {c : Str} {ns : List Str} {ds : List D} (h : ε[i]? = some (.oo c ns ds)) : ∃ p dx vs, σ[i]? = some (some (.ref p)) ∧ O[i]? = some (some (p, .ins (ga K c) dx (ns.zip vs))) ∧ ns.length = vs.length ∧ Rps K F m ds vs := by
  have hi := (List.getElem?_eq_some_iff.mp h).1
  have h1 : σ[i]? = some (σ[i]'(by rw [r.l1]; exact hi)) := List.getElem?_eq_getElem _
  have h2 : O[i]? = some (O[i]'(by rw [r.l2]; exact hi)) := List.getElem?_eq_getElem _
  obtain ⟨p, dx, vs, e1, e2, e3, e4⟩ := r.at_ i _ _ _ h1 h h2
  exact ⟨p, dx, vs, by rw [h1, e1], by rw [h2, e2], e3, e4⟩
/-- what a name owns is changed -/
theorem own_upd {W : Wd} {h : Store} {i : Nat} {p : Addr} {o o' : HO} (ok : WOk K W h H) (e : W.O[i]? = some (some (p, o))) (hi' : ∀ C dx gs, o' = .ins C dx gs → ∃ gs', o = .ins C dx gs') : WOk K ⟨W.F, W.m, W.O.set i (some (p, o'))⟩ h (upd H p o') ∧ Lg W H ⟨W.F, W.m, W.O.set i (some (p, o'))⟩ (upd H p o') := by
  obtain ⟨g1, g2, g3⟩ := ok.own i p o e
  have hi := (List.getElem?_eq_some_iff.mp e).1
  have ne : ∀ {a u}, W.F a = some u → a ≠ p := fun e' z => by subst z; rw [g2] at e'; cases e'
  have get : ∀ {j a u}, (W.O.set i (some (p, o')))[j]? = some (some (a, u)) → (j = i ∧ a = p ∧ u = o') ∨ (j ≠ i ∧ W.O[j]? = some (some (a, u))) := fun {j a u} z => by
    by_cases q : i = j
    · subst q
      rw [List.getElem?_set_self hi] at z
      cases z
      exact .inl ⟨rfl, rfl, rfl⟩
    · rw [List.getElem?_set_ne q] at z
      exact .inr ⟨Ne.symm q, z⟩
  refine ⟨⟨fun a u z => by rw [upd_ne (ne z)]; exact ok.sub a u z, ok.len, fun j a c e1 e2 => ?_, ok.mF, fun a ha => ?_, ok.nd, fun j a u z => ?_, fun j k a u a' u' nk z1 z2 => ?_⟩,
    ⟨Ex.rfl', fun a u h1 h2 h3 => by rw [upd_ne (fun z => h3 i o (by rw [z]; exact e))]; exact h1, fun _ _ z => .inl z, ⟨[], by simp, fun _ q => by cases q⟩, fun j a u z => ?_, fun a ha => ?_, fun j a u z => ?_, fun j a C dx gs z => ?_⟩⟩
  · have na : a ≠ p := fun z => g3 (z ▸ (List.mem_of_getElem? e1))
    have q := ok.cel j a c e1 e2
    cases c with
    | lst ds => exact let ⟨vs, g1, g2⟩ := q; ⟨vs, by rw [upd_ne na]; exact g1, g2⟩
    | obj c ns ds => exact let ⟨dx, vs, g1, g2, g3⟩ := q; ⟨dx, vs, by rw [upd_ne na]; exact g1, g2, g3⟩
    | dic ks ds => exact let ⟨vs, g1, g2, g3⟩ := q; ⟨vs, by rw [upd_ne na]; exact g1, g2, g3⟩
    | tab x q2 => exact ⟨q.1, q.2.mono Ex.rfl' fun o z => by rw [upd_ne na]; exact z⟩
  · rw [upd_ne (show a ≠ p by rintro rfl; exact g3 ha)]; exact ok.mN a ha
  · rcases get z with ⟨rfl, rfl, rfl⟩ | ⟨nj, z⟩
    · exact ⟨upd_same, g2, g3⟩
    · obtain ⟨k1, k2, k3⟩ := ok.own j a u z
      exact ⟨by rw [upd_ne (ok.ond j i a u p o nj z e)]; exact k1, k2, k3⟩
  · rcases get z1 with ⟨rfl, rfl, rfl⟩ | ⟨nj, y1⟩
    · rcases get z2 with ⟨rfl, rfl, rfl⟩ | ⟨nj2, y2⟩
      · exact absurd rfl nk
      · exact ok.ond _ _ _ _ _ _ nk e y2
    · rcases get z2 with ⟨rfl, rfl, rfl⟩ | ⟨nj2, y2⟩
      · exact ok.ond _ _ _ _ _ _ nk y1 e
      · exact ok.ond _ _ _ _ _ _ nk y1 y2
  · rcases get z with ⟨rfl, rfl, rfl⟩ | ⟨nj, z⟩
    · exact .inr ⟨_, _, e⟩
    · exact .inr ⟨_, _, z⟩
  · rw [upd_ne (show a ≠ p by rintro rfl; exact g3 ha)]; exact ok.mN a ha
  · by_cases q : a = p
    · subst q; rw [upd_same]; simp
    · rw [upd_ne q, (ok.own j a u z).1]; simp
  · rcases get z with ⟨rfl, rfl, e2⟩ | ⟨nj, z⟩
    · obtain ⟨gs', rfl⟩ := hi' C dx gs e2.symm
      exact ⟨gs', e⟩
    · exact ⟨gs, z⟩
section
variable {T : WX} {X : Cx} {e : Expr} {c : EM} {i : Nat} {x f : Str} {pos p' p2 : Pos}
theorem se_self {cl : List Str} (l : Sl X i x) (hcl : ∀ c ∈ cl, Cls X.K (ga X.K c) ∧ NoAttr X.K (ga X.K c) f) (hb : attributeBase (.Name x p') f X.env (eval (.Name x p') X.env) = eval (.Name x p') X.env) : SE T X (.Attribute (.Name x p') f pos) (mSelf cl i f) := by
  intro ε σ W h H Q r o p
  unfold mSelf at p
  split at p
  · rename_i cc ns ds q
    split at p
    · rename_i hm
      split at p
      · rename_i d hd
        obtain ⟨a, dx, vs, e1, e2, e3, e4⟩ := r.oo q
        obtain ⟨v, l1, rv⟩ := lookD_ok e4 e3 hd
        obtain ⟨k1, k2⟩ := hcl cc hm
        exact e_attr hb (e_name l e1 (at_fld k1 k2 (o.own i a _ e2).1 l1 (p.ok o o.mN v rv)))
      · exact p.elim
    · exact p.elim
  · exact p.elim
theorem zip_len {α β : Type} {xs : List α} {ys : List β} (h : xs.length = ys.length) : (xs.zip ys).length = xs.length := by rw [List.length_zip, ← h, Nat.min_self]
theorem ss_setf {cl : List Str} (l : Sl X i x) (hcl : ∀ c ∈ cl, Cls X.K (ga X.K c) ∧ NoAttr X.K (ga X.K c) f) (hs : swapsWith e (some (.Attribute (.Name x p') f p2)) pos.line X.env = pure false) (he : SE T X e c) : SS T X (.Assign [.Attribute (.Name x p') f p2] e pos) (mSetF cl i f c) := by
  intro ε σ W h H E r o p
  refine s_fld hs (he ε σ W h H _ r o (Post.mono (PostS.up p o r) (Le.rfl' o.mN) fun d h1 W1 H1 l1 o1 p1 v hv => ?_))
  split at p1
  · rename_i cc ns ds q
    split at p1
    · rename_i hm
      obtain ⟨a, dx, vs, e1, e2, e3, e4⟩ := (r.le l1).oo q
      obtain ⟨k1, k2⟩ := hcl cc hm.2
      obtain ⟨o2, l2⟩ := own_upd (o' := .ins (ga X.K cc) dx ((putX ns ds f d).1.zip (putX ns vs f v).2)) o1 e2 (fun C dx' gs z => by cases z; exact ⟨_, rfl⟩)
      refine e_name l e1 ⟨a, _, dx, _, rfl, (o1.own i a _ e2).1, k1, k2, by rw [zip_len e3]; omega, ?_⟩
      rw [putX_F e3, ← putX_ns (ns := ns) (xs := ds) (ys := vs) (a := d) (b := v) (by rw [e3, e4.len]) e3]
      have hl : ns.length = ds.length := by rw [e3, e4.len]
      refine p1 σ _ _ l2 o2 ?_
      have rr := (r.le l1).set (i := i) (s := some (.ref a)) (x := .oo cc (putX ns ds f d).1 (putX ns ds f d).2) (o := some (a, .ins (ga X.K cc) dx ((putX ns ds f d).1.zip (putX ns vs f v).2))) (show SR _ _ _ _ _ _ from ⟨a, dx, _, rfl, rfl, by
        rw [putX_len hl, (putX_rps e3 e4 hv).len], putX_rps e3 e4 hv⟩)
      have es : σ.set i (some (.ref a)) = σ := by
        apply List.ext_getElem?
        intro j
        by_cases z : i = j
        · subst z
          rw [List.getElem?_set_self (List.getElem?_eq_some_iff.mp e1).1, e1]
        · rw [List.getElem?_set_ne z]
      rw [es] at rr
      exact rr
    · exact p1.elim
  · exact p1.elim
end
/-! ### __init__ -/
def PostI (K : PySem.W.Frag) (c : Str) (x dx : Addr) (W : Wd) (H : Hp) (r : R (List Str × List D)) (Q : VK) (E : XK) : Prop := match r with
  | .ok (ns, ds) h' => ∀ (W' : Wd) H' vs, Ex W.F W'.F → (∀ a o, H a = some o → a ∉ W.m → a ≠ x → H' a = some o) → (∀ a o, W'.F a = some o → W.F a = some o ∨ H a = none ∨ a = x) → (∃ n, W'.m = W.m ++ n ∧ ∀ a ∈ n, H a = none) → (∀ a ∈ W.m, H' a ≠ none) → WOk K W' h' H' → W'.O = [] →
      H' x = some (.ins (ga K c) dx (ns.zip vs)) → ns.length = vs.length → Rps K W'.F W'.m ds vs → W'.F x = none → x ∉ W'.m → Q .non H'
  | .ex cc ns ds h' => ∀ dd (W' : Wd) H', Ex W.F W'.F → (∀ a o, H a = some o → a ∉ W.m → a ≠ x → H' a = some o) → (∀ a o, W'.F a = some o → W.F a = some o ∨ H a = none ∨ a = x) → (∃ n, W'.m = W.m ++ n ∧ ∀ a ∈ n, H a = none) → (∀ a ∈ W.m, H' a ≠ none) → WOk K W' h' H' → W'.O = [] → ExAt K W'.F W'.m H H' ns ds dd → E (.ref (ga K cc)) dd H'
  | .no => False
def spI (K : PySem.W.Frag) (c : Str) (n : Nat) (f : List D → M (List Str × List D)) : Sp := fun vs H Q E => vs.length = n ∧ ∃ W h ds x dx vs', W.O = [] ∧ WOk K W h H ∧ vs = V.ref x :: vs' ∧ Rps K W.F W.m ds vs' ∧ H x = some (.ins (ga K c) dx []) ∧ W.F x = none ∧ x ∉ W.m ∧ PostI K c x dx W H (f ds h) Q E
def runI (c : Str) (b : SC) (n : Nat) (ds : List D) : M (List Str × List D) := fun h => match b (.oo c [] [] :: (ds.map .pu ++ List.replicate (n - 1 - ds.length) .un)) h with
  | .ok (.nx ε) h' => (match ε with
    | .oo c1 ns es :: _ => if c1 = c then .ok (ns, es) h' else .no
    | _ => .no)
  | .ok (.rs c ns ds _) h' => .ex c ns ds h'
  | _ => .no
section
variable {P : Program} {w : World} {mg : Str → Option Value} {base : Heap}
theorem init_of {X : Cx} {T : WX} {E : XK} {Q : VK} {c : Str} {b : SC} {n : Nat} {sts : List Stmt} {N : List Str} {vs : List V} (hT : ∀ cls d σ H, E cls d H → T cls d σ H) (hN : N.length = n) (hp : vs.length ≤ n) (hb : SB T X sts b)
    (h : ∃ W h ds x dx vs', W.O = [] ∧ WOk X.K W h H ∧ vs = V.ref x :: vs' ∧ Rps X.K W.F W.m ds vs' ∧ H x = some (.ins (ga X.K c) dx []) ∧ W.F x = none ∧ x ∉ W.m ∧ PostI X.K c x dx W H (runI c b n ds h) Q E) : Gb X sts { nx := fun _ H' => Q .non H', rt := Q } (L2.start N vs) H := by
  obtain ⟨W, h, ds, x, dx, vs', hO, ok, rfl, r, hx, hF, hm, p⟩ := h
  have hl := r.len
  have rel := Rel.start r (n - 1)
  unfold L2.start
  rw [hN]
  have ok0 : WOk X.K ⟨W.F, W.m, some (x, .ins (ga X.K c) dx []) :: List.replicate (ds.length + (n - 1 - ds.length)) none⟩ h H := by
    refine ⟨ok.sub, ok.len, ok.cel, ok.mF, ok.mN, ok.nd, fun i p o e => ?_, fun i j p o p' o' ne e1 e2 => ?_⟩
    · cases i with
      | zero => simp at e; obtain ⟨rfl, rfl⟩ := e; exact ⟨hx, hF, hm⟩
      | succ i => exact (own_rep (by simpa using e)).elim
    · cases i with
      | succ i => exact (own_rep (by simpa using e1)).elim
      | zero =>
        cases j with
        | zero => exact absurd rfl ne
        | succ j => exact (own_rep (by simpa using e2)).elim
  have rel0 : Rel X.K W.F W.m ((V.ref x :: vs').map some ++ List.replicate (n - (V.ref x :: vs').length) none) (.oo c [] [] :: (ds.map .pu ++ List.replicate (n - 1 - ds.length) .un)) (some (x, .ins (ga X.K c) dx []) :: List.replicate (ds.length + (n - 1 - ds.length)) none) := by
    have e : n - (V.ref x :: vs').length = n - 1 - vs'.length := by simp; omega
    rw [e]
    refine ⟨by simpa using rel.l1, by simpa using rel.l2, fun i s y o h1 h2 h3 => ?_⟩
    cases i with
    | zero =>
      simp at h1 h2 h3
      subst h1 h2 h3
      exact ⟨x, dx, [], rfl, rfl, rfl, Rps.nil⟩
    | succ i => exact rel.at_ i s y o (by simpa using h1) (by simpa using h2) (by simpa using h3)
  refine hb _ _ ⟨W.F, W.m, some (x, .ins (ga X.K c) dx []) :: List.replicate (ds.length + (n - 1 - ds.length)) none⟩ h H _ rel0 ok0 ?_
  have ownX : ∀ (i : Nat) a u, (some (x, HO.ins (ga X.K c) dx []) :: List.replicate (ds.length + (n - 1 - ds.length)) none)[i]? = some (some (a, u)) → a = x := fun i a u e => by
    cases i with
    | zero => simp at e; exact e.1.symm
    | succ i => exact (own_rep (by simpa using e)).elim
  have fin : ∀ {W' : Wd} {H' : Hp} {h' : Store}, Lg ⟨W.F, W.m, some (x, .ins (ga X.K c) dx []) :: List.replicate (ds.length + (n - 1 - ds.length)) none⟩ H W' H' → WOk X.K W' h' H' → (∀ a o, H a = some o → a ∉ W.m → a ≠ x → H' a = some o) ∧ (∀ a o, W'.F a = some o → W.F a = some o ∨ H a = none ∨ a = x) ∧ WOk X.K ⟨W'.F, W'.m, []⟩ h' H' := fun {W' H' h'} l o =>
    ⟨fun a u e hm ne => l.frm a u e hm fun i u' z => ne (ownX i a u' z), fun a u e => by
      rcases l.new a u e with z | z | ⟨i, u', z⟩
      · exact .inl z
      · exact .inr (.inl z)
      · exact .inr (.inr (ownX i a u' z)), ⟨o.sub, o.len, o.cel, o.mF, o.mN, o.nd, fun i p u e => by simp at e, fun i j p u p' u' _ e _ => by simp at e⟩⟩
  unfold runI at p
  generalize b (.oo c [] [] :: (ds.map .pu ++ List.replicate (n - 1 - ds.length) .un)) h = res at p ⊢
  cases res with
  | ex c ns ds h' => exact p
  | no => exact p
  | ok f h' =>
    cases f with
    | nx ε' =>
      intro σ' W' H' l' o' r'
      cases ε' with
      | nil => exact p.elim
      | cons e0 er =>
        cases e0 with
        | oo c1 ns es =>
          dsimp only at p
          by_cases hc : c1 = c
          · rw [if_pos hc] at p
            subst hc
            obtain ⟨a, dx', ws, e1, e2, e3, e4⟩ := r'.oo (i := 0) rfl
            obtain ⟨g1, g2, g3⟩ := o'.own 0 a _ e2
            obtain ⟨f1, f2, f3⟩ := fin l' o'
            obtain ⟨gs', ei⟩ := l'.ins 0 a _ _ _ e2
            simp at ei
            obtain ⟨rfl, rfl, _⟩ := ei
            exact p ⟨W'.F, W'.m, []⟩ H' ws l'.F f1 f2 l'.m l'.cel f3 rfl g1 e3 e4 g2 g3
          · rw [if_neg hc] at p
            exact p.elim
        | un => exact p.elim
        | pu d => exact p.elim
        | ol ds => exact p.elim
        | od ks ds => exact p.elim
    | rt d => exact p.elim
    | bk ε' => exact p.elim
    | ct ε' => exact p.elim
    | rs c ns ds ε' =>
      intro dd σ' W' H' l' o' r' ex
      obtain ⟨f1, f2, f3⟩ := fin l' o'
      exact hT _ _ _ _ (p dd ⟨W'.F, W'.m, []⟩ H' l'.F f1 f2 l'.m l'.cel f3 rfl ex)
theorem in_okM {q : Bool} {x qual : Str} {params : Arguments} {body : List Stmt} {scope : Scope} {dvs : List V} {kws : List (Str × V)} {f : Addr} {fd : FuncData} {N ps : List Str} {k : Nat} {b : SC} {c : Str} (F : FunD K x qual params body scope dvs kws f fd) (S : FnScope N ps scope) (hl : ps.length ≤ N.length)
    (hb : ∀ (cdv : Value) (A : Around) (outer : List Env) (s : Shared) (H : Hp) (E : XK), RoomG q k (A.deeper (envOfC qual scope s.heap.objs.size f cdv)) → SB (fun cls d _ H => E cls d H) (cxT q (L2.CX P w) P w K mg base N qual scope f cdv A outer s H E) body b) :
    FnT q P w K mg base (L2.CX P w) (k + 1) f fd ps (spI K c ps.length (runI c b N.length)) := by
  refine okT F S (fun vs H Q E h => h.1) fun cdv A outer s H vs Q E hr h => ⟨_, pb, ?_⟩
  exact init_of (X := cxT q (L2.CX P w) P w K mg base N qual scope f cdv A outer s H E) (T := fun cls d _ H => E cls d H) (fun _ _ _ _ h => h) rfl (by rw [h.1]; exact hl) (hb cdv A outer s H E hr) h.2
end
/-- C(..) -/
def mkM (c : Str) (f : List D → M (List Str × List D)) (ds : List D) : M D := fun h => (f ds h).bnd fun p h1 => .ok (.obj c p.1 p.2) h1
theorem make_M {q : Bool} {T : WX} {X : Cx} {c : Str} {k : Nat} {f : Addr} {fd : FuncData} {ps : List Str} {n : Nat} {mf : List D → M (List Str × List D)} {dus : List Value} {dvs : List V} {dfl : List D} (Mk' : Mk X.K (ga X.K c) f) (F : FnT q X.prog X.w X.K X.mg X.base (L2.CX X.prog X.w) k f fd ps (spI X.K c n mf)) (hn : ps.length = n) (hr : RoomG q (k + 1) X.A)
    (hb : Binds X.K fd ps dus) (hd : Vals dvs dus) (hD : ∀ F m, Rps X.K F m dfl dvs) (tk : Takes X T) : CallM T X (.ref (ga X.K c)) (fun ds h => if ds.length + dfl.length + 1 = n then mkM c mf (ds ++ dfl) h else .no) := by
  intro pins s σ H W h ds vs us Q I r ok rp p
  dsimp only at p
  by_cases hl : ds.length + dfl.length + 1 = n
  · rw [if_pos hl] at p
    have I2 := Inv.made (C := ga X.K c) I
    have ndx : s.heap.objs.size ≠ s.heap.objs.size + 1 := Nat.ne_of_lt (Nat.lt_succ_self _)
    have r2 : Vals (V.ref (s.heap.objs.size + 1) :: (vs ++ dvs)) (Value.ref (s.heap.objs.size + 1) :: (us ++ dus)) := .cons (vR _) (r.append hd)
    have rl := rp.len
    have dl := (hD W.F W.m).len
    have hl2 : (Value.ref (s.heap.objs.size + 1) :: us ++ dus).length = ps.length := by
      have := r2.length
      rw [show (Value.ref (s.heap.objs.size + 1) :: us ++ dus) = Value.ref (s.heap.objs.size + 1) :: (us ++ dus) from rfl, ← this, List.length_cons, List.length_append, hn]
      omega
    have hE : ∀ x dx, H x = none → H dx = none → dx ≠ x → spI X.K c n mf (.ref x :: (vs ++ dvs)) (upd (upd H dx (.own x)) x (.ins (ga X.K c) dx [])) (fun v H2 => v = .non ∧ Q (.ref x) H2) (fun cls d H' => T cls d σ H') := by
      intro x dx hx hdx ne
      have ex2 : Ex H (upd (upd H dx (.own x)) x (.ins (ga X.K c) dx [])) := fun a o e => by rw [upd_ne (ne_of_none e hx), upd_ne (ne_of_none e hdx)]; exact e
      have back : ∀ a, (upd (upd H dx (.own x)) x (.ins (ga X.K c) dx [])) a = none → H a = none := fun a e => by
        cases q : H a with
        | none => rfl
        | some u => rw [ex2 a u q] at e; cases e
      have ok0 : WOk X.K ⟨W.F, W.m, []⟩ h H := ⟨ok.sub, ok.len, ok.cel, ok.mF, ok.mN, ok.nd, fun i p u e => by simp at e, fun i j p u p' u' _ e _ => by simp at e⟩
      obtain ⟨_, o2⟩ := grow ok0 ex2
      obtain ⟨fF, fm⟩ := ok.freshF hx
      refine ⟨by rw [List.length_cons, List.length_append]; omega, ⟨W.F, W.m, []⟩, h, ds ++ dfl, x, dx, vs ++ dvs, rfl, o2, rfl, rp.app (hD _ _), upd_same, fF, fm, ?_⟩
      unfold mkM at p
      have fin : ∀ {W' : Wd} {H' : Hp} {h' : Store}, Ex W.F W'.F → (∀ a o, (upd (upd H dx (.own x)) x (.ins (ga X.K c) dx [])) a = some o → a ∉ W.m → a ≠ x → H' a = some o) → (∀ a o, W'.F a = some o → W.F a = some o ∨ (upd (upd H dx (.own x)) x (.ins (ga X.K c) dx [])) a = none ∨ a = x) → (∃ n, W'.m = W.m ++ n ∧ ∀ a ∈ n, (upd (upd H dx (.own x)) x (.ins (ga X.K c) dx [])) a = none) → (∀ a ∈ W.m, H' a ≠ none) → Le W H ⟨W'.F, W'.m, W.O⟩ H' := fun {W' H' h'} g1 g2 g3 g4 g5 => by
        refine ⟨g1, fun a o e hm => g2 a o (ex2 a o e) hm (ne_of_none e hx), fun a o e => ?_, ?_, rfl, g5⟩
        · rcases g3 a o e with z | z | z
          · exact .inl z
          · exact .inr (back a z)
          · subst z; exact .inr hx
        · obtain ⟨nn, en, hnn⟩ := g4
          exact ⟨nn, en, fun a ha => back a (hnn a ha)⟩
      generalize mf (ds ++ dfl) h = res at p ⊢
      cases res with
      | no => exact p
      | ex cc ns es h' =>
        intro dd W' H' g1 g2 g3 g4 g5 o hO ex
        have l := fin (W' := W') (H' := H') (h' := h') g1 g2 g3 g4 g5
        replace p : ∀ dx W' H', Le W H W' H' → WOk X.K W' h' H' → ExAt X.K W'.F W'.m H H' ns es dx → T (.ref (ga X.K cc)) dx σ H' := p
        exact p dd ⟨W'.F, W'.m, W.O⟩ H' l (ok.reO l o) (ex.back fun d => back d)
      | ok pr h' =>
        obtain ⟨ns, es⟩ := pr
        intro W' H' ws g1 g2 g3 g4 g5 o hO hx' hlen hr' hF' hm'
        refine ⟨rfl, ?_⟩
        have l := fin (W' := W') (H' := H') (h' := h') g1 g2 g3 g4 g5
        have oo := ok.reO l o
        have no : ∀ (i : Nat) u, (⟨W'.F, W'.m, W.O⟩ : Wd).O[i]? ≠ some (some (x, u)) := fun i u e => by
          have := (ok.own i x u e).1
          rw [hx] at this; cases this
        obtain ⟨o3, exF⟩ := freeze (W := ⟨W'.F, W'.m, W.O⟩) oo hx' hF' hm' no
        refine p ⟨upd W'.F x (.ins (ga X.K c) dx (ns.zip ws)), W'.m, W.O⟩ H' ⟨l.F.tr exF, l.frm, fun b u e => ?_, l.m, rfl, l.cel⟩ o3 _ ?_
        · by_cases z : b = x
          · subst z; exact .inr hx
          · replace e : upd W'.F x (.ins (ga X.K c) dx (ns.zip ws)) b = some u := e
            rw [upd_ne z] at e
            exact l.new b u e
        · unfold Rp
          exact ⟨x, dx, ws, rfl, upd_same, hlen, Rps.mono exF ⟨[], by simp⟩ _ hr'⟩
    refine wpAny_call (make_map (f := f) I.kIn Mk'.makes Mk'.init (beq_iff_eq.mp Mk'.fn) (codeAny_mono (F.run _ X.stack _ _ ⟨Value.ref (s.heap.objs.size + 1) :: us, []⟩ (Value.ref (s.heap.objs.size + 1) :: (us ++ dus)) _ _ _ (hr.make (ga X.K c) us [])
      (I2.env0.make (ga X.K c) us []) (hb _ (Value.ref (s.heap.objs.size + 1) :: us) I2.kIn hl2) r2 (hE _ _ (I.hok.fresh (Nat.le_succ _)) (I.hok.fresh (Nat.le_refl _)) ndx)) fun r s' hq' => ?_))
    cases r with
    | error e => exact tk e s' (XE.of_call I2 (fun _ _ _ z => z) hq')
    | ok fl =>
      cases fl with
      | ret u =>
        obtain ⟨v, H', I3, rv, ev, q3⟩ := I2.after hq'
        subst ev
        exact ⟨rv, ⟨V.ref (s.heap.objs.size + 1), H', I3, vR _, q3⟩⟩
      | next => exact hq'.elim
      | brk => exact hq'.elim
      | cont => exact hq'.elim
  · rw [if_neg hl] at p
    exact p.elim
end Z
set_option Elab.async false
set_option linter.all false
set_option maxRecDepth 100000
set_option maxHeartbeats 4000000
namespace Z
open PySem PySem.Spec PyProof.Rows L2 G
variable {K : PySem.W.Frag} {F F' H H' : Hp} {m m' : List Addr}
/-! ### what is not looked at -/
def mNoS : SC := fun _ _ => .no
def mNo : EM := fun _ _ => .no
theorem ss_no {T : WX} {X : Cx} {st : Stmt} : SS T X st mNoS := fun _ _ _ _ _ _ _ _ p => p.elim
theorem se_no {T : WX} {X : Cx} {e : Expr} : SE T X e mNo := fun _ _ _ _ _ _ _ _ p => p.elim
/-! ### lists of one's own -/
theorem PostS.upF {α : Type} {T : WX} {W : Wd} {σ : L2.St} {ε : Ev} {h : Store} {E : Ends} {r : R (List D)} {k : List D → Store → R Fw} (i : Nat) (p : PostS K T W H (R.up r ε k) E) (ok : WOk K W h H) (rel : Rel K W.F W.m σ ε W.O) :
    Post K T W H σ r (fun ds h' W' H' => ∀ q vs, H q = none → H' q = some (.lst vs) → W'.F q = none → q ∉ W'.m → Rps K W'.F W'.m ds vs → Rel K W'.F W'.m (σ.set i (some (.ref q))) (ε.set i (.ol ds)) (W'.O.set i (some (q, .lst vs))) ∧ WOk K ⟨W'.F, W'.m, W'.O.set i (some (q, .lst vs))⟩ h' H' ∧ PostS K T ⟨W'.F, W'.m, W'.O.set i (some (q, .lst vs))⟩ H' (k ds h') E) := by
  cases r with
  | no => exact p
  | ex c ns ds h' => exact fun dx W' H' l o e => p dx σ W' H' (l.lg ok) o (rel.le l) e
  | ok ds h' =>
    intro W' H' l o q vs hq hq' hF hm hr
    have no : ∀ (j : Nat) u, W'.O[j]? ≠ some (some (q, u)) := fun j u e => by
      rw [l.O] at e
      have := (ok.own j q u e).1
      rw [hq] at this; cases this
    have get : ∀ {j a u}, (W'.O.set i (some (q, HO.lst vs)))[j]? = some (some (a, u)) → (j = i ∧ a = q ∧ u = .lst vs) ∨ (j ≠ i ∧ W'.O[j]? = some (some (a, u))) := fun {j a u} z => by
      by_cases e : i = j
      · subst e
        have hi := (List.getElem?_eq_some_iff.mp z).1
        rw [List.getElem?_set_self (by simpa using hi)] at z
        cases z
        exact .inl ⟨rfl, rfl, rfl⟩
      · rw [List.getElem?_set_ne e] at z
        exact .inr ⟨Ne.symm e, z⟩
    have o2 : WOk K ⟨W'.F, W'.m, W'.O.set i (some (q, .lst vs))⟩ h' H' := by
      refine ⟨o.sub, o.len, o.cel, o.mF, o.mN, o.nd, fun j a u z => ?_, fun j k a u a' u' nk z1 z2 => ?_⟩
      · rcases get z with ⟨rfl, rfl, rfl⟩ | ⟨_, z⟩
        · exact ⟨hq', hF, hm⟩
        · exact o.own j a u z
      · rcases get z1 with ⟨rfl, rfl, rfl⟩ | ⟨nj, y1⟩
        · rcases get z2 with ⟨rfl, rfl, rfl⟩ | ⟨nj2, y2⟩
          · exact absurd rfl nk
          · exact fun z => no _ _ (z ▸ y2)
        · rcases get z2 with ⟨rfl, rfl, rfl⟩ | ⟨nj2, y2⟩
          · exact fun z => no _ _ (z ▸ y1)
          · exact o.ond _ _ _ _ _ _ nk y1 y2
    refine ⟨(rel.le l).set (show SR _ _ _ _ (.ol ds) _ from ⟨q, vs, rfl, rfl, hr⟩), o2, PostS.lg p ⟨l.F, fun a u e h1 _ => l.frm a u e h1, fun a u e => (l.new a u e).imp id .inl, l.m, fun j a u z => ?_, l.cel, fun j a u e => ?_, fun j a C dx gs z => ?_⟩⟩
    · rcases get z with ⟨rfl, rfl, rfl⟩ | ⟨_, z⟩
      · exact .inl hq
      · exact .inr ⟨j, u, by rw [← l.O]; exact z⟩
    · obtain ⟨g1, _, g3⟩ := ok.own j a u e
      rw [l.frm _ _ g1 g3]; simp
    · rcases get z with ⟨_, _, y⟩ | ⟨_, z⟩
      · cases y
      · exact ⟨gs, by rw [← l.O]; exact z⟩
/-- x = a fresh list, kept as one's own -/
def mAsgL (i : Nat) (c : Ev → M (List D)) : SC := fun ε h => (c ε h).up ε fun ds h1 => .ok (.nx (ε.set i (.ol ds))) h1
/-- x.append(e) -/
def mApp (i : Nat) (c : EM) : SC := fun ε h => match ε[i]? with
  | some (.ol ds) => (c ε h).up ε fun d h1 => if ds.length < 100000 then .ok (.nx (ε.set i (.ol (ds ++ [d])))) h1 else .no
  | _ => .no
/-- what a name owns goes to the frozen -/
def mFrz (i : Nat) (c : SC) : SC := fun ε h => match ε[i]? with
  | some (.ol ds) => c (ε.set i (.pu (.lst ds))) h
  | some (.od ks ds) => c (ε.set i (.pu (.dic ks ds))) h
  | some (.pu _) => c ε h
  | _ => .no
theorem Rel.ol {σ : L2.St} {ε : Ev} {O : List (Option (Addr × HO))} (r : Rel K F m σ ε O) {i : Nat} {ds : List D} (h : ε[i]? = some (.ol ds)) : ∃ p vs, σ[i]? = some (some (.ref p)) ∧ O[i]? = some (some (p, .lst vs)) ∧ Rps K F m ds vs := by
  have hi := (List.getElem?_eq_some_iff.mp h).1
  have h1 : σ[i]? = some (σ[i]'(by rw [r.l1]; exact hi)) := List.getElem?_eq_getElem _
  have h2 : O[i]? = some (O[i]'(by rw [r.l2]; exact hi)) := List.getElem?_eq_getElem _
  obtain ⟨p, vs, e1, e2, e3⟩ := r.at_ i _ _ _ h1 h h2
  exact ⟨p, vs, by rw [h1, e1], by rw [h2, e2], e3⟩
theorem set_id {α : Type} {l : List α} {i : Nat} {a : α} (h : l[i]? = some a) : l.set i a = l := by
  apply List.ext_getElem?
  intro j
  by_cases z : i = j
  · subst z
    rw [List.getElem?_set_self (List.getElem?_eq_some_iff.mp h).1, h]
  · rw [List.getElem?_set_ne z]
theorem Rel.od {σ : L2.St} {ε : Ev} {O : List (Option (Addr × HO))} (r : Rel K F m σ ε O) {i : Nat} {ks : List Key} {ds : List D} (h : ε[i]? = some (.od ks ds)) : ∃ p vs, σ[i]? = some (some (.ref p)) ∧ O[i]? = some (some (p, .dK (ks.zip vs))) ∧ ks.length = vs.length ∧ Rps K F m ds vs := by
  have hi := (List.getElem?_eq_some_iff.mp h).1
  have h1 : σ[i]? = some (σ[i]'(by rw [r.l1]; exact hi)) := List.getElem?_eq_getElem _
  have h2 : O[i]? = some (O[i]'(by rw [r.l2]; exact hi)) := List.getElem?_eq_getElem _
  obtain ⟨p, vs, e1, e2, e3, e4⟩ := r.at_ i _ _ _ h1 h h2
  exact ⟨p, vs, by rw [h1, e1], by rw [h2, e2], e3, e4⟩
section
variable {T : WX} {X : Cx} {e o : Expr} {c : EM} {cl : Ev → M (List D)} {i : Nat} {x : Str} {pos p' apos : Pos} {st : Stmt} {sts : List Stmt} {cS : SC}
theorem ss_asgL (w : Sw X i x) (hs : swapsWith e (some (.Name x p')) pos.line X.env = pure false) (he : SF T X e cl) : SS T X (.Assign [.Name x p'] e pos) (mAsgL i cl) := by
  intro ε σ W h H E r o p
  refine s_set w hs (he ε σ W h H _ r o (Post.mono (PostS.upF (α := D) i p o r) (Le.rfl' o.mN) fun ds h1 W1 H1 l1 o1 p1 q vs hq hq1 hF hm hr => ?_))
  obtain ⟨r2, o2, p2⟩ := p1 q vs hq hq1 hF hm hr
  exact st_ok rfl (p2 _ _ _ (Lg.rfl' o2) o2 r2)
theorem app_go {σ : L2.St} {pins : List (Addr × Obj)} {s : Shared} {q : Addr} {vs : List V} {v : V} {u : Value} {Q : VK} (I : Inv X pins σ H s) (hq : H q = some (.lst vs)) (hl : vs.length < sizeLine) (r : RelV v u) (k : Q .non (upd H q (.lst (vs ++ [v])))) : wpAny (model X.prog X.w) X.A (call (.builtin "list.append") [.ref q, u]) (EP X pins σ Q) X.xe s :=
  app_ok I hq hl r fun s' I' => ⟨.non, _, I', rfl, k⟩
theorem ss_app (l : Sl X i x) (hs : swapsWith (.Call (.Attribute (.Name x p') "append" apos) [e] [] pos) none pos.line X.env = pure false) (hst : starEach [e] X.env = [(false, eval e X.env)])
    (hbase : attributeBase (.Name x p') "append" X.env (eval (.Name x p') X.env) = eval (.Name x p') X.env)
    (hfew : ((backTo pos (starEach [e] X.env)).all (fun x => !x.1) && (backToKw pos (keywordEach [] X.env)).all (fun x => x.1.isSome) && decide (([e]).length + ([] : List Keyword).length + (if ([] : List Keyword).isEmpty then 0 else 1) < 30)) = true)
    (hline : (apos.endLine == pos.line) = true) (he : SE T X e c) : SS T X (.Expr (.Call (.Attribute (.Name x p') "append" apos) [e] [] pos) pos) (mApp i c) := by
  intro ε σ W h H E r o p
  refine s_expr hs ?_
  unfold mApp at p
  split at p
  · rename_i ds hi
    have q0 := PostS.up p o r
    obtain ⟨q, vs, e1, e2, e3⟩ := r.ol hi
    refine ge (pe_bm PySem.F.plainAttrs_list PySem.F.slot_list_append PySem.F.type_list_append mt_append pe (pa_cons pe pa_nil hst) hbase hfew hline hst (by rfl)) ?_
    refine e_name l e1 ⟨.inl ⟨rfl, vs, .inl (.inl (o.own i q _ e2).1)⟩, ?_⟩
    refine he ε σ W h H _ r o (Post.mono q0 (Le.rfl' o.mN) fun d h1 W1 H1 l1 o1 p1 v hv => ?_)
    by_cases hl : ds.length < 100000
    · rw [if_pos hl] at p1
      have e2' : W1.O[i]? = some (some (q, .lst vs)) := by rw [l1.O]; exact e2
      obtain ⟨o2, l2⟩ := own_upd (o' := .lst (vs ++ [v])) o1 e2' (fun C dx gs z => by cases z)
      have e3' := Rps.mono l1.F l1.mx _ e3
      refine ⟨q, vs, v, rfl, rfl, (o1.own i q _ e2').1, by rw [← e3.len]; have := sizeL; omega, p1 σ _ _ l2 o2 ?_⟩
      have rr := (r.le l1).set (i := i) (show SR _ _ _ (some (.ref q)) (.ol (ds ++ [d])) (some (q, .lst (vs ++ [v]))) from ⟨q, _, rfl, rfl, e3'.app (Rps.cons hv Rps.nil)⟩)
      rw [set_id e1] at rr
      exact rr
    · rw [if_neg hl] at p1
      exact p1.elim
  · exact p.elim
/-- a name that owns is read as a value from here on -/
theorem frz_rel {σ : L2.St} {ε : Ev} {W : Wd} {h : Store} {q : Addr} {u : HO} {d : D} (o : WOk X.K W h H) (r : Rel X.K W.F W.m σ ε W.O) (e1 : σ[i]? = some (some (.ref q))) (e2 : W.O[i]? = some (some (q, u))) (hr : Rp X.K (upd W.F q u) W.m d (.ref q)) :
    WOk X.K ⟨upd W.F q u, W.m, W.O.set i none⟩ h H ∧ Rel X.K (upd W.F q u) W.m σ (ε.set i (.pu d)) (W.O.set i none) ∧ Lg W H ⟨upd W.F q u, W.m, W.O.set i none⟩ H := by
  obtain ⟨g1, g2, g3⟩ := o.own i q u e2
  have hi := (List.getElem?_eq_some_iff.mp e2).1
  have no : ∀ (j : Nat) u', (W.O.set i none)[j]? ≠ some (some (q, u')) := fun j u' z => by
    by_cases y : i = j
    · subst y
      rw [List.getElem?_set_self hi] at z
      cases z
    · rw [List.getElem?_set_ne y] at z
      exact o.ond i j q u q u' y e2 z rfl
  obtain ⟨o2, ex⟩ := freeze (o.drop i) g1 g2 g3 no
  refine ⟨o2, ?_, ⟨ex, fun a v e _ _ => e, fun a v e => ?_, ⟨[], by simp, fun _ z => by cases z⟩, fun j a v z => .inr ⟨j, v, own_set z⟩, o.mN, fun j a v z => by rw [(o.own j a v z).1]; simp, fun j a C dx gs z => ⟨gs, own_set z⟩⟩⟩
  · have rr := (r.mono ex ⟨[], by simp⟩).set (i := i) (show SR X.K (upd W.F q u) W.m (some (.ref q)) (.pu d) none from ⟨rfl, _, rfl, hr⟩)
    rw [set_id e1] at rr
    exact rr
  · by_cases z : a = q
    · subst z; exact .inr (.inr ⟨i, u, e2⟩)
    · replace e : upd W.F q u a = some v := e
      rw [upd_ne z] at e
      exact .inl e
theorem ss_frz (hs : SS T X st cS) : SS T X st (mFrz i cS) := by
  intro ε σ W h H E r o p
  unfold mFrz at p
  split at p
  · rename_i ds hi
    obtain ⟨q, vs, e1, e2, e3⟩ := r.ol hi
    obtain ⟨o2, r2, l2⟩ := frz_rel (d := .lst ds) o r e1 e2 (by unfold Rp; exact ⟨q, vs, rfl, upd_same, Rps.mono (Ex.new (o.own i q _ e2).2.1) ⟨[], by simp⟩ _ e3⟩)
    exact hs _ σ _ h H E r2 o2 (PostS.lg p l2)
  · rename_i ks ds hi
    obtain ⟨q, vs, e1, e2, e3, e4⟩ := r.od hi
    obtain ⟨o2, r2, l2⟩ := frz_rel (d := .dic ks ds) o r e1 e2 (by unfold Rp; exact ⟨q, vs, rfl, upd_same, e3, Rps.mono (Ex.new (o.own i q _ e2).2.1) ⟨[], by simp⟩ _ e4⟩)
    exact hs _ σ _ h H E r2 o2 (PostS.lg p l2)
  · exact hs ε σ W h H E r o p
  · exact p.elim
end
/-! ### a cell's list, by place -/
/-- s[i] = e -/
def mSetC (a b c : EM) : SC := fun ε h => (c ε h).up ε fun d h1 => (a ε h1).up ε fun x h2 => (b ε h2).up ε fun y h3 => match x, y with
  | .cell j, .int k => (match h3[j]? with
    | some (.lst ds) => (match ixN ds.length k with
      | some n => .ok (.nx ε) (h3.set j (.lst (ds.set n d)))
      | none => .no)
    | _ => .no)
  | _, _ => .no
section
variable {T : WX} {X : Cx} {a b e : Expr} {ca cb ce : EM} {pos pos' : Pos}
theorem cell_set {W : Wd} {h : Store} {j : Nat} {q : Addr} {c c' : Ce} {o' : HO} (ok : WOk K W h H) (hm : W.m[j]? = some q) (hj : h[j]? = some c) (hc : CeOk K W.F W.m (upd H q o') q c') : WOk K W (h.set j c') (upd H q o') ∧ Lg W H W (upd H q o') := by
  have qm : q ∈ W.m := List.mem_of_getElem? hm
  have nF : ∀ {b u}, W.F b = some u → b ≠ q := fun e z => by subst z; rw [ok.mF _ qm] at e; cases e
  refine ⟨⟨fun b u z => by rw [upd_ne (nF z)]; exact ok.sub b u z, by rw [List.length_set]; exact ok.len, fun i b x e1 e2 => ?_, ok.mF, fun b hb => ?_, ok.nd, fun i b u z => ?_, ok.ond⟩,
    ⟨Ex.rfl', fun b u h1 h2 _ => by rw [upd_ne (show b ≠ q by rintro rfl; exact h2 qm)]; exact h1, fun _ _ z => .inl z, ⟨[], by simp, fun _ z => by cases z⟩, fun j b u z => .inr ⟨j, u, z⟩, fun b hb => ?_, fun i b u z => ?_, fun j b C dx gs z => ⟨gs, z⟩⟩⟩
  · by_cases z : i = j
    · subst z
      rw [hm] at e1
      cases e1
      rw [List.getElem?_set_self (List.getElem?_eq_some_iff.mp hj).1] at e2
      cases e2
      exact hc
    · rw [List.getElem?_set_ne (Ne.symm z)] at e2
      have nb : b ≠ q := fun y => by
        subst y
        have := (List.getElem?_inj (List.getElem?_eq_some_iff.mp e1).1 ok.nd).mp (e1.trans hm.symm)
        exact z this
      have k := ok.cel i b x e1 e2
      cases x with
      | lst ds => exact let ⟨vs, g1, g2⟩ := k; ⟨vs, by rw [upd_ne nb]; exact g1, g2⟩
      | obj c ns ds => exact let ⟨dx, vs, g1, g2, g3⟩ := k; ⟨dx, vs, by rw [upd_ne nb]; exact g1, g2, g3⟩
      | dic ks ds => exact let ⟨vs, g1, g2, g3⟩ := k; ⟨vs, by rw [upd_ne nb]; exact g1, g2, g3⟩
      | tab x q2 => exact ⟨k.1, k.2.mono Ex.rfl' fun o z => by rw [upd_ne nb]; exact z⟩
  · by_cases z : b = q
    · subst z; rw [upd_same]; simp
    · rw [upd_ne z]; exact ok.mN b hb
  · obtain ⟨g1, g2, g3⟩ := ok.own i b u z
    exact ⟨by rw [upd_ne (show b ≠ q by rintro rfl; exact g3 qm)]; exact g1, g2, g3⟩
  · by_cases z : b = q
    · subst z; rw [upd_same]; simp
    · rw [upd_ne z]; exact ok.mN b hb
  · obtain ⟨g1, g2, g3⟩ := ok.own i b u z
    rw [upd_ne (show b ≠ q by rintro rfl; exact g3 qm), g1]
    simp
theorem ss_setc (hs : swapsWithSole [.Subscript a b pos'] e pos.line X.env = pure false) (hw : swappedStores [.Subscript a b pos'] e X.env = pure none) (h1 : (assignEach [.Subscript a b pos'] X.env).map (·.2) = [assign (.Subscript a b pos') X.env])
    (ha' : ∀ v, assign (.Subscript a b pos') X.env v = (do
      let ov ← holding [v] (eval a X.env)
      let iv ← holding [v, ov] (eval b X.env)
      standAt pos'
      holding [v, ov, iv] (setItem ov iv v)
      release [v, ov, iv] [])) (ha : SE T X a ca) (hb : SE T X b cb) (he : SE T X e ce) : SS T X (.Assign [.Subscript a b pos'] e pos) (mSetC ca cb ce) := by
  intro ε σ W h H E r o p
  refine s_asg hs hw h1 (he ε σ W h H _ r o (Post.mono (PostS.up p o r) (Le.rfl' o.mN) fun d h1 W1 H1 l1 o1 p1 v hv => ?_))
  refine g_subL ha' (ha ε σ W1 h1 H1 _ (r.le l1) o1 (Post.mono (PostS.up p1 o1 (r.le l1)) (Le.rfl' o1.mN) fun x h2 W2 H2 l2 o2 p2 xv hx => ?_))
  refine hb ε σ W2 h2 H2 _ ((r.le l1).le l2) o2 (Post.mono (PostS.up p2 o2 ((r.le l1).le l2)) (Le.rfl' o2.mN) fun y h3 W3 H3 l3 o3 p3 yv hy => ?_)
  have r3 := ((r.le l1).le l2).le l3
  split at p3
  · rename_i j k
    have hx3 := Rp.mono l3.F l3.mx _ hx
    unfold Rp at hx3 hy
    obtain ⟨q, rfl, hm⟩ := hx3
    subst hy
    split at p3
    · rename_i ds hj
      split at p3
      · rename_i n hn
        obtain ⟨vs, g1, g2⟩ := o3.cel j q _ hm hj
        have hv3 := Rp.mono l3.F l3.mx _ (Rp.mono l2.F l2.mx _ hv)
        obtain ⟨o4, l4⟩ := cell_set (o' := .lst (vs.set n v)) (c' := .lst (ds.set n d)) o3 hm hj ⟨_, upd_same, g2.set n hv3⟩
        exact ⟨q, vs, k, n, rfl, rfl, g1, by rw [← g2.len]; exact hn, p3 σ W3 _ l4 o4 r3⟩
      · exact p3.elim
    · exact p3.elim
  · exact p3.elim
end
/-- a list display that is kept as a cell -/
def mCel (c : Ev → M (List D)) : EM := fun ε h => (c ε h).bnd fun ds h1 => .ok (.cell h1.length) (h1 ++ [.lst ds])
theorem SF.cell {T : WX} {X : Cx} {e : Expr} {cs : Ev → M (List D)} (s : SF T X e cs) : SE T X e (mCel cs) := by
  intro ε σ W h H Q r o p
  refine s ε σ W h H Q r o ?_
  unfold mCel at p
  cases q : cs ε h with
  | no => rw [q] at p; exact p
  | ex c ns ds h' => rw [q] at p; exact p
  | ok ds h' =>
    rw [q] at p
    intro W' H' l' o' a vs ha hp hF hm hr
    have no : ∀ (i : Nat) u, W'.O[i]? ≠ some (some (a, u)) := fun i u e => by
      rw [l'.O] at e
      have := (o.own i a u e).1
      rw [ha] at this; cases this
    have mx : ∃ n, W'.m ++ [a] = W'.m ++ n := ⟨[a], rfl⟩
    have o2 : WOk X.K ⟨W'.F, W'.m ++ [a], W'.O⟩ (h' ++ [.lst ds]) H' := by
      refine ⟨o'.sub, by simp [o'.len], fun i b x e1 e2 => ?_, fun b hb => ?_, fun b hb => ?_, ?_, fun i b u z => ?_, o'.ond⟩
      · by_cases z : i < W'.m.length
        · rw [List.getElem?_append_left z] at e1
          rw [List.getElem?_append_left (by rw [← o'.len]; exact z)] at e2
          have k := o'.cel i b x e1 e2
          cases x with
          | lst ds => exact let ⟨vs, g1, g2⟩ := k; ⟨vs, g1, Rps.mono Ex.rfl' mx ds g2⟩
          | obj c ns ds => exact let ⟨dx, vs, g1, g2, g3⟩ := k; ⟨dx, vs, g1, g2, Rps.mono Ex.rfl' mx ds g3⟩
          | dic ks ds => exact let ⟨vs, g1, g2, g3⟩ := k; ⟨vs, g1, g2, Rps.mono Ex.rfl' mx ds g3⟩
          | tab x q2 => exact ⟨k.1, k.2.mono Ex.rfl' fun o z => z⟩
        · rw [List.getElem?_append_right (by omega)] at e1
          rw [List.getElem?_append_right (by rw [← o'.len]; omega)] at e2
          have z0 : i - W'.m.length = 0 := by
            have := (List.getElem?_eq_some_iff.mp e1).1
            simp at this
            omega
          rw [← o'.len] at e2
          rw [z0] at e1 e2
          cases e1
          cases e2
          exact ⟨vs, hp, Rps.mono Ex.rfl' mx ds hr⟩
      · rcases List.mem_append.mp hb with hb | hb
        · exact o'.mF b hb
        · simp at hb; subst hb; exact hF
      · rcases List.mem_append.mp hb with hb | hb
        · exact o'.mN b hb
        · simp at hb; subst hb; rw [hp]; simp
      · rw [List.nodup_append]
        exact ⟨o'.nd, by simp, fun b hb c hc => by simp at hc; subst hc; rintro rfl; exact hm hb⟩
      · obtain ⟨g1, g2, g3⟩ := o'.own i b u z
        refine ⟨g1, g2, fun hb => ?_⟩
        rcases List.mem_append.mp hb with hb | hb
        · exact g3 hb
        · simp at hb; subst hb; exact no i u z
    obtain ⟨n, en, hn⟩ := l'.m
    refine p ⟨W'.F, W'.m ++ [a], W'.O⟩ H' ⟨l'.F, l'.frm, l'.new, ⟨n ++ [a], by rw [← List.append_assoc, ← en], fun b hb => ?_⟩, l'.O, l'.cel⟩ o2 _ ?_
    · rcases List.mem_append.mp hb with hb | hb
      · exact hn b hb
      · simp at hb; subst hb; exact ha
    · unfold Rp
      exact ⟨a, rfl, by rw [← o'.len]; simp⟩
end Z
set_option Elab.async false
set_option linter.all false
set_option maxRecDepth 100000
set_option maxHeartbeats 4000000
namespace Z
open PySem PySem.Spec PyProof.Rows L2 G
variable {K : PySem.W.Frag} {F F' H H' : Hp} {m m' : List Addr}
/-! ### what the head tells -/
/-- where a def stands -/
inductive Ad where
  | glo (x : Str) | meth (c m : Str) | prop (c m : Str) | stat (c m : Str)
def propAd (K : PySem.W.Frag) (c m : Str) : Addr := match PySem.W.findIn K (.ref (ga K c)) m with
  | some (some (.ref a)) => a
  | _ => 0
def statRec (K : PySem.W.Frag) (c m : Str) : Addr := match PySem.W.typeIn K (.ref (ga K c)) with
  | some mc => (match PySem.W.findCls K (.ref (ga K c)) mc m with
    | some (.get _ (.ref p) _ _) => p
    | _ => 0)
  | none => 0
def Ad.at (K : PySem.W.Frag) : Ad → Addr
  | .glo x => ga K x
  | .meth c m => propAd K c m
  | .prop c m => (match PySem.W.recIn K (propAd K c m) "property" with
    | some (.ref g :: _) => g
    | _ => 0)
  | .stat c m => (match PySem.W.recIn K (statRec K c m) "staticmethod" with
    | some (.ref g :: _) => g
    | _ => 0)
abbrev FnZ : Type := Option (Str × Str × Arguments × FuncBody × Scope × Addr × List (Str × Addr) × Addr)
def fnZ (K : PySem.W.Frag) (p : Ad) : FnZ := match K.lookup (p.at K) with
  | some ⟨_, _, .func fd, _⟩ => some (fd.name, fd.qualname, fd.params, fd.body, fd.scope, fd.globals, fd.closure, fd.builtins)
  | _ => none
structure DefZ where
  at_ : Ad
  name : Str
  qual : Str
  st : Stmt
  dfl : List V := []
  kwd : List (Str × V) := []
def DefZ.val (d : DefZ) : FnZ := some (d.name, d.qual, defArgs d.st, .stmts (defBody d.st), defScope d.st, mainGlobals, [], builtinsNs)
def DefZ.ok (K : PySem.W.Frag) (d : DefZ) : Bool := PySem.W.keepIn K (.ref (d.at_.at K)) && (match K.lookup (d.at_.at K) with
  | some ⟨_, _, .func fd, _⟩ => PySem.W.codeIn K fd.code d.qual && (He.dflB K fd.defaults d.dfl && He.kwdB K fd.kwdefaults d.kwd)
  | _ => false)
theorem DefZ.funD {K : PySem.W.Frag} {d : DefZ} (e : fnZ K d.at_ = d.val) (c : d.ok K = true) : ∃ fd, FunD K d.name d.qual (defArgs d.st) (defBody d.st) (defScope d.st) d.dfl d.kwd (d.at_.at K) fd := by
  obtain ⟨kp, c2⟩ := He.ba c
  unfold fnZ at e
  cases q : K.lookup (d.at_.at K) with
  | none =>
    rw [q] at c2
    cases c2
  | some o =>
    obtain ⟨oc, od, dt, osl⟩ := o
    rw [q] at c2 e
    cases dt with
    | func fd =>
      obtain ⟨n1, n2, n3, n4, n5, n6, n7, n8, n9, n10, n11, n12, n13, n14, n15⟩ := fd
      have e2 : (some (n1, n2, n3, n4, n5, n6, n7, n15) : FnZ) = some (d.name, d.qual, defArgs d.st, .stmts (defBody d.st), defScope d.st, mainGlobals, [], builtinsNs) := e
      simp only [Option.some.injEq, Prod.mk.injEq] at e2
      obtain ⟨h1, h2, h3, h4, h5, h6, h7, h8⟩ := e2
      subst h1 h2 h3 h4 h5 h6 h7 h8
      have c3 : (PySem.W.codeIn K n13 d.qual && (He.dflB K n8 d.dfl && He.kwdB K n9 d.kwd)) = true := c2
      obtain ⟨k1, k2⟩ := He.ba c3
      obtain ⟨k3, k4⟩ := He.ba k2
      exact ⟨_, ⟨oc, od, n8, n9, n10, n11, n12, n13, n14, osl, rfl, q, k1, He.dflB_ok k3, He.kwdB_ok k4⟩, kp⟩
    | _ => cases c2
/-- no class of the line has the op= method -/
def noI (K : PySem.W.Frag) (C : Addr) (nm : String) : Bool := match PySem.W.clsIn K C with
  | some cd => cd.mro.all fun v => decide (PySem.W.findIn K v (dunderI nm) = some none)
  | none => false
def slotF (o : Option (Option Value)) : Bool := match o with
  | some fo => fo.isSome && !isSeqSlot fo
  | none => true
/-- the facts of the text that the walks lean on -/
inductive Fz where
  | glo (x : Str)
  | free (x : Str)
  | int (x : Str) (i : Int)
  | str (x z : Str)
  | cls (c : Str)
  | mk (c : Str)
  | noat (c f : Str)
  | meth (c m : Str)
  | prop (c m : Str)
  | stat (c m : Str)
  | dflt (c m : Str) (b : String)
  | kit (k u : TK) (b : Bool)
  | nf (c : Str) (k : TK)
  | nu (c : Str) (op : Operator)
  | noi (c : Str) (op : Operator)
  | kits (t : List (TK × TK × Bool))
  | flds (cl : List Str) (f : Str)
  | xc (c f : Str)
  | x0 (c : Str)
  | xv (cl : List Str) (f : Str)
  | exm (x : Str) (t : List (Str × Bool))
  | exms (xs : List Str) (t : List (Str × Bool))
  | nta (c : Str) (op : Operator)
  | nfa (c : Str) (op : Operator)
def eqO (a b : Option (Option Value)) : Bool := decide (a = b)
def isoO : Option (Option Value) → Bool
  | some _ => true
  | none => false
def refO : Option (Option Value) → Bool
  | some none => true
  | some (some (.ref _)) => true
  | _ => false
def clsOk (K : PySem.W.Frag) (c : Str) : Bool := PySem.W.plainGet K (ga K c) Str.empty && (PySem.W.hasDictIn K (ga K c) && (PySem.W.plainOver K (ga K c) && (eqO (PySem.W.findIn K (.ref (ga K c)) "__setattr__") (some (some (.builtin "object.__setattr__"))) &&
      (eqO (PySem.W.findIn K (.ref (ga K c)) "__class__") (some (some (.builtin "object.__class__"))) && (eqO (PySem.W.specialIn K (.builtin "object.__class__") "__get__") (some (some (.builtin "getset_descriptor.__get__"))) &&
      (decide (PySem.W.takesIn K (.builtin "object.__class__") = some true) && decide (PySem.W.mroIn K (ga K c) (.type "object") = some true)))))))
def tlX (B : String) : List Value := [.type B, .type "Exception", .type "BaseException", .type "object"]
def xbB (K : PySem.W.Frag) (C : Addr) (B N : String) : Bool := PySem.W.excInitIn K C (tlX B) N && PySem.W.excOver K C (tlX B)
def xiB (K : PySem.W.Frag) (C : Addr) (B N : String) : Bool := PySem.W.excIn K C (tlX B) N
def Fz.ok (K : PySem.W.Frag) : Fz → Bool
  | .xc c f => (xbB K (ga K c) "ValueError" "ValueError.__new__" || (xbB K (ga K c) "LookupError" "LookupError.__new__" || (xbB K (ga K c) "RuntimeError" "RuntimeError.__new__" || xbB K (ga K c) "ArithmeticError" "ArithmeticError.__new__"))) && (PySem.W.hasDictIn K (ga K c) && (eqO (PySem.W.findIn K (.ref (ga K c)) "__setattr__") (some (some (.builtin "object.__setattr__"))) &&
      (decide (PySem.W.subIn K (.ref (ga K c)) (.type "BaseException") = some true) && (decide (PySem.W.typeIn K (.ref (ga K c)) = some (.type "type")) && (PySem.W.keepIn K (.ref (ga K c)) && (eqO (PySem.W.findIn K (.ref (ga K c)) f) (some none) &&
      (eqO (PySem.W.findIn K (.ref (ga K c)) "__init__") (some (some (.ref (propAd K c "__init__")))) && decide (PySem.W.typeIn K (.ref (propAd K c "__init__")) = some (.type "function")))))))))
  | .x0 c => (xiB K (ga K c) "ValueError" "ValueError.__new__" || (xiB K (ga K c) "LookupError" "LookupError.__new__" || (xiB K (ga K c) "RuntimeError" "RuntimeError.__new__" || xiB K (ga K c) "ArithmeticError" "ArithmeticError.__new__"))) && (decide (PySem.W.subIn K (.ref (ga K c)) (.type "BaseException") = some true) && (decide (PySem.W.typeIn K (.ref (ga K c)) = some (.type "type")) && PySem.W.keepIn K (.ref (ga K c))))
  | .xv cl f => cl.all fun c => eqO (PySem.W.findIn K (.ref (ga K c)) "__getattribute__") (some (some (.builtin "BaseException.__getattribute__"))) && (eqO (PySem.W.findIn K (.ref (ga K c)) "__getattr__") (some none) && (decide (PySem.W.subIn K (.ref (ga K c)) (.type "BaseException") = some true) && (PySem.W.hasDictIn K (ga K c) &&
      (eqO (PySem.W.findIn K (.ref (ga K c)) "__class__") (some (some (.builtin "object.__class__"))) && (eqO (PySem.W.specialIn K (.builtin "object.__class__") "__get__") (some (some (.builtin "getset_descriptor.__get__"))) && (decide (PySem.W.takesIn K (.builtin "object.__class__") = some true) && (decide (PySem.W.mroIn K (ga K c) (.type "object") = some true) && eqO (PySem.W.findIn K (.ref (ga K c)) f) (some none))))))))
  | .exm x t => t.all fun q => decide (PySem.W.exmOne K (.ref (ga K q.1)) (.ref (ga K x)) = some q.2)
  | .exms xs t => t.all fun q => decide (PySem.W.exmAny K (.ref (ga K q.1)) (xs.map fun x => .ref (ga K x)) = some q.2)
  | .nta c op => ["NoneType", "bool", "int", "str", "tuple", "list", "dict"].all fun t => isoO (PySem.W.findIn K (.type t) (PySem.dunder op.info.2)) && (isoO (PySem.W.findIn K (.type t) (PySem.dunderR op.info.2)) && decide (PySem.W.subIn K (.type t) (.ref (ga K c)) = some false))
  | .nfa c op => (["NoneType", "dict"].all fun t => !slotF (PySem.W.findIn K (.type t) (PySem.dunder op.info.2)) && !slotF (PySem.W.findIn K (.type t) (PySem.dunderR op.info.2))) && decide (PySem.W.mroIn K (ga K c) (.type "bool") = some false)
  | .glo x => eqO (PySem.W.nsIn K mainGlobals x) (some (some (.ref (ga K x)))) && PySem.W.keepIn K (.ref (ga K x))
  | .free x => eqO (PySem.W.nsIn K mainGlobals x) (some none)
  | .int x i => (match PySem.W.nsIn K mainGlobals x with
    | some (some (.int j _)) => decide (j = i)
    | _ => false)
  | .str x z => (match PySem.W.nsIn K mainGlobals x with
    | some (some (.str y _)) => decide (y = z)
    | _ => false)
  | .cls c => clsOk K c
  | .mk c => PySem.W.makesIn K (ga K c) && (eqO (PySem.W.findIn K (.ref (ga K c)) "__init__") (some (some (.ref (propAd K c "__init__")))) && (PySem.W.isFn K (.ref (propAd K c "__init__")) && PySem.W.keepIn K (.ref (ga K c))))
  | .noat c f => eqO (PySem.W.findIn K (.ref (ga K c)) f) (some none)
  | .meth c m => eqO (PySem.W.findIn K (.ref (ga K c)) m) (some (some (.ref (propAd K c m)))) && PySem.W.isFn K (.ref (propAd K c m))
  | .prop c m => eqO (PySem.W.findIn K (.ref (ga K c)) m) (some (some (.ref (propAd K c m)))) && (eqO (PySem.W.specialIn K (.ref (propAd K c m)) "__get__") (some (some (.builtin "property.__get__"))) && (decide (PySem.W.takesIn K (.ref (propAd K c m)) = some true) &&
      (match PySem.W.recIn K (propAd K c m) "property" with
      | some (.ref g :: _) => true
      | _ => false)))
  | .stat c m => (match PySem.W.typeIn K (.ref (ga K c)) with
    | some mc => PySem.W.readsIn K (ga K c) mc && (match PySem.W.findCls K (.ref (ga K c)) mc m with
      | some (.get (.builtin b) (.ref p) .none (.ref a)) => decide (b = "staticmethod.__get__") && (decide (p = statRec K c m) && decide (a = ga K c))
      | _ => false)
    | none => false) && ((match PySem.W.recIn K (statRec K c m) "staticmethod" with
      | some (.ref g :: _) => PySem.W.keepIn K (.ref g)
      | _ => false) && eqO (PySem.W.specialIn K (.ref (ga K c)) "__getattribute__") (some (some (.builtin "type.__getattribute__"))))
  | .dflt c m b => eqO (PySem.W.findIn K (.ref (ga K c)) m) (some (some (.builtin b)))
  | .kit k u b => decide (PySem.W.kitOne K (k.v K) (u.v K) = some b)
  | .nf c k => PySem.W.notFirst K (ga K c) (k.v K)
  | .noi c op => noI K (ga K c) op.info.2
  | .kits t => t.all fun q => decide (PySem.W.kitOne K (q.1.v K) (q.2.1.v K) = some q.2.2)
  | .flds cl f => cl.all fun c => clsOk K c && eqO (PySem.W.findIn K (.ref (ga K c)) f) (some none)
  | .nu c op => PySem.W.selfFirst K (ga K c) && (refO (PySem.W.findIn K (.ref (ga K c)) (PySem.dunderR op.info.2)) && (isoO (PySem.W.findIn K (.type "int") (PySem.dunder op.info.2)) && (isoO (PySem.W.findIn K (.type "int") (PySem.dunderR op.info.2)) &&
      (decide (PySem.W.mroIn K (ga K c) (.type "int") = some false) && decide (PySem.W.subIn K (.type "int") (.ref (ga K c)) = some false)))))
section
variable {K : PySem.W.Frag} {h : Heap} {mg : Str → Option Value}
theorem fz_glo (X : K.In h) (G : h.Ns mainGlobals mg) {x : Str} (c : (Fz.glo x).ok K = true) : mg x = some (.ref (ga K x)) ∧ PySem.W.keepIn K (.ref (ga K x)) = true :=
  let ⟨c1, c2⟩ := He.ba c; ⟨PySem.W.mg_of X G (of_decide_eq_true c1), c2⟩
theorem fz_free (X : K.In h) (G : h.Ns mainGlobals mg) {x : Str} (c : (Fz.free x).ok K = true) : mg x = none := PySem.W.mg_none_of X G (of_decide_eq_true c)
theorem fz_int (X : K.In h) (G : h.Ns mainGlobals mg) {x : Str} {i : Int} (c : (Fz.int x i).ok K = true) : ∃ u, mg x = some u ∧ RelV (.int i) u := by
  have c2 : (match PySem.W.nsIn K mainGlobals x with
    | some (some (.int j _)) => decide (j = i)
    | _ => false) = true := c
  split at c2
  · rename_i j t e
    obtain rfl : j = i := of_decide_eq_true c2
    exact ⟨_, PySem.W.mg_of X G e, t, rfl⟩
  · cases c2
theorem fz_str (X : K.In h) (G : h.Ns mainGlobals mg) {x z : Str} (c : (Fz.str x z).ok K = true) : ∃ u, mg x = some u ∧ RelV (.str z) u := by
  have c2 : (match PySem.W.nsIn K mainGlobals x with
    | some (some (.str j _)) => decide (j = z)
    | _ => false) = true := c
  split at c2
  · rename_i j t e
    obtain rfl : j = z := of_decide_eq_true c2
    exact ⟨_, PySem.W.mg_of X G e, t, rfl⟩
  · cases c2
theorem fz_cls {c : Str} (q : (Fz.cls c).ok K = true) : Cls K (ga K c) ∧ ∀ (H : Hp) a dx gs, H a = some (HO.ins (ga K c) dx gs) → TyX K H (.ref a) (.ref (ga K c)) := by
  obtain ⟨c1, q⟩ := He.ba q
  obtain ⟨c2, q⟩ := He.ba q
  obtain ⟨c3, q⟩ := He.ba q
  obtain ⟨c4, q⟩ := He.ba q
  obtain ⟨c5, q⟩ := He.ba q
  obtain ⟨c6, q⟩ := He.ba q
  obtain ⟨c7, c8⟩ := He.ba q
  have cl : Cls K (ga K c) := ⟨c1, c2, c3, of_decide_eq_true c4⟩
  exact ⟨cl, fun H a dx gs e => .base (.ins e cl (of_decide_eq_true c5) (of_decide_eq_true c6) (of_decide_eq_true c7) (of_decide_eq_true c8))⟩
theorem fz_mro {c : Str} (q : (Fz.cls c).ok K = true) : PySem.W.mroIn K (ga K c) (.type "object") = some true := by
  obtain ⟨c1, q⟩ := He.ba q
  obtain ⟨c2, q⟩ := He.ba q
  obtain ⟨c3, q⟩ := He.ba q
  obtain ⟨c4, q⟩ := He.ba q
  obtain ⟨c5, q⟩ := He.ba q
  obtain ⟨c6, q⟩ := He.ba q
  obtain ⟨c7, c8⟩ := He.ba q
  exact of_decide_eq_true c8
theorem fz_mk {c : Str} (q : (Fz.mk c).ok K = true) : Mk K (ga K c) ((Ad.meth c "__init__").at K) := by
  obtain ⟨c1, q⟩ := He.ba q
  obtain ⟨c2, q⟩ := He.ba q
  obtain ⟨c3, c4⟩ := He.ba q
  exact ⟨c1, of_decide_eq_true c2, c3, c4⟩
theorem fz_noat {c f : Str} (q : (Fz.noat c f).ok K = true) : NoAttr K (ga K c) f := by
  unfold NoAttr
  exact of_decide_eq_true (show eqO _ _ = true from q)
theorem fz_meth {c m : Str} (q : (Fz.meth c m).ok K = true) : PySem.W.findIn K (.ref (ga K c)) m = some (some (.ref ((Ad.meth c m).at K))) ∧ PySem.W.isFn K (.ref ((Ad.meth c m).at K)) = true :=
  let ⟨c1, c2⟩ := He.ba q; ⟨of_decide_eq_true c1, c2⟩
theorem fz_prop {c m : Str} (q : (Fz.prop c m).ok K = true) : PropOf K (ga K c) m (propAd K c m) ((Ad.prop c m).at K) := by
  obtain ⟨c1, q⟩ := He.ba q
  obtain ⟨c2, q⟩ := He.ba q
  obtain ⟨c3, c4⟩ := He.ba q
  refine ⟨of_decide_eq_true c1, of_decide_eq_true c2, of_decide_eq_true c3, ?_⟩
  cases e : PySem.W.recIn K (propAd K c m) "property" with
  | none => rw [e] at c4; cases c4
  | some l =>
    rw [e] at c4
    cases l with
    | nil => cases c4
    | cons u r =>
      cases u <;> try (cases c4; done)
      rename_i g
      refine ⟨r, ?_⟩
      have : (Ad.prop c m).at K = g := by
        show (match PySem.W.recIn K (propAd K c m) "property" with
          | some (.ref g :: _) => g
          | _ => 0) = g
        rw [e]
      rw [this]
theorem fz_dflt {c m : Str} {b : String} (q : (Fz.dflt c m b).ok K = true) : PySem.W.findIn K (.ref (ga K c)) m = some (some (.builtin b)) := of_decide_eq_true q
theorem fz_kit {k u : TK} {b : Bool} (q : (Fz.kit k u b).ok K = true) : PySem.W.kitOne K (k.v K) (u.v K) = some b := of_decide_eq_true q
theorem fz_nf {c : Str} {k : TK} (q : (Fz.nf c k).ok K = true) : PySem.W.notFirst K (ga K c) (k.v K) = true := q
theorem fz_kits {t : List (TK × TK × Bool)} (q : (Fz.kits t).ok K = true) : ∀ k u b, (k, u, b) ∈ t → PySem.W.kitOne K (k.v K) (u.v K) = some b := fun k u b h => of_decide_eq_true (List.all_eq_true.mp (show (t.all fun q => decide (PySem.W.kitOne K (q.1.v K) (q.2.1.v K) = some q.2.2)) = true from q) _ h)
theorem fz_flds {cl : List Str} {f : Str} (q : (Fz.flds cl f).ok K = true) : ∀ c ∈ cl, Cls K (ga K c) ∧ NoAttr K (ga K c) f := fun c h => by
  obtain ⟨q1, q2⟩ := He.ba (List.all_eq_true.mp (show (cl.all fun c => clsOk K c && eqO (PySem.W.findIn K (.ref (ga K c)) f) (some none)) = true from q) _ h)
  exact ⟨(fz_cls (c := c) q1).1, by unfold NoAttr; exact of_decide_eq_true q2⟩
theorem fz_noi {c : Str} {op : Operator} (q : (Fz.noi c op).ok K = true) : noI K (ga K c) op.info.2 = true := q
theorem fz_nu {c : Str} {op : Operator} (q : (Fz.nu c op).ok K = true) : Nu K (ga K c) op := by
  obtain ⟨c1, q⟩ := He.ba q
  obtain ⟨c2, q⟩ := He.ba q
  obtain ⟨c3, q⟩ := He.ba q
  obtain ⟨c4, q⟩ := He.ba q
  obtain ⟨c5, c6⟩ := He.ba q
  refine ⟨c1, ?_, ?_, ?_, of_decide_eq_true c5, of_decide_eq_true c6⟩
  · cases e : PySem.W.findIn K (.ref (ga K c)) (PySem.dunderR op.info.2) with
    | none => rw [e] at c2; cases c2
    | some v =>
      rw [e] at c2
      refine ⟨v, rfl, ?_⟩
      cases v with
      | none => exact .inl rfl
      | some u => cases u <;> first | exact .inr ⟨_, rfl⟩ | cases c2
  · cases e : PySem.W.findIn K (.type "int") (PySem.dunder op.info.2) with
    | none => rw [e] at c3; cases c3
    | some v => exact ⟨v, rfl⟩
  · cases e : PySem.W.findIn K (.type "int") (PySem.dunderR op.info.2) with
    | none => rw [e] at c4; cases c4
    | some v => exact ⟨v, rfl⟩
end
/-! ### the hook -/
abbrev AlZ : Type := Bool × List FnZ
def obsZ (fa : List Fz) (fn : List DefZ) (K : PySem.W.Frag) : AlZ := ((fa.all fun f => f.ok K) && fn.all fun d => d.ok K, fn.map fun d => fnZ K d.at_)
def valZ (fn : List DefZ) : AlZ := (true, fn.map DefZ.val)
def SaysZ (fa : List Fz) (fn : List DefZ) (K : PySem.W.Frag) : Prop := obsZ fa fn K = valZ fn
def obsZG (n : Nat) (fa : List Fz) (fn : List DefZ) (g : Addr → Option Obj) : AlZ := obsZ fa fn (He.frG g (He.asD g n))
def hookZ (n : Nat) (fa : List Fz) (fn : List DefZ) : PySem.W.Hook where
  α := AlZ
  obs := fun s => obsZG n fa fn s.heap.get?
  val := fun _ => valZ fn
  says := fun _ h => ∃ K : PySem.W.Frag, K.In h ∧ SaysZ fa fn K
  of := fun _ _ e => ⟨_, He.frG_in, e⟩
  keeps := fun _ _ _ ⟨K, hK, c⟩ k => ⟨K, PySem.W.Frag.In.keeps hK k, c⟩
theorem obsZG_eq {n : Nat} {fa : List Fz} {fn : List DefZ} {g : Addr → Option Obj} {s : Shared} (h : ∀ a, g a = s.heap.get? a) : obsZG n fa fn g = (hookZ n fa fn).obs s := by
  have e : g = s.heap.get? := funext h
  rw [e] <;> rfl
section
variable {fa : List Fz} {fn : List DefZ} {K : PySem.W.Frag}
theorem SaysZ.fact (c : SaysZ fa fn K) (i : Nat) {f : Fz} (h : fa[i]? = some f := by rfl) : f.ok K = true := by
  have c1 := (He.ba (show ((fa.all fun f => f.ok K) && fn.all fun d => d.ok K) = true from congrArg (fun z : AlZ => z.1) c)).1
  exact List.all_eq_true.mp c1 f (List.mem_of_getElem? h)
theorem SaysZ.def_ (c : SaysZ fa fn K) (i : Nat) {d : DefZ} (h : fn[i]? = some d := by rfl) : ∃ fd, FunD K d.name d.qual (defArgs d.st) (defBody d.st) (defScope d.st) d.dfl d.kwd (d.at_.at K) fd := by
  have c2 := (He.ba (show ((fa.all fun f => f.ok K) && fn.all fun d => d.ok K) = true from congrArg (fun z : AlZ => z.1) c)).2
  have e : fn.map (fun d => fnZ K d.at_) = fn.map DefZ.val := congrArg (fun z : AlZ => z.2) c
  have e2 : (fn.map fun d => fnZ K d.at_)[i]? = (fn.map DefZ.val)[i]? := by rw [e]
  rw [List.getElem?_map, List.getElem?_map, h] at e2
  exact DefZ.funD (Option.some.inj e2) (List.all_eq_true.mp c2 d (List.mem_of_getElem? h))
end
end Z
set_option Elab.async false
set_option linter.all false
set_option maxRecDepth 100000
set_option maxHeartbeats 4000000
namespace Z
open PySem PySem.Spec PyProof.Rows L2 G
variable {K : PySem.W.Frag} {F F' H H' : Hp} {m m' : List Addr}
/-! ### a, b(, c) = x, y(, z) of local names, fresh lists kept -/
def SRs (K : PySem.W.Frag) (F : Hp) (m : List Addr) : List V → List Slt → List (Option (Addr × HO)) → Prop
  | [], [], [] => True
  | v :: vs, x :: xs, o :: os => SR K F m (some v) x o ∧ SRs K F m vs xs os
  | _, _, _ => False
/-- what comes along is new, and no one else's -/
def Frs (H0 : Hp) (W : Wd) (H : Hp) : List (Option (Addr × HO)) → Prop
  | [] => True
  | o :: os => (∀ p u, o = some (p, u) → H0 p = none ∧ H p = some u ∧ W.F p = none ∧ p ∉ W.m ∧ (∃ vs, u = .lst vs) ∧ ∀ u', some (p, u') ∉ os) ∧ Frs H0 W H os
theorem SRs.mono (e : Ex F F') (hm : ∃ n, m' = m ++ n) : ∀ {vs : List V} {xs : List Slt} {os : List (Option (Addr × HO))}, SRs K F m vs xs os → SRs K F' m' vs xs os
  | [], [], [], _ => trivial
  | _ :: _, _ :: _, _ :: _, h => ⟨h.1.mono e hm, SRs.mono e hm h.2⟩
theorem Frs.mem {H0 H : Hp} {W : Wd} : ∀ {os : List (Option (Addr × HO))} {p : Addr} {u : HO}, Frs H0 W H os → some (p, u) ∈ os → H0 p = none ∧ H p = some u ∧ W.F p = none ∧ p ∉ W.m
  | o :: os, p, u, h, hm => by
    rcases List.mem_cons.mp hm with e | hm
    · obtain ⟨h1, h2, h3, h4, _⟩ := h.1 p u e.symm
      exact ⟨h1, h2, h3, h4⟩
    · exact Frs.mem h.2 hm
def SPa (T : WX) (X : Cx) (es : List Expr) (c : Ev → M (List Slt)) : Prop := ∀ ε σ W h H Q, Rel X.K W.F W.m σ ε W.O → WOk X.K W h H → Post X.K T W H σ (c ε h) (fun xs _ W' H' => ∀ vs os, SRs X.K W'.F W'.m vs xs os → Frs H W' H' os → Q vs H') → Ga X es σ H Q
def mPn : Ev → M (List Slt) := fun _ h => .ok [] h
def mPv (a : EM) (r : Ev → M (List Slt)) : Ev → M (List Slt) := fun ε h => (a ε h).bnd fun x h1 => (r ε h1).bnd fun xs h2 => .ok (.pu x :: xs) h2
def mPl (a : Ev → M (List D)) (r : Ev → M (List Slt)) : Ev → M (List Slt) := fun ε h => (a ε h).bnd fun x h1 => (r ε h1).bnd fun xs h2 => .ok (.ol x :: xs) h2
theorem Frs.back {H0 H1 H : Hp} {W0 W1 W : Wd} (l : Le W0 H0 W1 H1) : ∀ {os : List (Option (Addr × HO))}, Frs H1 W H os → Frs H0 W H os
  | [], _ => trivial
  | _ :: _, h => ⟨fun p u e => let ⟨h1, h2⟩ := h.1 p u e; ⟨l.fresh h1, h2⟩, Frs.back l h.2⟩
section
variable {T : WX} {X : Cx} {e : Expr} {es : List Expr} {c : EM} {cl : Ev → M (List D)} {cs : Ev → M (List Slt)}
theorem sp_nil : SPa T X [] mPn := fun ε σ W h H Q r o p => a_nil (p.ok o o.mN _ [] trivial trivial)
theorem sp_v (ha : SE T X e c) (hr : SPa T X es cs) (hs : starEach (e :: es) X.env = (false, eval e X.env) :: starEach es X.env) : SPa T X (e :: es) (mPv c cs) := by
  intro ε σ W h H Q r o p
  refine a_cons hs (ha ε σ W h H _ r o (Post.mono (Post.bnd p) (Le.rfl' o.mN) fun d h1 W1 H1 l1 o1 p1 v hv => ?_))
  refine hr ε σ W1 h1 H1 _ (r.le l1) o1 (Post.mono (Post.bnd p1) (Le.rfl' o1.mN) fun xs h2 W2 H2 l2 o2 p2 vs os hvs hf => ?_)
  exact p2.ok o2 o2.mN _ (none :: os) ⟨⟨rfl, v, rfl, Rp.mono l2.F l2.mx d hv⟩, hvs⟩ ⟨fun p u e => (by cases e), hf.back l1⟩
theorem sp_l (ha : SF T X e cl) (hr : SPa T X es cs) (hs : starEach (e :: es) X.env = (false, eval e X.env) :: starEach es X.env) : SPa T X (e :: es) (mPl cl cs) := by
  intro ε σ W h H Q r o p
  refine a_cons hs (ha ε σ W h H _ r o (Post.mono (Post.bnd p) (Le.rfl' o.mN) fun ds h1 W1 H1 l1 o1 p1 q vq hq hq1 hF hm hv => ?_))
  refine hr ε σ W1 h1 H1 _ (r.le l1) o1 (Post.mono (Post.bnd p1) (Le.rfl' o1.mN) fun xs h2 W2 H2 l2 o2 p2 vs os hvs hf => ?_)
  obtain ⟨g1, g2, g3⟩ := l2.out hq1 hF hm
  refine p2.ok o2 o2.mN _ (some (q, .lst vq) :: os) ⟨⟨q, vq, rfl, rfl, Rps.mono l2.F l2.mx ds hv⟩, hvs⟩ ⟨fun p u e => ?_, hf.back l1⟩
  cases e
  refine ⟨hq, g1, g2, g3, ⟨_, rfl⟩, fun u' z => ?_⟩
  rw [(hf.mem z).1] at hq1
  cases hq1
end
/-- one name more is put -/
theorem put1 {W : Wd} {h : Store} {σ : L2.St} {ε : Ev} {v : V} {x : Slt} {o : Option (Addr × HO)} (i : Nat) (ok : WOk K W h H) (r : Rel K W.F W.m σ ε W.O) (sr : SR K W.F W.m (some v) x o) (fr : ∀ p u, o = some (p, u) → H p = some u ∧ W.F p = none ∧ p ∉ W.m ∧ ∀ (j : Nat) u', W.O[j]? ≠ some (some (p, u'))) :
    WOk K ⟨W.F, W.m, W.O.set i o⟩ h H ∧ Rel K W.F W.m (σ.set i (some v)) (ε.set i x) (W.O.set i o) ∧ ∀ (j : Nat) a u, (W.O.set i o)[j]? = some (some (a, u)) → o = some (a, u) ∨ W.O[j]? = some (some (a, u)) := by
  have get : ∀ {j a u}, (W.O.set i o)[j]? = some (some (a, u)) → (j = i ∧ o = some (a, u)) ∨ (j ≠ i ∧ W.O[j]? = some (some (a, u))) := fun {j a u} z => by
    by_cases e : i = j
    · subst e
      have hi := (List.getElem?_eq_some_iff.mp z).1
      rw [List.getElem?_set_self (by simpa using hi)] at z
      exact .inl ⟨rfl, Option.some.inj z⟩
    · rw [List.getElem?_set_ne e] at z
      exact .inr ⟨Ne.symm e, z⟩
  refine ⟨⟨ok.sub, ok.len, ok.cel, ok.mF, ok.mN, ok.nd, fun j a u z => ?_, fun j k a u a' u' nk z1 z2 => ?_⟩, r.set sr, fun j a u z => (get z).imp (fun q => q.2) fun q => q.2⟩
  · rcases get z with ⟨_, e⟩ | ⟨_, z⟩
    · obtain ⟨g1, g2, g3, _⟩ := fr a u e
      exact ⟨g1, g2, g3⟩
    · exact ok.own j a u z
  · rcases get z1 with ⟨rfl, e1⟩ | ⟨nj, y1⟩
    · rcases get z2 with ⟨rfl, e2⟩ | ⟨nj2, y2⟩
      · exact absurd rfl nk
      · exact fun z => (fr a u e1).2.2.2 k u' (z ▸ y2)
    · rcases get z2 with ⟨rfl, e2⟩ | ⟨nj2, y2⟩
      · exact fun z => (fr a' u' e2).2.2.2 j u (z ▸ y1)
      · exact ok.ond _ _ _ _ _ _ nk y1 y2
def puts (ε : Ev) : List Nat → List Slt → Ev
  | i :: is, x :: xs => puts (ε.set i x) is xs
  | _, _ => ε
def putsV (σ : L2.St) : List Nat → List V → L2.St
  | i :: is, v :: vs => putsV (σ.set i (some v)) is vs
  | _, _ => σ
theorem putN {h : Store} {H0 : Hp} : ∀ (is : List Nat) {W : Wd} {σ : L2.St} {ε : Ev} {vs : List V} {xs : List Slt} {os : List (Option (Addr × HO))}, WOk K W h H → Rel K W.F W.m σ ε W.O → SRs K W.F W.m vs xs os → Frs H0 W H os → (∀ u, ∀ (j : Nat) p u', some (p, u) ∈ os → W.O[j]? ≠ some (some (p, u'))) →
    ∃ O', WOk K ⟨W.F, W.m, O'⟩ h H ∧ Rel K W.F W.m (putsV σ is vs) (puts ε is xs) O' ∧ ∀ (j : Nat) a u, O'[j]? = some (some (a, u)) → some (a, u) ∈ os ∨ W.O[j]? = some (some (a, u))
  | [], W, σ, ε, vs, xs, os, ok, r, _, _, _ => ⟨W.O, ok, by cases vs <;> cases xs <;> exact r, fun _ _ _ z => .inr z⟩
  | i :: is, W, σ, ε, [], [], [], ok, r, _, _, _ => ⟨W.O, ok, r, fun _ _ _ z => .inr z⟩
  | i :: is, W, σ, ε, v :: vs, x :: xs, o :: os, ok, r, s, f, g => by
    obtain ⟨o1, r1, w1⟩ := put1 i ok r s.1 fun p u e => let ⟨_, a2, a3, a4, _⟩ := f.1 p u e; ⟨a2, a3, a4, fun j u' => g u j p u' (by rw [e]; exact List.mem_cons_self)⟩
    have f2 : Frs H0 ⟨W.F, W.m, W.O.set i o⟩ H os := by
      have : ∀ {os : List (Option (Addr × HO))}, Frs H0 W H os → Frs H0 ⟨W.F, W.m, W.O.set i o⟩ H os := by
        intro os
        induction os with
        | nil => exact fun _ => trivial
        | cons a as ih => exact fun z => ⟨z.1, ih z.2⟩
      exact this f.2
    obtain ⟨O', p1, p2, p3⟩ := putN is (W := ⟨W.F, W.m, W.O.set i o⟩) o1 r1 s.2 f2 fun u j p u' hm z => by
      rcases w1 j p u' z with e | e
      · exact (f.1 p u' e).2.2.2.2.2 u hm
      · exact g u j p u' (List.mem_cons_of_mem _ hm) e
    exact ⟨O', p1, p2, fun j a u z => (p3 j a u z).elim (fun q => .inl (List.mem_cons_of_mem _ q)) fun q => (w1 j a u q).elim (fun q => .inl (by rw [q]; exact List.mem_cons_self)) .inr⟩
theorem PostS.upP {α : Type} {T : WX} {W : Wd} {σ : L2.St} {ε : Ev} {h : Store} {E : Ends} {is : List Nat} {r : R (List Slt)} {k : List Slt → Store → R Fw} (p : PostS K T W H (R.up r ε k) E) (ok : WOk K W h H) (rel : Rel K W.F W.m σ ε W.O) :
    Post K T W H σ r (fun xs h' W' H' => ∀ vs os, SRs K W'.F W'.m vs xs os → Frs H W' H' os → ∃ O', WOk K ⟨W'.F, W'.m, O'⟩ h' H' ∧ Rel K W'.F W'.m (putsV σ is vs) (puts ε is xs) O' ∧ PostS K T ⟨W'.F, W'.m, O'⟩ H' (k xs h') E) := by
  cases r with
  | no => exact p
  | ex c ns ds h' => exact fun dx W' H' l o e => p dx σ W' H' (l.lg ok) o (rel.le l) e
  | ok xs h' =>
    intro W' H' l o vs os hv hf
    obtain ⟨O', g1, g2, g3⟩ := putN is o (rel.le l) hv hf fun u j q u' hm z => by
      rw [l.O] at z
      have := (ok.own j q u' z).1
      rw [(hf.mem hm).1] at this
      cases this
    refine ⟨O', g1, g2, PostS.lg p ⟨l.F, fun a u e h1 _ => l.frm a u e h1, fun a u e => (l.new a u e).imp id .inl, l.m, fun j a u z => ?_, l.cel, fun j a u e => ?_, fun j a C dx gs z => ?_⟩⟩
    · rcases g3 j a u z with q | q
      · exact .inl (hf.mem q).1
      · exact .inr ⟨j, u, by rw [← l.O]; exact q⟩
    · obtain ⟨a1, _, a3⟩ := ok.own j a u e
      rw [l.frm _ _ a1 a3]; simp
    · rcases g3 j a _ z with q | q
      · have : ∀ {os : List (Option (Addr × HO))}, Frs H W' H' os → some (a, HO.ins C dx gs) ∈ os → False := by
          intro os
          induction os with
          | nil => exact fun _ z => by cases z
          | cons b bs ih =>
            intro z1 z2
            rcases List.mem_cons.mp z2 with e | z2
            · obtain ⟨_, _, _, _, ⟨vs, e2⟩, _⟩ := z1.1 _ _ e.symm
              cases e2
            · exact ih z1.2 z2
        exact (this hf q).elim
      · exact ⟨gs, by rw [← l.O]; exact q⟩
def mParS (is : List Nat) (c : Ev → M (List Slt)) : SC := fun ε h => (c ε h).up ε fun xs h1 => if xs.length = is.length then .ok (.nx (puts ε is xs)) h1 else .no
theorem SRs.len {F : Hp} {m : List Addr} : ∀ {vs : List V} {xs : List Slt} {os : List (Option (Addr × HO))}, SRs K F m vs xs os → vs.length = xs.length
  | [], [], [], _ => rfl
  | _ :: _, _ :: _, _ :: _, h => by simp [SRs.len h.2]
section
variable {T : WX} {X : Cx} {i j l : Nat} {x y z : Str} {px py pz pt' pos : Pos} {a b c : Expr} {kt k2 pt2} {cs : Ev → M (List Slt)}
theorem ss_parS2 (hc : X.calm = true) (w1 : Sw X i x) (w2 : Sw X j y) (hij : i ≠ j) (hx : X.env.scope.names.lookup x = some .local) (hy : X.env.scope.names.lookup y = some .local)
    (hw : swappedStores [.Tuple [.Name x px, .Name y py] kt pt'] (.Tuple [a, b] k2 pt2) X.env = pure (some [x, y])) (hs : swapsWithSole [.Tuple [.Name x px, .Name y py] kt pt'] (.Tuple [a, b] k2 pt2) pos.line X.env = pure false) (ha : SPa T X [a, b] cs) :
    SS T X (.Assign [.Tuple [.Name x px, .Name y py] kt pt'] (.Tuple [a, b] k2 pt2) pos) (mParS [i, j] cs) := by
  intro ε σ W h H E r o p
  refine s_par hc w1 w2 hij hx hy hw hs (ha ε σ W h H _ r o (Post.mono (PostS.upP (α := D) (is := [i, j]) p o r) (Le.rfl' o.mN) fun xs h1 W1 H1 l1 o1 p1 vs os hv hf => ?_))
  obtain ⟨O', g1, g2, p2⟩ := p1 vs os hv hf
  split at p2
  · rename_i hl
    have hl2 := hv.len
    rw [hl] at hl2
    match vs, hl2, g2 with
    | [v, w], _, g2 => exact ⟨v, w, rfl, st_ok rfl (st_ok rfl (p2 _ _ _ (Lg.rfl' g1) g1 g2))⟩
  · exact p2.elim
theorem ss_parS3 (hc : X.calm = true) (w1 : Sw X i x) (w2 : Sw X j y) (w3 : Sw X l z) (hij : i ≠ j) (hil : i ≠ l) (hjl : j ≠ l) (hx : X.env.scope.names.lookup x = some .local) (hy : X.env.scope.names.lookup y = some .local) (hz : X.env.scope.names.lookup z = some .local)
    (hw : swappedStores [.Tuple [.Name x px, .Name y py, .Name z pz] kt pt'] (.Tuple [a, b, c] k2 pt2) X.env = pure (some [x, y, z])) (hs : swapsWithSole [.Tuple [.Name x px, .Name y py, .Name z pz] kt pt'] (.Tuple [a, b, c] k2 pt2) pos.line X.env = pure false) (ha : SPa T X [a, b, c] cs) :
    SS T X (.Assign [.Tuple [.Name x px, .Name y py, .Name z pz] kt pt'] (.Tuple [a, b, c] k2 pt2) pos) (mParS [i, j, l] cs) := by
  intro ε σ W h H E r o p
  refine gs (ps_par3 hc w1.nd w1.n w2.n w3.n hij hil hjl hx hy hz pa hw hs) (ha ε σ W h H _ r o (Post.mono (PostS.upP (α := D) (is := [i, j, l]) p o r) (Le.rfl' o.mN) fun xs h1 W1 H1 l1 o1 p1 vs os hv hf => ?_))
  obtain ⟨O', g1, g2, p2⟩ := p1 vs os hv hf
  split at p2
  · rename_i hl
    have hl2 := hv.len
    rw [hl] at hl2
    match vs, hl2, g2 with
    | [v, w, u], _, g2 => exact ⟨v, w, u, rfl, p2 _ _ _ (Lg.rfl' g1) g1 g2⟩
  · exact p2.elim
end
/-! ### x op= e -/
def mAug (i : Nat) (O : D → D → M D) (c : EM) : SC := fun ε h => match ε[i]? with
  | some (.pu d) => ((c ε h).bnd fun y h1 => O d y h1).up ε fun z h2 => .ok (.nx (ε.set i (.pu z))) h2
  | _ => .no
theorem ss_aug {T : WX} {X : Cx} {i : Nat} {x : Str} {e : Expr} {c : EM} {op : Operator} {O : D → D → M D} {p' pos : Pos} (w : Sw X i x) (he : SE T X e c) (hO : OpM T X (inplaceOp op) O) : SS T X (.AugAssign (.Name x p') op e pos) (mAug i O c) := by
  intro ε σ W h H E r o p
  unfold mAug at p
  split at p
  · rename_i d hd
    obtain ⟨v, e1, e2⟩ := r.pure hd
    have q0 := PostS.up p o r
    intro pins s I
    have key : ∀ u, RelV v u → wpAny (model X.prog X.w) X.A (eval e X.env) (fun w s₂ => wpAny (model X.prog X.w) X.A (inplaceOp op u w) (fun r s₃ => wpAny (model X.prog X.w) X.A (storeName X.env x r) (fun _ => L2.SP X pins E .next) X.xe s₃) X.xe s₂) X.xe s := by
      intro u ru
      refine thn (he ε σ W h H (fun y H1 => ∃ d' h1 W1, Rp X.K W1.F W1.m d v ∧ WOk X.K W1 h1 H1 ∧ Rp X.K W1.F W1.m d' y ∧ Rel X.K W1.F W1.m σ ε W1.O ∧ Post X.K T W1 H1 σ (O d d' h1) fun z h2 W2 H2 => PostS X.K T W2 H2 (.ok (.nx (ε.set i (.pu z))) h2) E) r o (Post.mono (Post.bnd q0) (Le.rfl' o.mN) fun d' h1 W1 H1 l1 o1 p1 y hy => ⟨d', h1, W1, Rp.mono l1.F l1.mx d e2, o1, hy, r.le l1, p1⟩) pins s I) fun w' s1 ⟨y, H1, I1, r1, d', h1, W1, e3, o1, hy, rr, p1⟩ => ?_
      refine thn (hO pins s1 σ H1 W1 h1 d d' v y u w' (fun z H2 => ∃ d2 h2 W2, WOk X.K W2 h2 H2 ∧ Rp X.K W2.F W2.m d2 z ∧ Rel X.K W2.F W2.m σ ε W2.O ∧ PostS X.K T W2 H2 (.ok (.nx (ε.set i (.pu d2))) h2) E) I1 ru r1 o1 (.inl e3) (.inl hy) (Post.mono p1 (Le.rfl' o1.mN) fun d2 h2 W2 H2 l2 o2 p2 z hz => ⟨d2, h2, W2, o2, hz, rr.le l2, p2⟩)) fun z s2 ⟨zv, H2, I2, r2, d2, h2, W2, o2, hz, r3, p2⟩ => ?_
      exact store_ok I2 w.nd w.n w.l r2 (fun s3 I3 => ⟨_, H2, I3, p2 _ ⟨W2.F, W2.m, W2.O.set i none⟩ _ (Lg.drop o2 i) (o2.drop i) (r3.set (show SR _ _ _ _ (.pu d2) none from ⟨rfl, zv, rfl, hz⟩))⟩) w.f
    obtain ⟨mm, hn, hl⟩ := I.loc
    have vis : Vis X.env.scope x := by rcases w.l with k | k; exact .inl k; exact .inr (.inl k)
    obtain ⟨u, ru, lu⟩ := hl i x v w.n e1 vis
    refine wpAny_AugAssign_Name ?_
    have go := key u ru
    rcases lu with ⟨hk, hm⟩ | ⟨hk, c, hc, hcell⟩
    · exact wpAny_loadName_local I.ok.kind hk hn hm go
    · rcases hk with hk | hk
      · exact wpAny_loadName_cell I.ok.kind hk hc hcell go
      · rcases w.l with k | k
        · have : X.env.scope.names.lookup x = some .free := hk
          rw [k] at this; cases this
        · have : X.env.scope.names.lookup x = some .free := hk
          rw [k] at this; cases this
  · exact p.elim
end Z
set_option Elab.async false
set_option linter.all false
set_option maxRecDepth 100000
set_option maxHeartbeats 4000000
namespace Z
open PySem PySem.Spec PyProof.Rows L2 G
variable {K : PySem.W.Frag} {F F' H H' : Hp} {m m' : List Addr}
/-! ### own op= own, own op= int: by the class's binary methods -/
theorem noI_any {M' : Model} {hp : Heap} (X : K.In hp) {nm : String} {add : Bool} : ∀ {l : List Value}, (l.all fun v => decide (PySem.W.findIn K v (dunderI nm) = some none)) = true → PySem.W.Looks M' hp (l.anyM fun c => (do
    let some x ← typeLookup c (dunderI nm) | return false
    if let .type _ := c then return !isSeqSlot (some x)
    if !ownNameWrapper x (dunderI nm) then return true
    if !(← inheritsSeqSlot c (dunderI nm)) then return true
    if add then return (← seqSlot? c (dunderI nm)).isSome
    return false : Sem Bool)) false
  | [], _ => .now
  | v :: r, e => by
    obtain ⟨e1, e2⟩ := Bool.and_eq_true_iff.mp (List.all_cons ▸ e)
    have e1 := of_decide_eq_true e1
    intro A Q E s kk q
    rw [List.anyM_cons]
    refine wpAny_bind (wpAny_bind ((PySem.W.looks_findIn (X.keeps kk) e1).here (wpAny_pure ?_)))
    rw [if_neg Bool.false_ne_true]
    exact noI_any X e2 A _ E s kk q
theorem noI_fills {M' : Model} {hp : Heap} (X : K.In hp) {C : Addr} {nm : String} {add : Bool} (c : noI K C nm = true) : PySem.W.Looks M' hp (fillsInplaceSlot (.ref C) nm add) false := by
  unfold noI at c
  split at c
  · rename_i cd hcd
    intro A Q E s kk q
    unfold fillsInplaceSlot
    refine wpAny_bind ((PySem.W.looks_clsIn X hcd).andThen (f := fun cd => pure cd.mro) .now A _ E s kk ?_)
    exact noI_any X c A _ E s kk q
  · cases c
def iaddD (x y : D) : M D := fun h => match x, y with
  | .int i, .int j => .ok (.int (i + j)) h
  | _, _ => .no
section
variable {T : WX} {X : Cx} {c : Str} {f : List D → M D} {op : Operator}
theorem ownI_ok (D1 : DmM T X c (PySem.dunder op.info.2) 2 f) (N : Nu X.K (ga X.K c) op) (hn : noI X.K (ga X.K c) op.info.2 = true) : OpM T X (inplaceOp op) (ownL c f) := by
  intro pins s σ H W h x y v w u1 u2 Q I r1 r2 ok rx ry p
  obtain ⟨_, fA, h1, h2, _, run⟩ := D1.run
  obtain ⟨mm, hF⟩ := I.fr
  have X1 : X.K.In s.heap := I.kIn
  obtain ⟨cd, rest, hcd, hm⟩ := PySem.W.ksp_first N.first
  unfold ownL at p
  split at p
  · split at p
    · rename_i e
      obtain ⟨rfl, rfl⟩ := e
      obtain ⟨a, dx, vs, rfl, ha, ra⟩ := rx.obj
      obtain ⟨b, dy, ws, rfl, hb, rb⟩ := ry.obj
      cases r1
      cases r2
      obtain ⟨ox, od, J⟩ := ins_at I (ok.sub _ _ ha)
      obtain ⟨oy, ody, Jy⟩ := ins_at I (ok.sub _ _ hb)
      have one := PySem.W.ksp_try X1 J h1 h2 (wpAny_mono (run X.A pins s σ H W h _ _ [.ref a, .ref b] Q (.inl rfl) I (.cons (vR _) (.cons (vR _) .nil)) ok (Rps.cons ra (Rps.cons rb Rps.nil)) rfl p) (fun _ _ z => cmpBk z) fun _ _ z => z)
      unfold inplaceOp
      refine wpAny_holding (wpAny_bind (J.type.here (wpAny_bind ((noI_fills X1 hn).here ?_))))
      simp only [Bool.false_eq_true, if_false]
      unfold binaryOp1
      refine wpAny_bind (wpAny_bind (J.type.here (wpAny_bind (Jy.type.here (wpAny_bind ((PySem.W.fills_K X1 hcd hm h1).here ?_))))))
      simp only [beq_self_eq_true, if_true]
      refine wpAny_bind (wpAny_pure ?_)
      simp only [Bool.and_false, Bool.false_eq_true, if_false, Bool.false_and]
      refine wpAny_bind (wpAny_pure ?_)
      simp only [Bool.false_eq_true, if_false]
      refine wpAny_bind (wpAny_mono one (fun r s' hr' => ?_) fun _ _ e => e)
      obtain ⟨v, rfl, hq⟩ := hr'
      exact wpAny_pure (wpAny_pure hq)
    · exact p.elim
  · split at p
    · rename_i j e
      subst e
      obtain ⟨a, dx, vs, rfl, ha, ra⟩ := rx.obj
      cases ry.int
      cases r1
      obtain ⟨ox, od, J⟩ := ins_at I (ok.sub _ _ ha)
      obtain ⟨t, rfl⟩ := r2
      obtain ⟨rc, k1, k2⟩ := N.rr
      obtain ⟨fo, f1⟩ := N.fi
      obtain ⟨ro, o1⟩ := N.ri
      have one := PySem.W.ksp_try X1 J h1 h2 (wpAny_mono (run X.A pins s σ H W h _ _ [.ref a, .int _ t] Q (.inl rfl) I (.cons (vR _) (.cons (vI _ t) .nil)) ok (Rps.cons ra (Rps.cons (by unfold Rp; rfl) Rps.nil)) rfl p) (fun _ _ z => cmpBk z) fun _ _ z => z)
      generalize hnm : op.info.2 = nm at h1 k1 f1 o1 one hn
      have L2 : PySem.W.Looks (model X.prog X.w) s.heap (typeOf (.int j t)) (.type "int") := PySem.W.Looks.of_pure rfl
      have L4 : PySem.W.Looks (model X.prog X.w) s.heap (fillsNumberSlot (.type "int") nm) ((fo.isSome && !isSeqSlot fo) || (ro.isSome && !isSeqSlot ro)) := PySem.W.ksp_fillsT X1 f1 o1
      have L5 : PySem.W.Looks (model X.prog X.w) s.heap (isSubtype (.type "int") (.ref _)) false := PySem.W.looks_subIn X1 N.sub
      have L6 : PySem.W.Looks (model X.prog X.w) s.heap (numberSlotInPython (.ref _) nm) true := PySem.W.ksp_inPy X1 h1 k1 k2
      have L7 : PySem.W.Looks (model X.prog X.w) s.heap (numberSlotInPython (.type "int") nm) false := PySem.W.Looks.of_pure rfl
      have L8 : PySem.W.Looks (model X.prog X.w) s.heap (typeLookup (.type "int") (dunderR nm)) ro := PySem.W.looks_findIn X1 o1
      have ne : ∀ z : Addr, (Value.ref z == Value.type "int") = false := fun z => Bool.eq_false_iff.mpr fun q => by cases beq_iff_eq.mp q
      unfold inplaceOp
      rw [hnm]
      refine wpAny_holding (wpAny_bind (J.type.here (wpAny_bind ((noI_fills X1 hn).here ?_))))
      simp only [Bool.false_eq_true, if_false]
      unfold binaryOp1
      refine wpAny_bind (wpAny_bind (J.type.here (wpAny_bind (L2.here (wpAny_bind ((PySem.W.fills_K X1 hcd hm h1).here ?_))))))
      simp only [ne, Bool.false_eq_true, if_false]
      generalize ((fo.isSome && !isSeqSlot fo) || (ro.isSome && !isSeqSlot ro)) = right at L4
      obtain ⟨hh, g, d, tt, os⟩ := s
      have L1 : PySem.W.Looks (model X.prog X.w) hh (typeOf (.ref a)) (.ref _) := J.type
      cases right with
      | false =>
        ksp_lk
        refine wpAny_mono one (fun r s' hr' => ?_) fun _ _ e => e
        obtain ⟨v, rfl, hq⟩ := hr'
        ksp_lk
        exact hq
      | true =>
        ksp_lk
        refine wpAny_mono one (fun r s' hr' => ?_) fun _ _ e => e
        obtain ⟨v, rfl, hq⟩ := hr'
        ksp_lk
        exact hq
    · exact p.elim
  · exact p.elim
/-- ints -/
theorem iadd_int : OpM T X (inplaceOp .Add) iaddD := by
  intro pins s σ H W h x y v w u1 u2 Q I r1 r2 ok rx ry p
  unfold iaddD at p
  split at p
  · cases rx.int
    cases ry.int
    exact ip_add pins s σ H _ _ u1 u2 Q I r1 r2 ⟨_, _, rfl, rfl, p.ok ok ok.mN _ (by unfold Rp; rfl)⟩
  · exact p.elim
end
/-! ### texts put together -/
def mFmt (O : D → M D) (a : EM) : EM := fun ε h => (a ε h).bnd fun d h1 => match d with
  | .str s => if s.length ≤ 1000000 then .ok (.str s) h1 else .no
  | .int i => if i.natAbs.log2 < 1920 then .ok (.str (toString i)) h1 else .no
  | d => O d h1
def FmM (T : WX) (X : Cx) (O : D → M D) : Prop := ∀ pins s σ H W h d v u Q, Inv X pins σ H s → RelV v u → WOk X.K W h H → Rp X.K W.F W.m d v → Post X.K T W H σ (O d h) (fun d _ W' H' => ∀ v, Rp X.K W'.F W'.m d v → Q v H') → wpAny (model X.prog X.w) X.A (formatField u Str.empty) (EP X pins σ Q) X.xe s
/-- the parts of an f-string behind acc -/
def mJn : Ev → Str → M D := fun _ acc h => .ok (.str acc) h
def mJc (a : EM) (r : Ev → Str → M D) : Ev → Str → M D := fun ε acc h => (a ε h).bnd fun d h1 => match d with
  | .str s => if (acc ++ s).length ≤ 1000000 then r ε (acc ++ s) h1 else .no
  | _ => .no
def SJ (T : WX) (X : Cx) (es : List Expr) (c : Ev → Str → M D) : Prop := ∀ ε σ W h H acc (Q : VK), Rel X.K W.F W.m σ ε W.O → WOk X.K W h H → Post X.K T W H σ (c ε acc h) (fun d _ W' H' => ∀ v, Rp X.K W'.F W'.m d v → Q v H') → Gj X es acc σ H (fun t H' => Q (.str t) H')
section
variable {T : WX} {X : Cx} {e : Expr} {es : List Expr} {c : EM} {cj : Ev → Str → M D} {pos : Pos} {O : D → M D}
theorem fm_no : FmM T X no1 := fun _ _ _ _ _ _ _ _ _ _ _ _ _ _ p => p.elim
theorem fm_own {cc : Str} {f : List D → M D} (D1 : DmM T X cc "__str__" 1 f) (hf : PySem.W.findIn X.K (.ref (ga X.K cc)) "__format__" = some (some (.builtin "object.__format__"))) (hm : PySem.W.mroIn X.K (ga X.K cc) (.type "object") = some true) : FmM T X (own1S cc f) := by
  intro pins s σ H W h d v u Q I r ok rd p
  obtain ⟨n1, d1, rfl, p1⟩ := own1S_post p
  obtain ⟨_, fA, h1, h2, hr, run⟩ := D1.run
  obtain ⟨a, dx, vs, rfl, ha, ra⟩ := Rb.obj (H := H) (.inl rd)
  cases r
  obtain ⟨ox, od, J⟩ := ins_at I (ok.sub _ _ ha)
  have r2 := RoomG.in1 (k := 3) hr
  have I2 := I.tok (s.toks + 1)
  refine PySem.W.kfo_fieldS r2.units0 I.kIn J hf hm h1 h2 ?_
  exact wpAny_mono (run X.A.in1 pins _ σ H W h _ _ [.ref a] _ (.inr (.inl rfl)) I2 (.cons (vR _) .nil) ok (Rps.cons ra Rps.nil) rfl p1) (fun _ _ z => strBk z) fun _ _ z => z
theorem se_fmt (he : SE T X e c) (hO : FmM T X O) : SE T X (.FormattedValue e (-1) none pos) (mFmt O c) := by
  intro ε σ W h H Q r o p
  unfold mFmt at p
  cases q : c ε h with
  | no => rw [q] at p; exact p.elim
  | ex cc ns ds h' =>
    rw [q] at p
    refine e_fmt (he ε σ W h H _ r o ?_)
    rw [q]
    exact p
  | ok d h1 =>
    rw [q] at p
    dsimp only [R.bnd] at p
    split at p
    · refine e_fmt (he ε σ W h H _ r o ?_)
      rw [q]
      split at p
      · rename_i hl
        intro W1 H1 l1 o1 v hv
        unfold Rp at hv
        exact .inl ⟨_, hv, Nat.le_trans hl sizeL, p W1 H1 l1 o1 _ (by unfold Rp; rfl)⟩
      · exact p.elim
    · refine e_fmt (he ε σ W h H _ r o ?_)
      rw [q]
      split at p
      · rename_i hl
        intro W1 H1 l1 o1 v hv
        unfold Rp at hv
        exact .inr ⟨_, hv, hl, p W1 H1 l1 o1 _ (by unfold Rp; rfl)⟩
      · exact p.elim
    · intro pins s I
      refine wpAny_FormattedValue_plain (thn (he ε σ W h H (fun v H1 => ∃ W1, Le W H W1 H1 ∧ WOk X.K W1 h1 H1 ∧ Rp X.K W1.F W1.m d v) r o (by rw [q]; exact fun W1 H1 l1 o1 v hv => ⟨W1, l1, o1, hv⟩) pins s I) fun u s1 ⟨v, H1, I1, r1, W1, l1, o1, hv⟩ => ?_)
      exact hO pins s1 σ H1 W1 h1 d v u Q I1 r1 o1 hv (Post.mono p l1 fun _ _ _ _ _ _ z => z)
theorem sj_nil : SJ T X [] mJn := fun ε σ W h H acc Q r o p => j_nil (p.ok o o.mN _ (by unfold Rp; rfl))
theorem sj_cons (he : SE T X e c) (hr : SJ T X es cj) : SJ T X (e :: es) (mJc c cj) := by
  intro ε σ W h H acc Q r o p
  refine j_cons (he ε σ W h H _ r o (Post.mono (Post.bnd p) (Le.rfl' o.mN) fun d h1 W1 H1 l1 o1 p1 v hv => ?_))
  split at p1
  · split at p1
    · rename_i hl
      unfold Rp at hv
      exact ⟨_, hv, Nat.le_trans hl sizeL, hr ε σ W1 h1 H1 _ Q (r.le l1) o1 p1⟩
    · exact p1.elim
  · exact p1.elim
def mFs (c : Ev → Str → M D) : EM := fun ε h => c ε Str.empty h
theorem se_fstr {e1 e2 : Expr} (hj : SJ T X (e1 :: e2 :: es) cj) : SE T X (.JoinedStr (e1 :: e2 :: es) pos) (mFs cj) := fun ε σ W h H Q r o p => e_fstr (hj ε σ W h H _ Q r o p)
theorem se_fstr1 (he : SE T X e c) : SE T X (.JoinedStr [e] pos) c := fun ε σ W h H Q r o p => e_fstr1 (he ε σ W h H Q r o p)
end
end Z
set_option Elab.async false
set_option linter.all false
set_option maxRecDepth 100000
set_option maxHeartbeats 4000000
namespace Z
open PySem PySem.Spec PyProof.Rows L2 G
variable {K : PySem.W.Frag} {F F' H H' : Hp} {m m' : List Addr}
/-! ### calls with keywords -/
def prm {α : Type} (π : List Nat) (l : List α) : List α := π.filterMap fun i => l[i]?
theorem prm_cons {α : Type} {i : Nat} {π : List Nat} {l : List α} (h : i < l.length) : prm (i :: π) l = l[i] :: prm π l := by
  unfold prm
  rw [List.filterMap_cons, List.getElem?_eq_getElem h]
theorem prm_len {α : Type} {l : List α} : ∀ {π : List Nat}, (∀ i ∈ π, i < l.length) → (prm π l).length = π.length
  | [], _ => rfl
  | i :: π, h => by rw [prm_cons (h i List.mem_cons_self), List.length_cons, List.length_cons, prm_len fun j hj => h j (List.mem_cons_of_mem _ hj)]
theorem vals_at : ∀ {vs : List V} {us : List Value} {i : Nat} (_ : Vals vs us) (h1 : i < vs.length) (h2 : i < us.length), RelV vs[i] us[i]
  | _, _, 0, .cons r _, _, _ => r
  | _, _, i + 1, .cons _ r, h1, h2 => vals_at (i := i) r (by simpa using h1) (by simpa using h2)
theorem prm_vals {vs : List V} {us : List Value} (r : Vals vs us) : ∀ {π : List Nat}, (∀ i ∈ π, i < vs.length) → Vals (prm π vs) (prm π us)
  | [], _ => .nil
  | i :: π, h => by
    have h1 := h i List.mem_cons_self
    have h2 : i < us.length := by rw [← r.length]; exact h1
    rw [prm_cons h1, prm_cons h2]
    exact .cons (vals_at r h1 h2) (prm_vals r fun j hj => h j (List.mem_cons_of_mem _ hj))
theorem prm_rps {ds : List D} {vs : List V} (r : Rps K F m ds vs) : ∀ {π : List Nat}, (∀ i ∈ π, i < ds.length) → Rps K F m (prm π ds) (prm π vs)
  | [], _ => Rps.nil
  | i :: π, h => by
    have h1 := h i List.mem_cons_self
    have h2 : i < vs.length := by rw [← r.len]; exact h1
    rw [prm_cons h1, prm_cons h2]
    obtain ⟨v, e1, e2⟩ := r.get (i := i) (List.getElem?_eq_getElem h1)
    rw [List.getElem?_eq_getElem h2] at e1
    cases e1
    exact Rps.cons e2 (prm_rps r fun j hj => h j (List.mem_cons_of_mem _ hj))
/-- how a def binds n values and the keywords ks -/
structure Kbz (K : PySem.W.Frag) (fd : FuncData) (ps : List Str) (n : Nat) (ks : List Str) (π : List Nat) (dvs : List V) : Prop where
  ex : ∃ dus : List Value, Vals dvs dus ∧ ∀ (s : Shared) (us ws : List Value), K.In s.heap → us.length = n → ws.length = ks.length → BindsTo s fd ⟨us, ks.zip ws⟩ (ps.zip (prm π (us ++ dus ++ ws)))
  rng : ∀ i ∈ π, i < n + dvs.length + ks.length
  len : π.length = ps.length
/-- .. behind the object that is made -/
structure Kbi (K : PySem.W.Frag) (fd : FuncData) (ps : List Str) (n : Nat) (ks : List Str) (π : List Nat) (dvs : List V) : Prop where
  ex : ∃ dus : List Value, Vals dvs dus ∧ ∀ (s : Shared) (u : Value) (us ws : List Value), K.In s.heap → us.length = n → ws.length = ks.length → BindsTo s fd ⟨u :: us, ks.zip ws⟩ (ps.zip (u :: prm π (us ++ dus ++ ws)))
  rng : ∀ i ∈ π, i < n + dvs.length + ks.length
  len : π.length + 1 = ps.length
def CallW (T : WX) (X : Cx) (u : Value) (ks : List Str) (f : List D → List D → M D) : Prop := ∀ pins s σ H W h ds es vs zs us ws Q, Inv X pins σ H s → Vals vs us → Vals zs ws → WOk X.K W h H → Rps X.K W.F W.m ds vs → Rps X.K W.F W.m es zs → Post X.K T W H σ (f ds es h) (fun d _ W' H' => ∀ v, Rp X.K W'.F W'.m d v → Q v H') →
  wpAny (model X.prog X.w) X.A (call u us (ks.zip ws)) (EP X pins σ Q) X.xe s
/-- n values, m keywords, put in the parameters' order -/
def wArg (n k : Nat) (π : List Nat) (dfl : List D) (mf : List D → M D) (ds es : List D) : M D := if ds.length = n ∧ es.length = k then mf (prm π (ds ++ dfl ++ es)) else fun _ => .no
theorem callW_of {q : Bool} {T : WX} {X : Cx} {k : Nat} {f : Addr} {fd : FuncData} {ps ks : List Str} {n n0 : Nat} {π : List Nat} {mf : List D → M D} {dfl : List D} {dvs : List V} (F : FnT q X.prog X.w X.K X.mg X.base (L2.CX X.prog X.w) k f fd ps (spM X.K n0 mf)) (hn : ps.length = n0) (hr : RoomG q k X.A) (hb : Kbz X.K fd ps n ks π dvs)
    (hD : ∀ F m, Rps X.K F m dfl dvs) (tk : Takes X T) : CallW T X (.ref f) ks (wArg n ks.length π dfl mf) := by
  intro pins s σ H W h ds es vs zs us ws Q I r rz ok rp rpz p
  unfold wArg at p
  by_cases hl : ds.length = n ∧ es.length = ks.length
  · rw [if_pos hl] at p
    obtain ⟨dus, hd, hB⟩ := hb.ex
    have r0 : Vals (vs ++ dvs ++ zs) (us ++ dus ++ ws) := (r.append hd).append rz
    have rl := rp.len
    have dl := (hD W.F W.m).len
    have zl := rpz.len
    have rg1 : ∀ i ∈ π, i < (vs ++ dvs ++ zs).length := fun i hi => by
      have := hb.rng i hi
      rw [List.length_append, List.length_append]; omega
    have rg2 : ∀ i ∈ π, i < (ds ++ dfl ++ es).length := fun i hi => by
      have := hb.rng i hi
      rw [List.length_append, List.length_append]; omega
    have r2 := prm_vals r0 rg1
    have ok0 : WOk X.K ⟨W.F, W.m, []⟩ h H := ⟨ok.sub, ok.len, ok.cel, ok.mF, ok.mN, ok.nd, fun i p u e => by simp at e, fun i j p u p' u' _ e _ => by simp at e⟩
    have fin : ∀ {W' : Wd} {H' : Hp} {h' : Store}, Le ⟨W.F, W.m, []⟩ H W' H' → WOk X.K W' h' H' → Le W H ⟨W'.F, W'.m, W.O⟩ H' ∧ WOk X.K ⟨W'.F, W'.m, W.O⟩ h' H' := fun {W' H' h'} l o =>
      have l2 : Le W H ⟨W'.F, W'.m, W.O⟩ H' := l.reO W.O
      ⟨l2, ok.reO l2 o⟩
    have hE : spM X.K n0 mf (prm π (vs ++ dvs ++ zs)) H Q (fun cls d H' => T cls d σ H') := by
      refine ⟨by rw [prm_len rg1, hb.len, hn], ⟨W.F, W.m, []⟩, h, _, rfl, ok0, prm_rps ((rp.app (hD _ _)).app rpz) rg2, ?_⟩
      generalize mf (prm π (ds ++ dfl ++ es)) h = res at p ⊢
      cases res with
      | ok d h' => exact fun v W' H' l o rv => p _ _ (fin l o).1 (fin l o).2 v rv
      | ex c ns es h' => exact fun dx W' H' l o e => p dx _ _ (fin l o).1 (fin l o).2 e
      | no => exact p
    refine wpAny_call (codeAny_mono (F.run X.A X.stack s H ⟨us, ks.zip ws⟩ (prm π (us ++ dus ++ ws)) _ Q _ hr I.env0 (hB s us ws I.kIn (by rw [← r.length, ← rl]; exact hl.1) (by rw [← rz.length, ← zl]; exact hl.2)) r2 hE) fun res s' hq => ?_)
    cases res with
    | error e => exact tk e s' (XE.of_call I (fun _ _ _ z => z) hq)
    | ok fl =>
      cases fl with
      | ret u => exact I.after hq
      | next => exact hq.elim
      | brk => exact hq.elim
      | cont => exact hq.elim
  · rw [if_neg hl] at p
    exact p.elim
def wMk (c : Str) (n k : Nat) (π : List Nat) (dfl : List D) (mf : List D → M (List Str × List D)) (ds es : List D) : M D := if ds.length = n ∧ es.length = k then mkM c mf (prm π (ds ++ dfl ++ es)) else fun _ => .no
theorem make_W {q : Bool} {T : WX} {X : Cx} {c : Str} {k : Nat} {f : Addr} {fd : FuncData} {ps ks : List Str} {n n0 : Nat} {π : List Nat} {mf : List D → M (List Str × List D)} {dvs : List V} {dfl : List D} (Mk' : Mk X.K (ga X.K c) f) (F : FnT q X.prog X.w X.K X.mg X.base (L2.CX X.prog X.w) k f fd ps (spI X.K c n0 mf)) (hn : ps.length = n0) (hr : RoomG q (k + 1) X.A)
    (hb : Kbi X.K fd ps n ks π dvs) (hD : ∀ F m, Rps X.K F m dfl dvs) (tk : Takes X T) : CallW T X (.ref (ga X.K c)) ks (wMk c n ks.length π dfl mf) := by
  intro pins s σ H W h ds es vs zs us ws Q I r rz ok rp rpz p
  unfold wMk at p
  by_cases hl : ds.length = n ∧ es.length = ks.length
  · rw [if_pos hl] at p
    obtain ⟨dus, hd, hB⟩ := hb.ex
    have r0 : Vals (vs ++ dvs ++ zs) (us ++ dus ++ ws) := (r.append hd).append rz
    have rl := rp.len
    have dl := (hD W.F W.m).len
    have zl := rpz.len
    have rg1 : ∀ i ∈ π, i < (vs ++ dvs ++ zs).length := fun i hi => by
      have := hb.rng i hi
      rw [List.length_append, List.length_append]; omega
    have rg2 : ∀ i ∈ π, i < (ds ++ dfl ++ es).length := fun i hi => by
      have := hb.rng i hi
      rw [List.length_append, List.length_append]; omega
    have r2 : Vals (V.ref (s.heap.objs.size + 1) :: prm π (vs ++ dvs ++ zs)) (Value.ref (s.heap.objs.size + 1) :: prm π (us ++ dus ++ ws)) := .cons (vR _) (prm_vals r0 rg1)
    have rpp := prm_rps ((rp.app (hD W.F W.m)).app rpz) rg2
    have I2 := Inv.made (C := ga X.K c) I
    have ndx : s.heap.objs.size ≠ s.heap.objs.size + 1 := Nat.ne_of_lt (Nat.lt_succ_self _)
    have ll : (prm π (vs ++ dvs ++ zs)).length + 1 = n0 := by rw [prm_len rg1, hb.len, hn]
    generalize prm π (ds ++ dfl ++ es) = as at p rpp
    generalize prm π (vs ++ dvs ++ zs) = av at rpp r2 ll
    have hE : ∀ x dx, H x = none → H dx = none → dx ≠ x → spI X.K c n0 mf (.ref x :: av) (upd (upd H dx (.own x)) x (.ins (ga X.K c) dx [])) (fun v H2 => v = .non ∧ Q (.ref x) H2) (fun cls d H' => T cls d σ H') := by
      intro x dx hx hdx ne
      have ex2 : Ex H (upd (upd H dx (.own x)) x (.ins (ga X.K c) dx [])) := fun a o e => by rw [upd_ne (ne_of_none e hx), upd_ne (ne_of_none e hdx)]; exact e
      have back : ∀ a, (upd (upd H dx (.own x)) x (.ins (ga X.K c) dx [])) a = none → H a = none := fun a e => by
        cases q : H a with
        | none => rfl
        | some u => rw [ex2 a u q] at e; cases e
      have ok0 : WOk X.K ⟨W.F, W.m, []⟩ h H := ⟨ok.sub, ok.len, ok.cel, ok.mF, ok.mN, ok.nd, fun i p u e => by simp at e, fun i j p u p' u' _ e _ => by simp at e⟩
      obtain ⟨_, o2⟩ := grow ok0 ex2
      obtain ⟨fF, fm⟩ := ok.freshF hx
      refine ⟨by rw [List.length_cons]; omega, ⟨W.F, W.m, []⟩, h, as, x, dx, av, rfl, o2, rfl, rpp, upd_same, fF, fm, ?_⟩
      unfold mkM at p
      have fin : ∀ {W' : Wd} {H' : Hp} {h' : Store}, Ex W.F W'.F → (∀ a o, (upd (upd H dx (.own x)) x (.ins (ga X.K c) dx [])) a = some o → a ∉ W.m → a ≠ x → H' a = some o) → (∀ a o, W'.F a = some o → W.F a = some o ∨ (upd (upd H dx (.own x)) x (.ins (ga X.K c) dx [])) a = none ∨ a = x) → (∃ n, W'.m = W.m ++ n ∧ ∀ a ∈ n, (upd (upd H dx (.own x)) x (.ins (ga X.K c) dx [])) a = none) → (∀ a ∈ W.m, H' a ≠ none) → Le W H ⟨W'.F, W'.m, W.O⟩ H' := fun {W' H' h'} g1 g2 g3 g4 g5 => by
        refine ⟨g1, fun a o e hm => g2 a o (ex2 a o e) hm (ne_of_none e hx), fun a o e => ?_, ?_, rfl, g5⟩
        · rcases g3 a o e with z | z | z
          · exact .inl z
          · exact .inr (back a z)
          · subst z; exact .inr hx
        · obtain ⟨nn, en, hnn⟩ := g4
          exact ⟨nn, en, fun a ha => back a (hnn a ha)⟩
      generalize mf as h = res at p ⊢
      cases res with
      | no => exact p
      | ex cc ns es h' =>
        intro dd W' H' g1 g2 g3 g4 g5 o hO ex
        have l := fin (W' := W') (H' := H') (h' := h') g1 g2 g3 g4 g5
        replace p : ∀ dx W' H', Le W H W' H' → WOk X.K W' h' H' → ExAt X.K W'.F W'.m H H' ns es dx → T (.ref (ga X.K cc)) dx σ H' := p
        exact p dd ⟨W'.F, W'.m, W.O⟩ H' l (ok.reO l o) (ex.back fun d => back d)
      | ok pr h' =>
        obtain ⟨ns, es⟩ := pr
        intro W' H' ws g1 g2 g3 g4 g5 o hO hx' hlen hr' hF' hm'
        refine ⟨rfl, ?_⟩
        have l := fin (W' := W') (H' := H') (h' := h') g1 g2 g3 g4 g5
        have oo := ok.reO l o
        have no : ∀ (i : Nat) u, (⟨W'.F, W'.m, W.O⟩ : Wd).O[i]? ≠ some (some (x, u)) := fun i u e => by
          have := (ok.own i x u e).1
          rw [hx] at this; cases this
        obtain ⟨o3, exF⟩ := freeze (W := ⟨W'.F, W'.m, W.O⟩) oo hx' hF' hm' no
        refine p ⟨upd W'.F x (.ins (ga X.K c) dx (ns.zip ws)), W'.m, W.O⟩ H' ⟨l.F.tr exF, l.frm, fun b u e => ?_, l.m, rfl, l.cel⟩ o3 _ ?_
        · by_cases z : b = x
          · subst z; exact .inr hx
          · replace e : upd W'.F x (.ins (ga X.K c) dx (ns.zip ws)) b = some u := e
            rw [upd_ne z] at e
            exact l.new b u e
        · unfold Rp
          exact ⟨x, dx, ws, rfl, upd_same, hlen, Rps.mono exF ⟨[], by simp⟩ _ hr'⟩
    refine wpAny_call (make_map (f := f) I.kIn Mk'.makes Mk'.init (beq_iff_eq.mp Mk'.fn) (codeAny_mono (F.run _ X.stack _ _ ⟨Value.ref (s.heap.objs.size + 1) :: us, ks.zip ws⟩ (Value.ref (s.heap.objs.size + 1) :: prm π (us ++ dus ++ ws)) _ _ _ (hr.make (ga X.K c) us (ks.zip ws))
      (I2.env0.make (ga X.K c) us (ks.zip ws)) (hB _ _ us ws I2.kIn (by rw [← r.length, ← rl]; exact hl.1) (by rw [← rz.length, ← zl]; exact hl.2)) r2 (hE _ _ (I.hok.fresh (Nat.le_succ _)) (I.hok.fresh (Nat.le_refl _)) ndx)) fun r s' hq' => ?_))
    cases r with
    | error e => exact tk e s' (XE.of_call I2 (fun _ _ _ z => z) hq')
    | ok fl =>
      cases fl with
      | ret u =>
        obtain ⟨v, H', I3, rv, ev, q3⟩ := I2.after hq'
        subst ev
        exact ⟨rv, ⟨V.ref (s.heap.objs.size + 1), H', I3, vR _, q3⟩⟩
      | next => exact hq'.elim
      | brk => exact hq'.elim
      | cont => exact hq'.elim
  · rw [if_neg hl] at p
    exact p.elim
/-! ### the texts of calls -/
def SK (T : WX) (X : Cx) (kws : List Keyword) (c : Ev → M (List D)) : Prop := ∀ ε σ W h H Q, Rel X.K W.F W.m σ ε W.O → WOk X.K W h H → Post X.K T W H σ (c ε h) (fun ds _ W' H' => ∀ vs, Rps X.K W'.F W'.m ds vs → Q vs H') → Gk X kws σ H Q
structure ArgS (X : Cx) (es : List Expr) (cs : Ev → M (List D)) (kws : List Keyword) (ks : List Str) (pos : Pos) : Prop where
  all : (backToKw pos (keywordEach kws X.env)).all (·.1.isSome) = true
  ks : (backToKw pos (keywordEach kws X.env)).filterMap (·.1) = ks
  pl : ((backTo pos (starEach es X.env)).any (·.1) || (backToKw pos (keywordEach kws X.env)).any (·.1.isNone)) = false
  st : (es = [] ∧ cs = mNilA) ∨ ∃ e r, es = e :: r ∧ starEach (e :: r) X.env = (false, eval e X.env) :: starEach r X.env
def mArgs (cs ck : Ev → M (List D)) (f : List D → List D → M D) : EM := fun ε h => (cs ε h).bnd fun ds h1 => (ck ε h1).bnd fun es h2 => f ds es h2
section
variable {T : WX} {X : Cx} {e o : Expr} {es : List Expr} {c co : EM} {cs ck : Ev → M (List D)} {p apos pos : Pos} {x : Str} {kws : List Keyword} {ks : List Str} {f : List D → List D → M D}
theorem sk_nil : SK T X [] mNilA := fun ε σ W h H Q r o p => k_nil (p.ok o o.mN _ Rps.nil)
theorem sk_cons {nm : Option Str} {kpos : Pos} (ha : SE T X e c) (hr : SK T X kws ck) : SK T X (⟨nm, e, kpos⟩ :: kws) (mConsA c ck) := by
  intro ε σ W h H Q r o p
  refine k_cons (ha ε σ W h H _ r o (Post.mono (Post.bnd p) (Le.rfl' o.mN) fun d h1 W1 H1 l1 o1 p1 v hv => ?_))
  refine hr ε σ W1 h1 H1 _ (r.le l1) o1 (Post.mono (Post.bnd p1) (Le.rfl' o1.mN) fun ds h2 W2 H2 l2 o2 p2 vs hvs => ?_)
  exact p2.ok o2 o2.mN _ (Rps.cons (Rp.mono l2.F l2.mx d hv) hvs)
theorem cw_run {u : Value} {first : List Value} {fd : List D} {fv : List V} {pins : List (Addr × Obj)} {s : Shared} {σ : L2.St} {ε : Ev} {W : Wd} {h : Store} {Q : VK} (hk : PySem.W.keepIn X.K u = true) (hc : CallW T X u ks f) (A : ArgS X es cs kws ks pos) (ha : SA T X es cs) (hkw : SK T X kws ck)
    (I : Inv X pins σ H s) (r : Rel X.K W.F W.m σ ε W.O) (o : WOk X.K W h H) (rf : Rps X.K W.F W.m fd fv) (rv : Vals fv first) (p : Post X.K T W H σ (mArgs cs ck (fun ds es => f (fd ++ ds) es) ε h) (fun d _ W' H' => ∀ v, Rp X.K W'.F W'.m d v → Q v H')) :
    wpAny (model X.prog X.w) X.A (callWith pos u first (backTo pos (starEach es X.env)) (backToKw pos (keywordEach kws X.env))) (EP X pins σ Q) X.xe s := by
  unfold mArgs at p
  have go : Ga X es σ H (fun vs H1 => ∃ ds h1 W1, Le W H W1 H1 ∧ WOk X.K W1 h1 H1 ∧ Rps X.K W1.F W1.m ds vs ∧ Post X.K T W1 H1 σ ((ck ε h1).bnd fun es h2 => f (fd ++ ds) es h2) (fun d _ W' H' => ∀ v, Rp X.K W'.F W'.m d v → Q v H')) :=
    ha ε σ W h H _ r o (Post.mono (Post.bnd p) (Le.rfl' o.mN) fun ds h1 W1 H1 l1 o1 p1 vs hvs => ⟨ds, h1, W1, l1, o1, hvs, p1⟩)
  have kw : ∀ {us : List Value} {s1 : Shared} {vs : List V} {H1 : Hp}, Inv X pins σ H1 s1 → Vals vs us → (∃ ds h1 W1, Le W H W1 H1 ∧ WOk X.K W1 h1 H1 ∧ Rps X.K W1.F W1.m ds vs ∧ Post X.K T W1 H1 σ ((ck ε h1).bnd fun es h2 => f (fd ++ ds) es h2) (fun d _ W' H' => ∀ v, Rp X.K W'.F W'.m d v → Q v H')) →
      wpAny (model X.prog X.w) X.A (evalAll ((backToKw pos (keywordEach kws X.env)).map (·.2))) (fun ws s2 => X.K.In s2.heap ∧ wpAny (model X.prog X.w) X.A (call u (first ++ us) (((backToKw pos (keywordEach kws X.env)).filterMap (·.1)).zip ws)) (EP X pins σ Q) X.xe s2) X.xe s1 := by
    intro us s1 vs H1 I1 r1 ⟨ds, h1, W1, l1, o1, hvs, p1⟩
    refine thn (hkw ε σ W1 h1 H1 (fun zs H2 => ∃ es h2 W2, Le W1 H1 W2 H2 ∧ WOk X.K W2 h2 H2 ∧ Rps X.K W2.F W2.m es zs ∧ Post X.K T W2 H2 σ (f (fd ++ ds) es h2) (fun d _ W' H' => ∀ v, Rp X.K W'.F W'.m d v → Q v H')) (r.le l1) o1 (Post.mono (Post.bnd p1) (Le.rfl' o1.mN) fun es h2 W2 H2 l2 o2 p2 zs hzs => ⟨es, h2, W2, l2, o2, hzs, p2⟩) pos pins s1 I1) fun ws s2 ⟨zs, H2, I2, r2, es', h2, W2, l2, o2, hzs, p2⟩ => ⟨I2.kIn, ?_⟩
    rw [A.ks]
    exact hc pins s2 σ H2 W2 h2 (fd ++ ds) es' (fv ++ vs) zs (first ++ us) ws Q I2 (rv.append r1) r2 o2 ((Rps.mono (l1.tr l2).F (l1.tr l2).mx _ rf).app (Rps.mono l2.F l2.mx _ hvs)) hzs p2
  rcases A.st with ⟨rfl, rfl⟩ | ⟨e, r', rfl, he⟩
  · exact PySem.W.callWith_KW0 (h₀ := X.base) I.ok.mod.kin hk A.all (kw I .nil ⟨[], h, W, Le.rfl' o.mN, o, Rps.nil, p⟩) A.pl
  · exact PySem.W.callWith_KW (h₀ := X.base) I.ok.mod.kin hk A.all (thn (go pos pins s I) fun us s1 ⟨vs, H1, I1, r1, q⟩ => kw I1 r1 q) A.pl he
/-- f(.., k = v), C(.., k = v) -/
structure Fq (T : WX) (X : Cx) (x : Str) (ks : List Str) (f : List D → List D → M D) : Prop where
  ex : ∃ a : Addr, CallW T X (.ref a) ks f ∧ X.mg x = some (.ref a) ∧ PySem.W.keepIn X.K (.ref a) = true
  g : Gl X x
  db : (x == ("__debug__" : Str)) = false
theorem se_callW (F : Fq T X x ks f) (A : ArgS X es cs kws ks pos) (ha : SA T X es cs) (hkw : SK T X kws ck) : SE T X (.Call (.Name x p) es kws pos) (mArgs cs ck f) := by
  intro ε σ W h H Q r o p'
  obtain ⟨u, hc, hm, hk⟩ := F.ex
  intro pins s I
  exact wpAny_Call_Name_kw (ld_glob I F.g hm (cw_run (fd := []) (fv := []) (first := []) hk hc A ha hkw I r o Rps.nil .nil p') F.db)
/-- o.m(..), of own objects -/
def mMeth (tbl : List (Str × (List D → List D → M D))) (m : Str) (co : EM) (cs ck : Ev → M (List D)) : EM := fun ε h => (co ε h).bnd fun d h1 => match d with
  | .obj c ns fs => if m ∈ ns then .no else (match tbl.lookup c with
    | some f => mArgs cs ck (fun ds es => f (.obj c ns fs :: ds) es) ε h1
    | none => .no)
  | _ => .no
structure MtM (T : WX) (X : Cx) (m : Str) (ks : List Str) (c : Str) (f : List D → List D → M D) : Prop where
  ex : ∃ fA, Cls X.K (ga X.K c) ∧ Meth X.K (ga X.K c) m fA ∧ CallW T X (.ref fA) ks f
theorem lookup_mem {α : Type} {β : Type} [BEq α] [LawfulBEq α] {a : α} {b : β} : ∀ {l : List (α × β)}, l.lookup a = some b → (a, b) ∈ l
  | [], h => by cases h
  | (x, y) :: l, h => by
    rw [List.lookup_cons] at h
    by_cases e : (a == x) = true
    · rw [e] at h
      cases h
      cases (beq_iff_eq.mp e)
      exact List.mem_cons_self
    · rw [Bool.eq_false_iff.mpr e] at h
      exact List.mem_cons_of_mem _ (lookup_mem h)
theorem zip_none {ns : List Str} {m : Str} (h : m ∉ ns) : ∀ {vs : List V}, (ns.zip vs).lookup m = none := by
  induction ns with
  | nil => intro vs; rfl
  | cons n ns ih =>
    intro vs
    cases vs with
    | nil => rfl
    | cons v vs =>
      rw [List.zip_cons_cons, List.lookup_cons]
      have e : (m == n) = false := Bool.eq_false_iff.mpr fun z => h (by rw [beq_iff_eq.mp z]; exact List.mem_cons_self)
      rw [e]
      exact ih fun z => h (List.mem_cons_of_mem _ z)
theorem se_meth {pl : Sem Bool} {m : Str} {tbl : List (Str × (List D → List D → M D))} (ht : ∀ q ∈ tbl, MtM T X m ks q.1 q.2) (A : ArgS X es cs kws ks pos) (he : SE T X o co) (ha : SA T X es cs) (hkw : SK T X kws ck)
    (hev : eval (.Call (.Attribute o m apos) es kws pos) X.env = (do
      let ov ← eval o X.env
      standAt apos.atName
      let (f, first) ← holding [ov] (getMethod ov m pl)
      callWith pos f first (backTo pos (starEach es X.env)) (backToKw pos (keywordEach kws X.env)))) : SE T X (.Call (.Attribute o m apos) es kws pos) (mMeth tbl m co cs ck) := by
  intro ε σ W h H Q r ok p
  unfold mMeth at p
  intro pins s I
  refine PySem.W.methodCall_KW (pl := pl) (thn (he ε σ W h H (fun v H1 => ∃ d h1 W1, Le W H W1 H1 ∧ WOk X.K W1 h1 H1 ∧ Rp X.K W1.F W1.m d v ∧ Post X.K T W1 H1 σ (match d with
  | .obj c ns fs => if m ∈ ns then .no else (match tbl.lookup c with
    | some f => mArgs cs ck (fun ds es => f (.obj c ns fs :: ds) es) ε h1
    | none => .no)
  | _ => .no) (fun d _ W' H' => ∀ v, Rp X.K W'.F W'.m d v → Q v H')) r ok (Post.mono (Post.bnd p) (Le.rfl' ok.mN) fun d h1 W1 H1 l1 o1 p1 v hv => ⟨d, h1, W1, l1, o1, hv, p1⟩) pins s I) fun u s1 ⟨v, H1, I1, r1, d, h1, W1, l1, o1, hv, p1⟩ => ?_) hev
  split at p1
  · rename_i c ns fs
    split at p1
    · exact p1.elim
    · rename_i hm
      split at p1
      · rename_i f hf
        obtain ⟨fA, hcl, hmt, hc⟩ := (ht _ (lookup_mem hf)).ex
        have hv' := hv
        unfold Rp at hv'
        obtain ⟨a, dx, vs, rfl, hF, _, _⟩ := hv'
        cases r1
        refine getmeth_ok I1 (o1.sub _ _ hF) hcl hmt (zip_none hm) ?_
        exact cw_run (fd := [.obj c ns fs]) (fv := [.ref a]) (first := [.ref a]) (f := f) hmt.kp hc A ha hkw I1 (r.le l1) o1 (Rps.cons hv Rps.nil) (.cons (vR _) .nil) p1
      · exact p1.elim
  · exact p1.elim
/-- C.m(..), a static method -/
structure SmM (T : WX) (X : Cx) (C m : Str) (ks : List Str) (f : List D → List D → M D) : Prop where
  ex : ∃ g, Smt X.K (ga X.K C) m g ∧ CallW T X (.ref g) ks f
  g : Gl X C
  m : X.mg C = some (.ref (ga X.K C))
  db : (C == ("__debug__" : Str)) = false
theorem se_stat {pl : Sem Bool} {C m : Str} (F : SmM T X C m ks f) (A : ArgS X es cs kws ks pos) (ha : SA T X es cs) (hkw : SK T X kws ck)
    (hev : eval (.Call (.Attribute (.Name C p) m apos) es kws pos) X.env = (do
      let ov ← eval (.Name C p) X.env
      standAt apos.atName
      let (f, first) ← holding [ov] (getMethod ov m pl)
      callWith pos f first (backTo pos (starEach es X.env)) (backToKw pos (keywordEach kws X.env)))) : SE T X (.Call (.Attribute (.Name C p) m apos) es kws pos) (mArgs cs ck f) := by
  intro ε σ W h H Q r ok p'
  obtain ⟨g, S, hc⟩ := F.ex
  intro pins s I
  have go : Go X (.Name C p) σ H (fun v H1 => v = .ref (ga X.K C) ∧ H1 = H) := e_glob ⟨F.g, ⟨_, F.m, vR _⟩, F.db⟩ ⟨rfl, rfl⟩
  refine PySem.W.methodCall_KW (pl := pl) (thn (go pins s I) fun u s1 ⟨v, H1, I1, r1, e1, e2⟩ => ?_) hev
  subst e1 e2
  cases r1
  refine sm_get S I1 fun s2 I2 => ?_
  exact cw_run (fd := []) (fv := []) (first := []) S.kp hc A ha hkw I2 r ok Rps.nil .nil p'
end
end Z
set_option Elab.async false
set_option linter.all false
set_option maxRecDepth 100000
set_option maxHeartbeats 4000000
namespace Z
open PySem PySem.Spec PyProof.Rows L2 G
variable {K : PySem.W.Frag} {F F' H H' : Hp} {m m' : List Addr}
/-! ### how defs bind -/
section
variable {x qual : Str} {params : Arguments} {body : List Stmt} {scope : Scope} {dvs : List V} {kws : List (Str × V)} {f : Addr} {fd : FuncData} {ps ks : List Str} {n : Nat} {π : List Nat}
theorem kbz0 (F : FunD K x qual params body scope [] kws f fd) (h : ∀ (kV doc pm : Value) (an : Option Addr) (cdv ct : Value) (us ws : List Value), us.length = n → ws.length = ks.length → bindArgs (PySem.W.fnOf x qual params body scope .none kV doc pm an cdv ct) ⟨us, ks.zip ws⟩ = pure (ps.zip (prm π (us ++ [] ++ ws))))
    (rng : ∀ i ∈ π, i < n + 0 + ks.length := by decide) (len : π.length = ps.length := by rfl) : Kbz K fd ps n ks π [] := by
  obtain ⟨oc, od, dV, kV, doc, pm, an, cdv, ct, osl, rfl, lk, hcd, hD, hK⟩ := F.ex
  rcases hD with ⟨_, rfl⟩ | ⟨e, _⟩
  · exact ⟨⟨[], .nil, fun s us ws _ h1 h2 => .of_eq (h kV doc pm an cdv ct us ws h1 h2)⟩, rng, len⟩
  · exact absurd rfl e
theorem kbz1 (F : FunD K x qual params body scope dvs kws f fd) (hd : dvs ≠ []) (h : ∀ (T : Addr) (kV doc pm : Value) (an : Option Addr) (cdv ct : Value) (us its ws : List Value), us.length = n → its.length = dvs.length → ws.length = ks.length →
      ∃ k, bindArgs (PySem.W.fnOf x qual params body scope (.ref T) kV doc pm an cdv ct) ⟨us, ks.zip ws⟩ = seqItems? (.ref T) >>= k ∧ k (some its.toArray) = pure (ps.zip (prm π (us ++ its ++ ws))))
    (rng : ∀ i ∈ π, i < n + dvs.length + ks.length := by decide) (len : π.length = ps.length := by rfl) : Kbz K fd ps n ks π dvs := by
  obtain ⟨oc, od, dV, kV, doc, pm, an, cdv, ct, osl, rfl, lk, hcd, hD, hK⟩ := F.ex
  rcases hD with ⟨e, _⟩ | ⟨_, T, o, its, m, rfl, lT, oT, rT⟩
  · exact absurd e hd
  · refine ⟨⟨its, rT, fun s us ws X h1 h2 => ?_⟩, rng, len⟩
    obtain ⟨k, e1, e2⟩ := h T kV doc pm an cdv ct us its ws h1 rT.length.symm h2
    refine BindsTo.of_looks fun M => ?_
    rw [e1]
    exact looks_items X lT oT (.of_pure e2)
theorem kbi0 (F : FunD K x qual params body scope [] kws f fd) (h : ∀ (kV doc pm : Value) (an : Option Addr) (cdv ct : Value) (u : Value) (us ws : List Value), us.length = n → ws.length = ks.length → bindArgs (PySem.W.fnOf x qual params body scope .none kV doc pm an cdv ct) ⟨u :: us, ks.zip ws⟩ = pure (ps.zip (u :: prm π (us ++ [] ++ ws))))
    (rng : ∀ i ∈ π, i < n + 0 + ks.length := by decide) (len : π.length + 1 = ps.length := by rfl) : Kbi K fd ps n ks π [] := by
  obtain ⟨oc, od, dV, kV, doc, pm, an, cdv, ct, osl, rfl, lk, hcd, hD, hK⟩ := F.ex
  rcases hD with ⟨_, rfl⟩ | ⟨e, _⟩
  · exact ⟨⟨[], .nil, fun s u us ws _ h1 h2 => .of_eq (h kV doc pm an cdv ct u us ws h1 h2)⟩, rng, len⟩
  · exact absurd rfl e
theorem kbi1 (F : FunD K x qual params body scope dvs kws f fd) (hd : dvs ≠ []) (h : ∀ (T : Addr) (kV doc pm : Value) (an : Option Addr) (cdv ct : Value) (u : Value) (us its ws : List Value), us.length = n → its.length = dvs.length → ws.length = ks.length →
      ∃ k, bindArgs (PySem.W.fnOf x qual params body scope (.ref T) kV doc pm an cdv ct) ⟨u :: us, ks.zip ws⟩ = seqItems? (.ref T) >>= k ∧ k (some its.toArray) = pure (ps.zip (u :: prm π (us ++ its ++ ws))))
    (rng : ∀ i ∈ π, i < n + dvs.length + ks.length := by decide) (len : π.length + 1 = ps.length := by rfl) : Kbi K fd ps n ks π dvs := by
  obtain ⟨oc, od, dV, kV, doc, pm, an, cdv, ct, osl, rfl, lk, hcd, hD, hK⟩ := F.ex
  rcases hD with ⟨e, _⟩ | ⟨_, T, o, its, m, rfl, lT, oT, rT⟩
  · exact absurd e hd
  · refine ⟨⟨its, rT, fun s u us ws X h1 h2 => ?_⟩, rng, len⟩
    obtain ⟨k, e1, e2⟩ := h T kV doc pm an cdv ct u us its ws h1 rT.length.symm h2
    refine BindsTo.of_looks fun M => ?_
    rw [e1]
    exact looks_items X lT oT (.of_pure e2)
end
section
variable {T : WX} {X : Cx} {a b e o : Expr} {ca cb : EM} {pos : Pos} {x : Str} {ks : List Str} {f : List D → List D → M D} {c : Str}
theorem fq_of {g : Addr} (hc : CallW T X (.ref g) ks f) (hg : Gl X x) (hm : X.mg x = some (.ref g)) (hk : PySem.W.keepIn X.K (.ref g) = true) (hdb : (x == ("__debug__" : Str)) = false := by decide) : Fq T X x ks f := ⟨⟨g, hc, hm, hk⟩, hg, hdb⟩
/-! ### a fresh sum of lists -/
def mAddL (ca cb : EM) : Ev → M (List D) := fun ε h => (ca ε h).bnd fun x h1 => (cb ε h1).bnd fun y h2 => match x, y with
  | .lst xs, .lst ys => if xs.length + ys.length ≤ 100000 then .ok (xs ++ ys) h2 else .no
  | _, _ => .no
theorem sf_add (ha : SL T X a ca) (hb : SL T X b cb) : SF T X (.BinOp a .Add b pos) (mAddL ca cb) := by
  intro ε σ W h H Q r o p
  have g1 : Go X a σ H fun v H1 => Go X b σ H1 fun w H2 => ∃ x y W2 h2, Le W H W2 H2 ∧ WOk X.K W2 h2 H2 ∧ Rb X W2 H2 x v ∧ Rb X W2 H2 y w ∧ Post X.K T W2 H2 σ (match x, y with
  | .lst xs, .lst ys => if xs.length + ys.length ≤ 100000 then .ok (xs ++ ys) h2 else .no
  | _, _ => .no) (fun ds _ W' H' => ∀ p vs, H p = none → H' p = some (.lst vs) → W'.F p = none → p ∉ W'.m → Rps X.K W'.F W'.m ds vs → Q (.ref p) H') :=
    ha ε σ W h H _ r o (Post.mono (Post.bnd p) (Le.rfl' o.mN) fun x h1 W1 H1 l1 o1 p1 v hv => hb ε σ W1 h1 H1 _ (r.le l1) o1 (Post.mono (Post.bnd p1) (Le.rfl' o1.mN) fun y h2 W2 H2 l2 o2 p2 w hw => ⟨x, y, W2, h2, l1.tr l2, o2, hv.mono l2, hw, p2⟩))
  intro pins s I
  refine wpAny_BinOp (thn (g1 pins s I) fun v s1 ⟨x, H1, I1, r1, q1⟩ => thn (q1 pins s1 I1) fun u s2 ⟨y, H2, I2, r2, x', y', W2, h2, l2, o2, hx, hy, p2⟩ => ?_)
  split at p2
  · obtain ⟨qa, vs, rfl, ha, hr⟩ := hx.lst o2
    obtain ⟨qb, ws, rfl, hb, hs⟩ := hy.lst o2
    split at p2
    · rename_i cc
      refine op_cat pins s2 σ H2 _ _ v u Q I2 r1 r2 ⟨qa, qb, vs, ws, rfl, rfl, ha, hb, by rw [← hr.len, ← hs.len]; have := sizeL; omega, fun q hq => ?_⟩
      obtain ⟨l3, o3⟩ := grow o2 (Ex.new (o := HO.lst (vs ++ ws)) hq)
      obtain ⟨f1, f2⟩ := o2.freshF hq
      exact p2 W2 _ l3 o3 q (vs ++ ws) (l2.fresh hq) upd_same f1 f2 (hr.app hs)
    · exact p2.elim
  · exact p2.elim
/-- a property's getter runs -/
theorem prop_run {q : Bool} {X : Cx} {k : Nat} {C p g a dx : Addr} {fs : List (Str × V)} {f : Str} {fd : FuncData} {ps : List Str} {sp : Sp} {E : XK} {pins : List (Addr × Obj)} {σ : L2.St} {s : Shared} {Q : VK} {b : Bool} {E' : Value → Shared → Prop} (I : Inv X pins σ H s) (ea : H a = some (.ins C dx fs)) (c : Cls X.K C) (hp : PropOf X.K C f p g)
    (F : FnT q X.prog X.w X.K X.mg X.base (L2.CX X.prog X.w) k g fd ps sp) (hr : RoomG q (k + 1) X.A) (hb : Binds X.K fd ps []) (hE : ∀ cls d H', ¬ E cls d H') (qq : sp [.ref a] H Q E) : wpAny (model X.prog X.w) X.A (getAttr (.ref a) f b) (EP X pins σ Q) E' s := by
  obtain ⟨mA, O, _, _, _, _⟩ := ins_get I.hok ea
  obtain ⟨od, J, _⟩ := O.look
  obtain ⟨rest, rc⟩ := hp.rec_
  have J1 := I.tok (s.toks + 1)
  have one : ps.length = 1 := (F.len _ _ _ _ qq).symm
  have isC : (PySem.W.clsIn X.K C).isSome = true := by
    obtain ⟨cd, e, _⟩ := any_of (show (PySem.W.clsIn X.K C).any (·.hasDict) = true from c.hd)
    rw [e] <;> rfl
  have hb1 := hb { s with toks := s.toks + 1 } [.ref a] J1.kIn (by rw [one] <;> rfl)
  refine PySem.W.get_bind I.kIn J (PySem.W.plainGet_of (c.get f)).1 (PySem.W.findObj_data isC hp.at_ hp.get hp.tak) (PySem.W.plainGet_of (c.get f)).2 (wpAny_call (PySem.W.prop_get (s := { s with toks := s.toks + 1 }) I.kIn rc (codeAny_mono (F.run X.A.in1 X.stack { s with toks := s.toks + 1 } H ⟨[.ref a], []⟩ [.ref a] [.ref a] Q E hr.in1 J1.env0.in1 hb1 (.cons rfl .nil) qq) fun r s' z => ?_)))
  cases r with
  | error er =>
    obtain ⟨_, _, _, _, _, _, _, _, _, _, _, _, hx⟩ := z
    exact (hE _ _ _ hx).elim
  | ok fl =>
    cases fl with
    | ret u =>
      obtain ⟨v, H', I3, rv, q3⟩ := J1.after z
      show wpAny _ _ (handedOut u) _ _ _
      rw [PySem.W.handedOut_of (handed_of rv)]
      exact wpAny_pure ⟨v, H', I3, rv, q3⟩
    | next => exact z.elim
    | brk => exact z.elim
    | cont => exact z.elim
/-! ### properties -/
/-- properties of the classes of tbl -/
def aPrp (tbl : List (Str × (List D → M D))) (d : D) : M D := fun h => match d with
  | .obj c ns fs => (match tbl.lookup c with
    | some f => calm (f [.obj c ns fs] h)
    | none => .no)
  | _ => .no
structure PrM (X : Cx) (m : Str) (c : Str) (f : List D → M D) : Prop where
  ex : ∃ (q : Bool) (p g : Addr) (k : Nat) (fd : FuncData) (ps : List Str), Cls X.K (ga X.K c) ∧ PropOf X.K (ga X.K c) m p g ∧ FnT q X.prog X.w X.K X.mg X.base (L2.CX X.prog X.w) k g fd ps (spM X.K 1 f) ∧ RoomG q (k + 1) X.A ∧ Binds X.K fd ps []
theorem prp_ok {m : Str} {tbl : List (Str × (List D → M D))} (ht : ∀ q ∈ tbl, PrM X m q.1 q.2) : AttM T X m (aPrp tbl) := by
  intro pins s σ H W h d v u Q I r ok rd p
  unfold aPrp at p
  split at p
  · rename_i c ns fs
    split at p
    · rename_i f hf
      obtain ⟨_, pa, g, k, fd, ps, hcl, hp, F, hr, hb⟩ := (ht _ (lookup_mem hf)).ex
      have rd' := rd
      unfold Rp at rd'
      obtain ⟨a, dx, vs, rfl, hF, _, _⟩ := rd'
      cases r
      have ok0 : WOk X.K ⟨W.F, W.m, []⟩ h H := ⟨ok.sub, ok.len, ok.cel, ok.mF, ok.mN, ok.nd, fun i p u e => by simp at e, fun i j p u p' u' _ e _ => by simp at e⟩
      have fin : ∀ {W' : Wd} {H' : Hp} {h' : Store}, Le ⟨W.F, W.m, []⟩ H W' H' → WOk X.K W' h' H' → Le W H ⟨W'.F, W'.m, W.O⟩ H' ∧ WOk X.K ⟨W'.F, W'.m, W.O⟩ h' H' := fun {W' H' h'} l o =>
        have l2 : Le W H ⟨W'.F, W'.m, W.O⟩ H' := l.reO W.O
        ⟨l2, ok.reO l2 o⟩
      refine prop_run I (ok.sub _ _ hF) hcl hp F hr hb (E := fun _ _ _ => False) (fun _ _ _ z => z) ?_
      refine ⟨rfl, ⟨W.F, W.m, []⟩, h, [.obj c ns fs], rfl, ok0, Rps.cons rd Rps.nil, ?_⟩
      show PostF X.K ⟨W.F, W.m, []⟩ H (f [.obj c ns fs] h) Q _
      generalize f [.obj c ns fs] h = res at p ⊢
      cases res with
      | ok d h' => exact fun v W' H' l o rv => p _ _ (fin l o).1 (fin l o).2 v rv
      | ex c ns es h' => exact p.elim
      | no => exact p.elim
    · exact p.elim
  · exact p.elim
end
end Z
set_option Elab.async false
set_option linter.all false
set_option maxRecDepth 100000
set_option maxHeartbeats 4000000
namespace Z
open PySem PySem.Spec PyProof.Rows L2 G
variable {K : PySem.W.Frag} {F F' H H' : Hp} {m m' : List Addr}
/-! ### where code runs -/
structure Cz (P : Program) (w : World) (K : PySem.W.Frag) (mg : Str → Option Value) (base : Heap) (lvl : Nat) (X : Cx) (N : List Str) (sc : Scope) (fb q : Bool) : Prop where
  eP : X.prog = P
  ew : X.w = w
  eK : X.K = K
  em : X.mg = mg
  eb : X.base = base
  eN : X.N = N
  es : X.env.scope = sc
  room : RoomG q lvl X.A
  calm : q = false → X.calm = true
  nd : N.Nodup
  fn : fb = true → ∀ x, X.fn x = true
  un : X.A.units + 64 < cLine
  gd : X.A.guards = some []
  df : fb = true → X.ex = [] ∧ X.stack = X.env :: X.outer ∧ X.env.frame = some X.env.locals
def kdB (sc : Scope) (x : Str) (k : NameKind) : Bool := match sc.names.lookup x with
  | some q => q == k
  | none => false
theorem kdB_ok {sc : Scope} {x : Str} {k : NameKind} (h : kdB sc x k = true) : sc.names.lookup x = some k := by
  unfold kdB at h
  split at h
  · rename_i q e
    rw [e]
    cases q <;> cases k <;> first | rfl | cases h
  · cases h
def atB (N : List Str) (i : Nat) (x : Str) : Bool := decide (N[i]? = some x)
def slB (N : List Str) (sc : Scope) (i : Nat) (x : Str) : Bool := atB N i x && ((kdB sc x .local || (kdB sc x .cell || kdB sc x .free)) && (!(x == ("__debug__" : Str)) && !(x == ("__classdict__" : Str))))
def swB (N : List Str) (sc : Scope) (fb : Bool) (i : Nat) (x : Str) : Bool := atB N i x && ((kdB sc x .local || kdB sc x .cell) && (fb || kdB sc x .local))
def glB (sc : Scope) (x : Str) : Bool := kdB sc x .globalImplicit && !(x == ("__debug__" : Str))
theorem ob {a b : Bool} (h : (a || b) = true) : a = true ∨ b = true := by simpa using h
theorem nb {a : Bool} (h : (!a) = true) : a = false := by simpa using h
section
variable {P : Program} {w : World} {mg : Str → Option Value} {base : Heap} {lvl : Nat} {T : WX} {X Y : Cx} {N : List Str} {sc scope : Scope} {fb q qf : Bool}
theorem sl_at (C : Cz P w K mg base lvl X N sc fb q) (i : Nat) (x : Str) (h : slB N sc i x = true) : Sl X i x := by
  obtain ⟨h1, h2⟩ := He.ba h
  obtain ⟨h2, h3⟩ := He.ba h2
  obtain ⟨h3, h4⟩ := He.ba h3
  refine ⟨by rw [C.eN]; exact of_decide_eq_true h1, ?_, nb h3, nb h4⟩
  unfold Vis
  rw [C.es]
  rcases ob h2 with q | q
  · exact .inl (kdB_ok q)
  · rcases ob q with q | q
    · exact .inr (.inl (kdB_ok q))
    · exact .inr (.inr (kdB_ok q))
theorem sw_at (C : Cz P w K mg base lvl X N sc fb q) (i : Nat) (x : Str) (h : swB N sc fb i x = true) : Sw X i x := by
  obtain ⟨h1, h2⟩ := He.ba h
  obtain ⟨h2, h3⟩ := He.ba h2
  refine ⟨by rw [C.eN]; exact of_decide_eq_true h1, ?_, ?_, by rw [C.eN]; exact C.nd⟩
  · rcases ob h2 with q | q
    · exact .inl (by rw [C.es]; exact kdB_ok q)
    · exact .inr (by rw [C.es]; exact kdB_ok q)
  · rw [C.es]
    rcases ob h3 with q | q
    · exact .inl (C.fn q x)
    · exact .inr (kdB_ok q)
theorem lc_at (C : Cz P w K mg base lvl X N sc fb q) (x : Str) (h : kdB sc x .local = true) : X.env.scope.names.lookup x = some .local := by rw [C.es]; exact kdB_ok h
theorem gl_at (C : Cz P w K mg base lvl X N sc fb q) (x : Str) (h : glB sc x = true) : Gl X x := by
  show X.env.scope.names.lookup x = _
  rw [C.es]
  exact kdB_ok (He.ba h).1
theorem nd_at (C : Cz P w K mg base lvl X N sc fb q) : X.N.Nodup := by rw [C.eN]; exact C.nd
theorem blk_at (C : Cz P w K mg base lvl X N sc fb q) (h : Blk X scope Y) : Cz P w K mg base lvl Y N (relS scope sc) false q := by
  have e := blk_scope h
  obtain ⟨s, H, c, cl, fp, rfl⟩ := h
  exact ⟨C.eP, C.ew, C.eK, C.em, C.eb, C.eN, by rw [e, C.es], C.room, C.calm, C.nd, fun h => (by cases h), C.un, C.gd, fun h => (by cases h)⟩
theorem cz_tr {pn : List (Addr × Obj)} {xe : Value → Shared → Prop} (C : Cz P w K mg base lvl X N sc fb q) : Cz P w K mg base lvl (X.tr pn xe) N sc fb q := ⟨C.eP, C.ew, C.eK, C.em, C.eb, C.eN, C.es, C.room, C.calm, C.nd, C.fn, C.un, C.gd, C.df⟩
theorem cz_suite {a : Addr} {pn : List (Addr × Obj)} (C : Cz P w K mg base lvl X N sc fb q) : Cz P w K mg base lvl (X.suite a pn) N sc fb true := ⟨C.eP, C.ew, C.eK, C.em, C.eb, C.eN, C.es, ⟨C.room.dp, C.room.un, C.room.gd, fun h => (by cases h)⟩, fun h => (by cases h), C.nd, C.fn, C.un, C.gd, C.df⟩
theorem take0 : Takes X T0 := fun _ _ h => by
  obtain ⟨_, _, _, _, _, _, _, _, _, _, _, _, _, _, _, _, h⟩ := h
  exact h.elim
end
/-- a def that stands in the text keeps its promise -/
structure OkD (qf : Bool) (P : Program) (w : World) (K : PySem.W.Frag) (mg : Str → Option Value) (base : Heap) (k : Nat) (d : DefZ) (ps : List Str) (sp : Sp) : Prop where
  ex : ∃ fd, FunD K d.name d.qual (defArgs d.st) (defBody d.st) (defScope d.st) d.dfl d.kwd (d.at_.at K) fd ∧ FnT qf P w K mg base (L2.CX P w) k (d.at_.at K) fd ps sp
abbrev FunZ (K : PySem.W.Frag) (d : DefZ) (fd : FuncData) : Prop := FunD K d.name d.qual (defArgs d.st) (defBody d.st) (defScope d.st) d.dfl d.kwd (d.at_.at K) fd
/-- what is known of the text -/
structure Gz (fa : List Fz) (fn : List DefZ) (K : PySem.W.Frag) (mg : Str → Option Value) : Prop where
  ex : ∃ h : Heap, K.In h ∧ h.Ns mainGlobals mg
  says : SaysZ fa fn K
section
variable {P : Program} {w : World} {mg : Str → Option Value} {base : Heap} {lvl k : Nat} {T : WX} {X Y : Cx} {N ps ks : List Str} {sc scope : Scope} {fb q qf : Bool} {fa : List Fz} {fn : List DefZ} {d : DefZ} {n n0 : Nat} {π : List Nat} {mf : List D → M D} {mi : List D → M (List Str × List D)} {dfl : List D} {x c m' : Str}
theorem okd_of (c : SaysZ fa fn K) (i : Nat) (h : fn[i]? = some d) {cS : SC} (S : FnScope N ps (defScope d.st)) (hl : ps.length ≤ N.length)
    (hb : ∀ {T X}, Cz P w K mg base lvl X N (defScope d.st) true qf → Takes X T → PassesOwn (model X.prog X.w) X.A X.env X.xe → SB T X (defBody d.st) cS) : OkD qf P w K mg base (lvl + 1) d ps (spM K ps.length (runF cS N.length)) := by
  obtain ⟨fd, F⟩ := c.def_ i h
  exact ⟨fd, F, fn_okM F S hl fun cdv A outer s H E hr => hb ⟨rfl, rfl, rfl, rfl, rfl, rfl, rfl, hr, fun z => (by subst z; rfl), S.nd, fun _ _ => rfl, hr.units64, hr.gd, fun _ => ⟨rfl, rfl, rfl⟩⟩ (takes_of rfl rfl rfl rfl) (passes_of rfl)⟩
theorem oki_of (c : SaysZ fa fn K) (i : Nat) (h : fn[i]? = some d) {cS : SC} {C : Str} (S : FnScope N ps (defScope d.st)) (hl : ps.length ≤ N.length)
    (hb : ∀ {T X}, Cz P w K mg base lvl X N (defScope d.st) true qf → Takes X T → PassesOwn (model X.prog X.w) X.A X.env X.xe → SB T X (defBody d.st) cS) : OkD qf P w K mg base (lvl + 1) d ps (spI K C ps.length (runI C cS N.length)) := by
  obtain ⟨fd, F⟩ := c.def_ i h
  exact ⟨fd, F, in_okM F S hl fun cdv A outer s H E hr => hb ⟨rfl, rfl, rfl, rfl, rfl, rfl, rfl, hr, fun z => (by subst z; rfl), S.nd, fun _ _ => rfl, hr.units64, hr.gd, fun _ => ⟨rfl, rfl, rfl⟩⟩ (takes_of rfl rfl rfl rfl) (passes_of rfl)⟩
theorem fq_at (Γ : Gz fa fn K mg) (C : Cz P w K mg base lvl X N sc fb q) (tk : Takes X T) (O : OkD qf P w K mg base k d ps (spM K n0 mf)) (hk : k ≤ lvl) (hqf : qf = false → q = false) (hd : d.at_ = .glo x) (kb : ∀ {fd}, FunZ K d fd → Kbz K fd ps n ks π d.dfl) (hn : ps.length = n0) (hD : ∀ F m, Rps K F m dfl d.dfl)
    (i : Nat) (hf : fa[i]? = some (.glo x)) (hg : glB sc x = true) : Fq T X x ks (wArg n ks.length π dfl mf) := by
  obtain ⟨fd, F, ok⟩ := O.ex
  obtain ⟨h, X0, G0⟩ := Γ.ex
  obtain ⟨e1, e2⟩ := fz_glo X0 G0 (Γ.says.fact i hf)
  have B := kb F
  have hgl := gl_at C x hg
  obtain ⟨rfl, rfl, rfl, rfl, rfl, _, _, hr, _, _, _, _, _, _⟩ := C
  refine ⟨⟨ga X.K x, ?_, e1, e2⟩, hgl, nb (He.ba hg).2⟩
  have := callW_of (dfl := dfl) ok hn ((hr.mono hk).as hqf) B hD tk
  rw [hd] at this
  exact this
theorem fk_at (Γ : Gz fa fn K mg) (C : Cz P w K mg base lvl X N sc fb q) (tk : Takes X T) (O : OkD qf P w K mg base k d ps (spI K c n0 mi)) (hk : k + 1 ≤ lvl) (hqf : qf = false → q = false) (hd : d.at_ = .meth c "__init__") (kb : ∀ {fd}, FunZ K d fd → Kbi K fd ps n ks π d.dfl) (hn : ps.length = n0) (hD : ∀ F m, Rps K F m dfl d.dfl)
    (i j : Nat) (hf : fa[i]? = some (.glo c)) (hj : fa[j]? = some (.mk c)) (hg : glB sc c = true) : Fq T X c ks (wMk c n ks.length π dfl mi) := by
  obtain ⟨fd, F, ok⟩ := O.ex
  obtain ⟨h, X0, G0⟩ := Γ.ex
  obtain ⟨e1, e2⟩ := fz_glo X0 G0 (Γ.says.fact i hf)
  have Mk' := fz_mk (Γ.says.fact j hj)
  have B := kb F
  have hgl := gl_at C c hg
  obtain ⟨rfl, rfl, rfl, rfl, rfl, _, _, hr, _, _, _, _, _, _⟩ := C
  refine ⟨⟨ga X.K c, ?_, e1, e2⟩, hgl, nb (He.ba hg).2⟩
  rw [hd] at ok
  exact make_W (dfl := dfl) Mk' ok hn ((hr.mono hk).as hqf) B hD tk
theorem mt_at (Γ : Gz fa fn K mg) (C : Cz P w K mg base lvl X N sc fb q) (tk : Takes X T) (O : OkD qf P w K mg base k d ps (spM K n0 mf)) (hk : k ≤ lvl) (hqf : qf = false → q = false) (hd : d.at_ = .meth c m') (kb : ∀ {fd}, FunZ K d fd → Kbz K fd ps n ks π d.dfl) (hn : ps.length = n0) (hD : ∀ F m, Rps K F m dfl d.dfl)
    (i j : Nat) (hf : fa[i]? = some (.cls c)) (hj : fa[j]? = some (.meth c m')) : MtM T X m' ks c (wArg n ks.length π dfl mf) := by
  obtain ⟨fd, F, ok⟩ := O.ex
  obtain ⟨h, X0, G0⟩ := Γ.ex
  obtain ⟨cl, _⟩ := fz_cls (Γ.says.fact i hf)
  obtain ⟨e1, e2⟩ := fz_meth (Γ.says.fact j hj)
  have B := kb F
  have kp := F.kp
  obtain ⟨rfl, rfl, rfl, rfl, rfl, _, _, hr, _, _, _, _, _, _⟩ := C
  have := callW_of (dfl := dfl) ok hn ((hr.mono hk).as hqf) B hD tk
  rw [hd] at this kp
  exact ⟨⟨_, cl, ⟨e1, e2, kp⟩, this⟩⟩
theorem dm_at (Γ : Gz fa fn K mg) (C : Cz P w K mg base lvl X N sc fb q) (tk : Takes X T) (O : OkD qf P w K mg base k d ps (spM K n0 mf)) (hk : k + 4 ≤ lvl) (hqf : qf = false → q = false) (hd : d.at_ = .meth c m') (kb : ∀ {fd}, FunZ K d fd → Binds K fd ps []) (hn : ps.length = n0)
    (j : Nat) (hj : fa[j]? = some (.meth c m')) : DmM T X c m' n0 mf := by
  obtain ⟨fd, F, ok⟩ := O.ex
  obtain ⟨e1, e2⟩ := fz_meth (Γ.says.fact j hj)
  have B := kb F
  obtain ⟨rfl, rfl, rfl, rfl, rfl, _, _, hr, _, _, _, _, _, _⟩ := C
  rw [hd] at ok
  exact ⟨⟨_, _, k, fd, ps, e1, e2, ok, hn, B, (hr.mono hk).as hqf, tk⟩⟩
theorem pr_at (Γ : Gz fa fn K mg) (C : Cz P w K mg base lvl X N sc fb q) (O : OkD qf P w K mg base k d ps (spM K 1 mf)) (hk : k + 1 ≤ lvl) (hqf : qf = false → q = false) (hd : d.at_ = .prop c m') (kb : ∀ {fd}, FunZ K d fd → Binds K fd ps [])
    (i j : Nat) (hf : fa[i]? = some (.cls c)) (hj : fa[j]? = some (.prop c m')) : PrM X m' c mf := by
  obtain ⟨fd, F, ok⟩ := O.ex
  obtain ⟨cl, _⟩ := fz_cls (Γ.says.fact i hf)
  have pp := fz_prop (Γ.says.fact j hj)
  have B := kb F
  obtain ⟨rfl, rfl, rfl, rfl, rfl, _, _, hr, _, _, _, _, _, _⟩ := C
  rw [hd] at ok
  exact ⟨⟨_, _, _, k, fd, ps, cl, pp, ok, (hr.mono hk).as hqf, B⟩⟩
theorem bn_at (Γ : Gz fa fn K mg) (C : Cz P w K mg base lvl X N sc fb q) {u : Value} (i : Nat) (hf : fa[i]? = some (.free x)) (hb : bootBuiltins x = some u) (hn : x ≠ "__name__") (hg : glB sc x = true) : Bn X x u := by
  obtain ⟨h, X0, G0⟩ := Γ.ex
  have e := fz_free X0 G0 (Γ.says.fact i hf)
  exact ⟨gl_at C x hg, by rw [C.em]; exact e, hb, hn, nb (He.ba hg).2⟩
theorem sm_at (Γ : Gz fa fn K mg) (C : Cz P w K mg base lvl X N sc fb q) (tk : Takes X T) (O : OkD qf P w K mg base k d ps (spM K n0 mf)) (hk : k ≤ lvl) (hqf : qf = false → q = false) (hd : d.at_ = .stat c m') (kb : ∀ {fd}, FunZ K d fd → Kbz K fd ps n ks π d.dfl) (hn : ps.length = n0) (hD : ∀ F m, Rps K F m dfl d.dfl)
    (hs : Smt K (ga K c) m' ((Ad.stat c m').at K)) (i : Nat) (hf : fa[i]? = some (.glo c)) (hg : glB sc c = true) : SmM T X c m' ks (wArg n ks.length π dfl mf) := by
  obtain ⟨fd, F, ok⟩ := O.ex
  obtain ⟨h, X0, G0⟩ := Γ.ex
  obtain ⟨e1, e2⟩ := fz_glo X0 G0 (Γ.says.fact i hf)
  have B := kb F
  have hgl := gl_at C c hg
  obtain ⟨rfl, rfl, rfl, rfl, rfl, _, _, hr, _, _, _, _, _, _⟩ := C
  have := callW_of (dfl := dfl) ok hn ((hr.mono hk).as hqf) B hD tk
  rw [hd] at this
  exact ⟨⟨_, hs, this⟩, hgl, e1, nb (He.ba hg).2⟩
end
end Z
set_option Elab.async false
set_option linter.all false
set_option maxRecDepth 100000
set_option maxHeartbeats 4000000
namespace Z
open PySem PySem.Spec PyProof.Rows L2 G
variable {K : PySem.W.Frag} {F F' H H' : Hp} {m m' : List Addr}
section
variable {P : Program} {w : World} {mg : Str → Option Value} {base : Heap} {lvl : Nat} {T : WX} {X : Cx} {N : List Str} {sc : Scope} {fb q : Bool} {fa : List Fz} {fn : List DefZ} {x : Str}
theorem ru_at (C : Cz P w K mg base lvl X N sc fb q) : X.A.units + 64 < cLine := C.un
theorem hcl_at (Γ : Gz fa fn K mg) (C : Cz P w K mg base lvl X N sc fb q) {cl : List Str} {f : Str} (i : Nat) (hf : fa[i]? = some (.flds cl f)) : ∀ c ∈ cl, Cls X.K (ga X.K c) ∧ NoAttr X.K (ga X.K c) f := by
  rw [C.eK]
  exact fz_flds (Γ.says.fact i hf)
/-- every class of t stands in the text -/
def tkC' (t : List (TK × TK × Bool)) (cs : List Str) : Bool := t.all fun q => match q.1 with
  | .c c => decide (c ∈ cs)
  | _ => true
theorem isi_at (Γ : Gz fa fn K mg) (C : Cz P w K mg base lvl X N sc fb q) {t : List (TK × TK × Bool)} {cs : List Str} {f : Str} (i j : Nat) (hf : fa[i]? = some (.kits t)) (hj : fa[j]? = some (.flds cs f)) (hc : tkC' t cs = true) : CallB T X (.builtin "isinstance") (bIsi t) := by
  have ht := fz_kits (Γ.says.fact i hf)
  have hq := Γ.says.fact j hj
  have eK := C.eK
  subst eK
  refine isi_ok ht fun c u b hm => ?_
  have h1 := List.all_eq_true.mp hc _ hm
  have h2 : c ∈ cs := of_decide_eq_true h1
  have := (He.ba (List.all_eq_true.mp (show (cs.all fun c => clsOk X.K c && eqO (PySem.W.findIn X.K (.ref (ga X.K c)) f) (some none)) = true from hq) _ h2)).1
  exact (fz_cls (c := c) this).2
theorem gi_at (Γ : Gz fa fn K mg) (C : Cz P w K mg base lvl X N sc fb q) {k : Int} (i : Nat) (hf : fa[i]? = some (.int x k)) (hg : glB sc x = true) : Gn X x (.int k) := by
  obtain ⟨h, X0, G0⟩ := Γ.ex
  exact ⟨gl_at C x hg, by rw [C.em]; exact fz_int X0 G0 (Γ.says.fact i hf), nb (He.ba hg).2⟩
theorem gs_at (Γ : Gz fa fn K mg) (C : Cz P w K mg base lvl X N sc fb q) {z : Str} (i : Nat) (hf : fa[i]? = some (.str x z)) (hg : glB sc x = true) : Gn X x (.str z) := by
  obtain ⟨h, X0, G0⟩ := Γ.ex
  exact ⟨gl_at C x hg, by rw [C.em]; exact fz_str X0 G0 (Γ.says.fact i hf), nb (He.ba hg).2⟩
theorem gc_at (Γ : Gz fa fn K mg) (C : Cz P w K mg base lvl X N sc fb q) (i : Nat) (hf : fa[i]? = some (.glo x)) (hg : glB sc x = true) : Gn X x (.ref (ga K x)) := by
  obtain ⟨h, X0, G0⟩ := Γ.ex
  exact ⟨gl_at C x hg, ⟨_, by rw [C.em]; exact (fz_glo X0 G0 (Γ.says.fact i hf)).1, rfl⟩, nb (He.ba hg).2⟩
theorem se_cls (C : Cz P w K mg base lvl X N sc fb q) {pos : Pos} (g : Gn X x (.ref (ga K x))) : SE T X (.Name x pos) (mLit (.cls x)) := by
  rw [← C.eK] at g
  exact se_glo g fun F m => by unfold Rp; rfl
theorem nu_at (Γ : Gz fa fn K mg) (C : Cz P w K mg base lvl X N sc fb q) {c : Str} {op : Operator} (i : Nat) (hf : fa[i]? = some (.nu c op)) : Nu X.K (ga X.K c) op := by
  rw [C.eK]
  exact fz_nu (Γ.says.fact i hf)
theorem noi_at (Γ : Gz fa fn K mg) (C : Cz P w K mg base lvl X N sc fb q) {c : Str} {op : Operator} (i : Nat) (hf : fa[i]? = some (.noi c op)) : noI X.K (ga X.K c) op.info.2 = true := by
  rw [C.eK]
  exact fz_noi (Γ.says.fact i hf)
theorem blkok_at (C : Cz P w K mg base lvl X N sc fb q) {scope : Scope} {own : List (Str × Nat)} (h : blkC N sc scope own = true) : BlkOk X.N X.env.scope scope own := by
  rw [C.eN, C.es]
  exact blkOk_by h
theorem swl_at (C : Cz P w K mg base lvl X N sc fb q) {v : Expr} {t : Option Expr} {n : Nat} {r : Sem Bool} (h : ∀ env : Env, swapsWith v t n { env with scope := sc } = r) : swapsWith v t n X.env = r := by
  have q := h X.env
  rw [← C.es] at q
  exact q
theorem sws_at (C : Cz P w K mg base lvl X N sc fb q) {tg : List Expr} {v : Expr} {r : Sem (Option (List Str))} (h : ∀ env : Env, swappedStores tg v { env with scope := sc } = r) : swappedStores tg v X.env = r := sw_by C.es h
end
end Z
set_option Elab.async false
set_option linter.all false
set_option maxRecDepth 100000
set_option maxHeartbeats 4000000
namespace Z
open PySem PySem.Spec PyProof.Rows L2 G
variable {K : PySem.W.Frag} {F F' H H' : Hp} {m m' : List Addr}
/-! ### -x -/
def mUn (g : D → M D) (a : EM) : EM := fun ε h => (a ε h).bnd fun x h1 => g x h1
theorem se_un {T : WX} {X : Cx} {op : UnaryOp} {e : Expr} {c : EM} {g : D → M D} {pos : Pos} (hg : UnM T X (unaryOp op) g) (ha : SL T X e c) : SE T X (.UnaryOp op e pos) (mUn g c) := by
  intro ε σ W h H Q r o p
  have g1 : Go X e σ H fun v H1 => ∃ x W1 h1, WOk X.K W1 h1 H1 ∧ Rb X W1 H1 x v ∧ Post X.K T W1 H1 σ (g x h1) (fun d _ W' H' => ∀ v, Rp X.K W'.F W'.m d v → Q v H') :=
    ha ε σ W h H _ r o (Post.mono (Post.bnd p) (Le.rfl' o.mN) fun x h1 W1 H1 l1 o1 p1 v hv => ⟨x, W1, h1, o1, hv, p1⟩)
  intro pins s I
  exact UnaryOp_ (thn (g1 pins s I) fun v s1 ⟨x, H1, I1, r1, x', W1, h1, o1, hx, p1⟩ => hg pins s1 σ H1 W1 h1 x' x v Q I1 r1 o1 hx p1)
/-! ### the end -/
theorem FunD.one {x qual : Str} {pa : Arguments} {bo : List Stmt} {sc : Scope} {dv : List V} {kw : List (Str × V)} {f : Addr} {fd fd' : FuncData} (F1 : FunD K x qual pa bo sc dv kw f fd) (F2 : FunD K x qual pa bo sc dv kw f fd') : fd = fd' := by
  obtain ⟨_, _, _, _, _, _, _, _, _, _, _, l1, _⟩ := F1.ex
  obtain ⟨_, _, _, _, _, _, _, _, _, _, _, l2, _⟩ := F2.ex
  rw [l1] at l2
  simp only [Option.some.injEq, Obj.mk.injEq, Data.func.injEq] at l2
  exact l2.2.2.1
theorem walk_ofZ {l : PySem.W.OpenLaw} {most lvl : Nat} {q : Program} {loose : List Str} {xp : (Str → Option Value) → Heap → Prop} {yp : World → Heap → Prop} {d : DefRec} {cx : World → CXT} {par : Str} (h1 : l.most = some most) (h2 : most ≤ sizeLine) (h3 : d.params.defaults = []) (h4 : Room lvl callerA)
    (h5 : ∀ (w : World) (gl : Str → Option Value) (at' : Addr) (hp : Heap), yp w hp → hp.Ns mainGlobals gl → gl d.name = some (.ref at') → ∃ (Kf : PySem.W.Frag) (code : FuncData) (pr : Sp), Kf.In hp ∧ (∀ (s : Shared) (u : Value), BindsTo s code ⟨[u], []⟩ [(par, u)]) ∧
      (∀ (H : Hp) (ls : Addr) (nums : List Int), nums.length ≤ most → SqL Kf H ls (nums.map V.int) → pr [.ref ls] H (fun v _ => v = .bl true) fun _ _ _ => False) ∧ ∀ b : Heap, Kf.In b → b.Ns mainGlobals gl → FnT false l.prog w Kf gl b (cx w) lvl at' code [par] pr)
    (h6 : ∀ (w : World) (H : Hp) (s : Shared) (e : Value) (s' : Shared), cx w [] H s (fun _ _ _ => False) e s' → False) : PySem.W.WalkO q loose xp yp l.row.toRowW d [] (fun f vs => PySem.call f vs) := by
  refine Att.attach_call h1 h3 fun w s₀ s₁ gl bl' at' o pm cd doc ls vals nums G Y ho hd hcd hmg hobj hints hlen hg => ?_
  obtain ⟨Kf, code, pr, kin, bnd, hpr, hF⟩ := h5 w gl at' _ Y G.T.g hmg
  exact att_law kin G.T.g G.T.b G.T.builtins G.T.nolimit hg hobj hints (Nat.le_trans hlen h2) h4 (fun b k1 k2 => (hF b k1 k2).g) bnd (fun H _ hS => hpr H ls nums hlen hS) fun H e s' => h6 w H s₁ e s'
/-- a value as a test -/
def tB (c : EM) : Ev → M Bool := fun ε h => asB (c ε h)
end Z
set_option Elab.async false
set_option linter.all false
set_option maxRecDepth 100000
set_option maxHeartbeats 4000000
namespace Z
open PySem PySem.Spec PyProof.Rows L2 G
variable {K : PySem.W.Frag} {F F' H H' : Hp} {m m' : List Addr}
/-! ### reckoning with mirrors -/
section
variable {α β : Type} {a : α} {h h1 : Store} {ε : Ev} {k : α → Store → R Fw} {f : α → Store → R β} {i j : Int} {d : D} {O : D → D → M D}
@[simp ↓] theorem bnd_ok : R.bnd (.ok a h) f = f a h := rfl
@[simp ↓] theorem bnd_no : R.bnd (.no : R α) f = .no := rfl
@[simp ↓] theorem up_ok : R.up (.ok a h) ε k = k a h := rfl
@[simp ↓] theorem up_no : R.up (.no : R α) ε k = .no := rfl
@[simp ↓] theorem seq_nx {k : SC} : R.seq (.ok (.nx ε) h) k = k ε h := rfl
@[simp ↓] theorem seq_rt {k : SC} : R.seq (.ok (.rt d) h) k = .ok (.rt d) h := rfl
@[simp ↓] theorem seq_no {k : SC} : R.seq .no k = .no := rfl
@[simp ↓] theorem calm_okR : calm (.ok a h) = .ok a h := rfl
@[simp ↓] theorem asB_ok {b : Bool} : asB (.ok (.bl b) h) = .ok b h := rfl
@[simp] theorem z_add : bop O .Add (.int i) (.int j) h = .ok (.int (i + j)) h := rfl
@[simp] theorem z_sub : bop O .Sub (.int i) (.int j) h = .ok (.int (i - j)) h := rfl
theorem z_mul (c : i.natAbs < 2 ^ 64 ∨ j.natAbs < 2 ^ 64 ∨ i.natAbs.log2 + j.natAbs.log2 < 1000000) : bop O .Mult (.int i) (.int j) h = .ok (.int (i * j)) h := by
  simp only [bop, intOp, if_pos c]
theorem z_mod (c : j ≠ 0) : bop O .Mod (.int i) (.int j) h = .ok (.int (i.fmod j)) h := by
  simp only [bop, intOp, if_pos c]
theorem z_div (c : j ≠ 0) (c2 : j.natAbs.log2 < 9000) : bop O .FloorDiv (.int i) (.int j) h = .ok (.int (i.fdiv j)) h := by
  simp only [bop, intOp, if_pos (And.intro c c2)]
@[simp] theorem z_lt : cmpD O .Lt (.int i) (.int j) h = .ok (.bl (decide (i < j))) h := rfl
@[simp] theorem z_le : cmpD O .LtE (.int i) (.int j) h = .ok (.bl (decide (i ≤ j))) h := rfl
@[simp] theorem z_gt : cmpD O .Gt (.int i) (.int j) h = .ok (.bl (decide (j < i))) h := rfl
@[simp] theorem z_ge : cmpD O .GtE (.int i) (.int j) h = .ok (.bl (decide (j ≤ i))) h := rfl
@[simp] theorem z_eq : cmpD O .Eq (.int i) (.int j) h = .ok (.bl (decide (i = j))) h := rfl
@[simp] theorem z_ne : cmpD O .NotEq (.int i) (.int j) h = .ok (.bl (!decide (i = j))) h := rfl
theorem z_ixc {n : Nat} {ds : List D} (e : h[n]? = some (.lst ds)) (e2 : atI ds i = some d) : ixD (.cell n) (.int i) h = .ok d h := by
  simp only [ixD, e, e2]
theorem z_ixl {ds : List D} (e2 : atI ds i = some d) : ixD (.lst ds) (.int i) h = .ok d h := by
  simp only [ixD, e2]
theorem z_ixt {ds : List D} (e2 : atI ds i = some d) : ixD (.tup ds) (.int i) h = .ok d h := by
  simp only [ixD, e2]
theorem z_ixs {ns : List Int} {n : Int} (e2 : atI ns i = some n) : ixD (.scr ns) (.int i) h = .ok (.int n) h := by
  simp only [ixD, e2]
variable {x y z : D} {xs : List D}
@[simp] theorem z_t0 : ixD (.tup (x :: xs)) (.int 0) h = .ok x h := z_ixt (by unfold atI ixN; rw [if_pos (by omega), if_pos (by simp only [List.length_cons]; omega)]; rfl)
@[simp] theorem z_t1 : ixD (.tup (x :: y :: xs)) (.int 1) h = .ok y h := z_ixt (by unfold atI ixN; rw [if_pos (by omega), if_pos (by simp only [List.length_cons]; omega)]; rfl)
@[simp] theorem z_l0 : ixD (.lst (x :: xs)) (.int 0) h = .ok x h := z_ixl (by unfold atI ixN; rw [if_pos (by omega), if_pos (by simp only [List.length_cons]; omega)]; rfl)
@[simp] theorem z_l1 : ixD (.lst (x :: y :: xs)) (.int 1) h = .ok y h := z_ixl (by unfold atI ixN; rw [if_pos (by omega), if_pos (by simp only [List.length_cons]; omega)]; rfl)
@[simp] theorem z_l2 : ixD (.lst (x :: y :: z :: xs)) (.int 2) h = .ok z h := z_ixl (by unfold atI ixN; rw [if_pos (by omega), if_pos (by simp only [List.length_cons]; omega)]; rfl)
@[simp] theorem z_int : bInt [.int i] h = .ok (.int i) h := rfl
@[simp] theorem z_abs {U : D → M D} : bAbs U [.int i] h = .ok (.int (if i < 0 then -i else i)) h := rfl
end
/-- one of a spring's three numbers is set -/
theorem z_set {ca cb : EM} {c : EM} {ε : Ev} {h : Store} {d : D} {n m : Nat} {k : Int} {ds : List D} (e1 : c ε h = .ok d h) (e2 : ca ε h = .ok (.cell n) h) (e3 : cb ε h = .ok (.int k) h) (e4 : h[n]? = some (.lst ds)) (e5 : ixN ds.length k = some m) : mSetC ca cb c ε h = .ok (.nx ε) (h.set n (.lst (ds.set m d))) := by
  simp only [mSetC, e1, e2, e3, e4, e5, up_ok]
theorem hset {h : Store} {i : Nat} {a b : Ce} (hh : h[i]? = some a) : (h.set i b)[i]? = some b := by
  rw [List.getElem?_set_self]
  exact (List.getElem?_eq_some_iff.mp hh).1
section
variable {h : Store} {n : Nat} {x y z : D} {xs : List D}
theorem z_c0 (e : h[n]? = some (.lst (x :: xs))) : ixD (.cell n) (.int 0) h = .ok x h := z_ixc e (by unfold atI ixN; rw [if_pos (by omega), if_pos (by simp only [List.length_cons]; omega)]; rfl)
theorem z_c1 (e : h[n]? = some (.lst (x :: y :: xs))) : ixD (.cell n) (.int 1) h = .ok y h := z_ixc e (by unfold atI ixN; rw [if_pos (by omega), if_pos (by simp only [List.length_cons]; omega)]; rfl)
theorem z_c2 (e : h[n]? = some (.lst (x :: y :: z :: xs))) : ixD (.cell n) (.int 2) h = .ok z h := z_ixc e (by unfold atI ixN; rw [if_pos (by omega), if_pos (by simp only [List.length_cons]; omega)]; rfl)
/-- the store of a cell's item, its parts known -/
def setC (x y d : D) (ε : Ev) : Store → R Fw := fun h => match x, y with
  | .cell j, .int k => (match h[j]? with
    | some (.lst ds) => (match ixN ds.length k with
      | some n => .ok (.nx ε) (h.set j (.lst (ds.set n d)))
      | none => .no)
    | _ => .no)
  | _, _ => .no
theorem mSetC_eq {a b c : EM} {ε : Ev} : mSetC a b c ε h = (c ε h).up ε fun d h1 => (a ε h1).up ε fun x h2 => (b ε h2).up ε fun y h3 => setC x y d ε h3 := rfl
theorem z_s0 {d : D} {ε : Ev} (e : h[n]? = some (.lst (x :: xs))) : setC (.cell n) (.int 0) d ε h = .ok (.nx ε) (h.set n (.lst (d :: xs))) := by
  have q : ixN (x :: xs).length 0 = some 0 := by unfold ixN; rw [if_pos (by omega), if_pos (by simp only [List.length_cons]; omega)]; rfl
  simp only [setC, e, q, List.set_cons_zero]
theorem z_s1 {d : D} {ε : Ev} (e : h[n]? = some (.lst (x :: y :: xs))) : setC (.cell n) (.int 1) d ε h = .ok (.nx ε) (h.set n (.lst (x :: d :: xs))) := by
  have q : ixN (x :: y :: xs).length 1 = some 1 := by unfold ixN; rw [if_pos (by omega), if_pos (by simp only [List.length_cons]; omega)]; rfl
  simp only [setC, e, q, List.set_cons_succ, List.set_cons_zero]
theorem z_s2 {d : D} {ε : Ev} (e : h[n]? = some (.lst (x :: y :: z :: xs))) : setC (.cell n) (.int 2) d ε h = .ok (.nx ε) (h.set n (.lst (x :: y :: d :: xs))) := by
  have q : ixN (x :: y :: z :: xs).length 2 = some 2 := by unfold ixN; rw [if_pos (by omega), if_pos (by simp only [List.length_cons]; omega)]; rfl
  simp only [setC, e, q, List.set_cons_succ, List.set_cons_zero]
end
end Z
set_option Elab.async false
set_option linter.all false
set_option maxRecDepth 100000
set_option maxHeartbeats 4000000
namespace Z
open PySem PySem.Spec PyProof.Rows L2 G
variable {K : PySem.W.Frag} {F F' H H' : Hp} {m m' : List Addr}
/-! ### reckoning, statement by statement -/
/-- a run that ends well -/
def Sat {α : Type} (r : R α) (Q : α → Store → Prop) : Prop := match r with
  | .ok a h => Q a h
  | _ => False
/-- .. as a def's body -/
def finD (r : R Fw) : R D := match r with
  | .ok (.nx _) h' => .ok .non h'
  | .ok (.rt d) h' => .ok d h'
  | .ok (.rs c ns ds _) h' => .ex c ns ds h'
  | _ => .no
def finI (c : Str) (r : R Fw) : R (List Str × List D) := match r with
  | .ok (.nx ε) h' => (match ε with
    | .oo c1 ns es :: _ => if c1 = c then .ok (ns, es) h' else .no
    | _ => .no)
  | .ok (.rs c ns ds _) h' => .ex c ns ds h'
  | _ => .no
section
variable {α β : Type} {a : α} {h h1 h2 : Store} {ε ε' : Ev} {Q : α → Store → Prop} {k : SC} {d x y z u : D} {ds es : List D} {c : Str} {ns : List Str}
theorem runF_0 {b : SC} : runF b 0 [] h = finD (b [] h) := rfl
theorem runF_eq {b : SC} {n : Nat} : runF b n ds h = finD (b (ds.map .pu ++ List.replicate (n - ds.length) .un) h) := rfl
theorem runI_eq {b : SC} {n : Nat} : runI c b n ds h = finI c (b (.oo c [] [] :: (ds.map .pu ++ List.replicate (n - 1 - ds.length) .un)) h) := rfl
@[simp ↓] theorem finD_nx : finD (.ok (.nx ε) h) = .ok .non h := rfl
@[simp ↓] theorem finD_rt : finD (.ok (.rt d) h) = .ok d h := rfl
@[simp ↓] theorem finD_rs : finD (.ok (.rs c ns ds ε) h) = .ex c ns ds h := rfl
@[simp ↓] theorem finI_nx {es : List D} {r : Ev} : finI c (.ok (.nx (.oo c ns es :: r)) h) = .ok (ns, es) h := by simp [finI]
@[simp ↓] theorem finI_rs {c' : Str} : finI c (.ok (.rs c' ns ds ε) h) = .ex c' ns ds h := rfl
@[simp ↓] theorem Sat_ok : Sat (.ok a h) Q = Q a h := rfl
@[simp ↓] theorem Sat_no : Sat (.no : R α) Q = False := rfl
@[simp ↓] theorem bnd_ex {f : α → Store → R β} : R.bnd (.ex c ns ds h) f = .ex c ns ds h := rfl
@[simp ↓] theorem up_ex {f : α → Store → R Fw} : R.up (.ex c ns ds h) ε f = .ok (.rs c ns ds ε) h := rfl
@[simp ↓] theorem seq_rs : R.seq (.ok (.rs c ns ds ε) h) k = .ok (.rs c ns ds ε) h := rfl
@[simp ↓] theorem seq_bk : R.seq (.ok (.bk ε) h) k = .ok (.bk ε) h := rfl
@[simp ↓] theorem seq_ct : R.seq (.ok (.ct ε) h) k = .ok (.ct ε) h := rfl
theorem Sat.bnd {r : R α} {f : α → Store → R β} {Q' : β → Store → Prop} (h1 : Sat r Q) (h2 : ∀ a h, Q a h → Sat (f a h) Q') : Sat (R.bnd r f) Q' := by
  cases r with
  | ok a h => exact h2 a h h1
  | ex c ns ds h => exact h1.elim
  | no => exact h1.elim
theorem Sat.mono {r : R α} {Q' : α → Store → Prop} (h1 : Sat r Q) (h2 : ∀ a h, Q a h → Q' a h) : Sat r Q' := by
  cases r with
  | ok a h => exact h2 a h h1
  | ex c ns ds h => exact h1.elim
  | no => exact h1.elim
theorem Sat.ok {r : R α} (s : Sat r Q) : ∃ a h, r = .ok a h ∧ Q a h := by
  cases r with
  | ok a h => exact ⟨a, h, rfl, s⟩
  | ex c ns ds h => exact s.elim
  | no => exact s.elim
theorem Sat.of {r : R α} (e : r = .ok a h) (q : Q a h) : Sat r Q := by rw [e]; exact q
end
def fmD (O : D → M D) (d : D) : M D := fun h1 => match d with
  | .str s => if s.length ≤ 1000000 then .ok (.str s) h1 else .no
  | .int i => if i.natAbs.log2 < 1920 then .ok (.str (toString i)) h1 else .no
  | d => O d h1
/-! what is done with a value that is known -/
def asgTD (o : Option Ev) : M Fw := fun h => match o with
  | some ε' => .ok (.nx ε') h
  | none => .no
def setFD (cl : List Str) (i : Nat) (f : Str) (ε : Ev) (d : D) (o : Option Slt) : M Fw := fun h1 => match o with
  | some (.oo c ns ds) => if ns.length < 100 ∧ c ∈ cl then .ok (.nx (ε.set i (.oo c (putX ns ds f d).1 (putX ns ds f d).2))) h1 else .no
  | _ => .no
def notD (d : D) : M D := fun h1 => match d with
  | .bl b => .ok (.bl (!b)) h1
  | _ => .no
def andD (b : EM) (ε : Ev) (d : D) : M D := fun h1 => match d with
  | .bl true => b ε h1
  | .bl false => .ok (.bl false) h1
  | _ => .no
def orD (b : EM) (ε : Ev) (d : D) : M D := fun h1 => match d with
  | .bl true => .ok (.bl true) h1
  | .bl false => b ε h1
  | _ => .no
def itDD (d : D) : M (List D) := fun h1 => match d with
  | .lst ds => .ok ds h1
  | .tup ds => .ok ds h1
  | .scr ns => .ok (ns.map .int) h1
  | .str s => .ok (s.cps.toList.map fun c => .str ⟨#[c]⟩) h1
  | _ => .no
def itR1D (d : D) : M (List D) := fun h1 => match d with
  | .int n => if -1000000 ≤ n ∧ n ≤ 1000000 then .ok (rngD 0 n) h1 else .no
  | _ => .no
def optR (o : Option D) : M D := fun h1 => match o with
  | some x => .ok x h1
  | none => .no
def attC (cl : List Str) (f : Str) (o : Option Ce) : M D := fun h1 => match o with
  | some (.obj c ns ds) => if c ∈ cl then (match lookD ns ds f with
      | some x => .ok x h1
      | none => .no) else .no
  | _ => .no
def attD (cl : List Str) (f : Str) (g : D → M D) (d : D) : M D := fun h1 => match d with
  | .obj c ns ds => if c ∈ cl then (match lookD ns ds f with
    | some x => .ok x h1
    | none => .no) else g d h1
  | .cell i => attC cl f h1[i]? h1
  | _ => .no
def addLD (x y : D) : M (List D) := fun h2 => match x, y with
  | .lst xs, .lst ys => if xs.length + ys.length ≤ 100000 then .ok (xs ++ ys) h2 else .no
  | _, _ => .no
def methT0 (o : Option (List D → List D → M D)) (d : D) (cs ck : Ev → M (List D)) (ε : Ev) : M D := fun h => match o with
  | some g => mArgs cs ck (fun ds es => g (d :: ds) es) ε h
  | none => .no
def methD (tbl : List (Str × (List D → List D → M D))) (m : Str) (cs ck : Ev → M (List D)) (ε : Ev) (d : D) : M D := fun h1 => match d with
  | .obj c ns fs => if m ∈ ns then .no else methT0 (tbl.lookup c) (.obj c ns fs) cs ck ε h1
  | _ => .no
section
variable {ε ε' : Ev} {h : Store} {cl : List Str} {i : Nat} {f : Str} {d x y : D} {c : Str} {ns : List Str} {ds es : List D} {b : EM} {f1 : D → M D} {n : Int} {s : Str} {is : List Int}
@[simp] theorem asgTD_k : asgTD (some ε) h = .ok (.nx ε) h := rfl
@[simp] theorem setFD_k : setFD cl i f ε d (some (.oo c ns ds)) h = if ns.length < 100 ∧ c ∈ cl then .ok (.nx (ε.set i (.oo c (putX ns ds f d).1 (putX ns ds f d).2))) h else .no := rfl
@[simp] theorem notD_k {b : Bool} : notD (.bl b) h = .ok (.bl (!b)) h := rfl
@[simp] theorem andD_t : andD b ε (.bl true) h = b ε h := rfl
@[simp] theorem andD_f : andD b ε (.bl false) h = .ok (.bl false) h := rfl
@[simp] theorem orD_t : orD b ε (.bl true) h = .ok (.bl true) h := rfl
@[simp] theorem orD_f : orD b ε (.bl false) h = b ε h := rfl
@[simp] theorem itDD_l : itDD (.lst ds) h = .ok ds h := rfl
@[simp] theorem itDD_t : itDD (.tup ds) h = .ok ds h := rfl
@[simp] theorem itDD_r : itDD (.scr is) h = .ok (is.map .int) h := rfl
@[simp] theorem itDD_s : itDD (.str s) h = .ok (s.cps.toList.map fun c => .str ⟨#[c]⟩) h := rfl
@[simp] theorem itR1D_k : itR1D (.int n) h = if -1000000 ≤ n ∧ n ≤ 1000000 then .ok (rngD 0 n) h else .no := rfl
@[simp] theorem optR_k : optR (some d) h = .ok d h := rfl
@[simp] theorem attD_o : attD cl f f1 (.obj c ns ds) h = if c ∈ cl then optR (lookD ns ds f) h else f1 (.obj c ns ds) h := rfl
@[simp] theorem attD_c : attD cl f f1 (.cell i) h = attC cl f h[i]? h := rfl
@[simp] theorem attC_k : attC cl f (some (.obj c ns ds)) h = if c ∈ cl then optR (lookD ns ds f) h else .no := rfl
@[simp] theorem addLD_k : addLD (.lst ds) (.lst es) h = if ds.length + es.length ≤ 100000 then .ok (ds ++ es) h else .no := rfl
end
-- the rows of gq.py
def asgK (i : Nat) (ε : Ev) (r : R (D)) : R Fw := R.up r ε fun x h1 => .ok (.nx (ε.set i (.pu x))) h1
@[simp] theorem asgK_k {i : Nat} {ε : Ev} {x : D} {h1 : Store} : asgK i ε (.ok x h1) = .ok (.nx (ε.set i (.pu x))) h1 := rfl
@[simp] theorem asgK_x {i : Nat} {ε : Ev} {cx : Str} {nx : List Str} {dx : List D} {hx : Store} : asgK i ε (.ex cx nx dx hx) = .ok (.rs cx nx dx ε) hx := rfl
@[simp] theorem q_asg {e : EM} {ε : Ev} {h : Store} {i : Nat} : mAsg i e ε h = asgK i ε (e ε h) := by first | rfl | (show _ = R.bnd _ _; unfold mAsg; congr 1; done) | (unfold mAsg; rfl)
def retK (ε : Ev) (r : R (D)) : R Fw := R.up r ε fun x h1 => .ok (.rt x) h1
@[simp] theorem retK_k {ε : Ev} {x : D} {h1 : Store} : retK ε (.ok x h1) = .ok (.rt x) h1 := rfl
@[simp] theorem retK_x {ε : Ev} {cx : Str} {nx : List Str} {dx : List D} {hx : Store} : retK ε (.ex cx nx dx hx) = .ok (.rs cx nx dx ε) hx := rfl
@[simp] theorem q_ret {e : EM} {ε : Ev} {h : Store}  : mRet e ε h = retK ε (e ε h) := by first | rfl | (show _ = R.bnd _ _; unfold mRet; congr 1; done) | (unfold mRet; rfl)
def expK (ε : Ev) (r : R (D)) : R Fw := R.up r ε fun x h1 => .ok (.nx ε) h1
@[simp] theorem expK_k {ε : Ev} {x : D} {h1 : Store} : expK ε (.ok x h1) = .ok (.nx ε) h1 := rfl
@[simp] theorem expK_x {ε : Ev} {cx : Str} {nx : List Str} {dx : List D} {hx : Store} : expK ε (.ex cx nx dx hx) = .ok (.rs cx nx dx ε) hx := rfl
@[simp] theorem q_exp {e : EM} {ε : Ev} {h : Store}  : mExp e ε h = expK ε (e ε h) := by first | rfl | (show _ = R.bnd _ _; unfold mExp; congr 1; done) | (unfold mExp; rfl)
def ifsK (s t : SC) (ε : Ev) (r : R (Bool)) : R Fw := R.up r ε fun x h1 => if x = true then s ε h1 else t ε h1
@[simp] theorem ifsK_k {s t : SC} {ε : Ev} {x : Bool} {h1 : Store} : ifsK s t ε (.ok x h1) = if x = true then s ε h1 else t ε h1 := rfl
@[simp] theorem ifsK_x {s t : SC} {ε : Ev} {cx : Str} {nx : List Str} {dx : List D} {hx : Store} : ifsK s t ε (.ex cx nx dx hx) = .ok (.rs cx nx dx ε) hx := rfl
@[simp] theorem q_ifs {ta : Ev → M Bool} {ε : Ev} {h : Store} {s t : SC} : mIfS ta s t ε h = ifsK s t ε (ta ε h) := by first | rfl | (show _ = R.bnd _ _; unfold mIfS; congr 1; done) | (unfold mIfS; rfl)
def forK (tg : Tg) (s : SC) (ε : Ev) (r : R (List D)) : R Fw := R.up r ε fun x h1 => loopF tg s x ε h1
@[simp] theorem forK_k {tg : Tg} {s : SC} {ε : Ev} {x : List D} {h1 : Store} : forK tg s ε (.ok x h1) = loopF tg s x ε h1 := rfl
@[simp] theorem forK_x {tg : Tg} {s : SC} {ε : Ev} {cx : Str} {nx : List Str} {dx : List D} {hx : Store} : forK tg s ε (.ex cx nx dx hx) = .ok (.rs cx nx dx ε) hx := rfl
@[simp] theorem q_for {ct : Ev → M (List D)} {ε : Ev} {h : Store} {tg : Tg} {s : SC} : mFor tg ct s ε h = forK tg s ε (ct ε h) := by first | rfl | (show _ = R.bnd _ _; unfold mFor; congr 1; done) | (unfold mFor; rfl)
def setLK (i : Nat) (ε : Ev) (r : R (List D)) : R Fw := R.up r ε fun x h1 => .ok (.nx (ε.set i (.pu (.lst x)))) h1
@[simp] theorem setLK_k {i : Nat} {ε : Ev} {x : List D} {h1 : Store} : setLK i ε (.ok x h1) = .ok (.nx (ε.set i (.pu (.lst x)))) h1 := rfl
@[simp] theorem setLK_x {i : Nat} {ε : Ev} {cx : Str} {nx : List Str} {dx : List D} {hx : Store} : setLK i ε (.ex cx nx dx hx) = .ok (.rs cx nx dx ε) hx := rfl
@[simp] theorem q_setL {ct : Ev → M (List D)} {ε : Ev} {h : Store} {i : Nat} : mSetL i ct ε h = setLK i ε (ct ε h) := by first | rfl | (show _ = R.bnd _ _; unfold mSetL; congr 1; done) | (unfold mSetL; rfl)
def asgLK (i : Nat) (ε : Ev) (r : R (List D)) : R Fw := R.up r ε fun x h1 => .ok (.nx (ε.set i (.ol x))) h1
@[simp] theorem asgLK_k {i : Nat} {ε : Ev} {x : List D} {h1 : Store} : asgLK i ε (.ok x h1) = .ok (.nx (ε.set i (.ol x))) h1 := rfl
@[simp] theorem asgLK_x {i : Nat} {ε : Ev} {cx : Str} {nx : List Str} {dx : List D} {hx : Store} : asgLK i ε (.ex cx nx dx hx) = .ok (.rs cx nx dx ε) hx := rfl
@[simp] theorem q_asgL {ct : Ev → M (List D)} {ε : Ev} {h : Store} {i : Nat} : mAsgL i ct ε h = asgLK i ε (ct ε h) := by first | rfl | (show _ = R.bnd _ _; unfold mAsgL; congr 1; done) | (unfold mAsgL; rfl)
def asgTK (tg : Tg) (ε : Ev) (r : R (D)) : R Fw := R.up r ε fun x h1 => asgTD (asT tg x ε) h1
@[simp] theorem asgTK_k {tg : Tg} {ε : Ev} {x : D} {h1 : Store} : asgTK tg ε (.ok x h1) = asgTD (asT tg x ε) h1 := rfl
@[simp] theorem asgTK_x {tg : Tg} {ε : Ev} {cx : Str} {nx : List Str} {dx : List D} {hx : Store} : asgTK tg ε (.ex cx nx dx hx) = .ok (.rs cx nx dx ε) hx := rfl
@[simp] theorem q_asgT {e : EM} {ε : Ev} {h : Store} {tg : Tg} : mAsgT tg e ε h = asgTK tg ε (e ε h) := by first | rfl | (show _ = R.bnd _ _; unfold mAsgT; congr 1; done) | (unfold mAsgT; rfl)
def parSK (is : List Nat) (ε : Ev) (r : R (List Slt)) : R Fw := R.up r ε fun x h1 => if x.length = is.length then .ok (.nx (puts ε is x)) h1 else .no
@[simp] theorem parSK_k {is : List Nat} {ε : Ev} {x : List Slt} {h1 : Store} : parSK is ε (.ok x h1) = if x.length = is.length then .ok (.nx (puts ε is x)) h1 else .no := rfl
@[simp] theorem parSK_x {is : List Nat} {ε : Ev} {cx : Str} {nx : List Str} {dx : List D} {hx : Store} : parSK is ε (.ex cx nx dx hx) = .ok (.rs cx nx dx ε) hx := rfl
@[simp] theorem q_parS {cp : Ev → M (List Slt)} {ε : Ev} {h : Store} {is : List Nat} : mParS is cp ε h = parSK is ε (cp ε h) := by first | rfl | (show _ = R.bnd _ _; unfold mParS; congr 1; done) | (unfold mParS; rfl)
def setFK (cl : List Str) (i : Nat) (f : Str) (ε : Ev) (r : R (D)) : R Fw := R.up r ε fun x h1 => setFD cl i f ε x ε[i]? h1
@[simp] theorem setFK_k {cl : List Str} {i : Nat} {f : Str} {ε : Ev} {x : D} {h1 : Store} : setFK cl i f ε (.ok x h1) = setFD cl i f ε x ε[i]? h1 := rfl
@[simp] theorem setFK_x {cl : List Str} {i : Nat} {f : Str} {ε : Ev} {cx : Str} {nx : List Str} {dx : List D} {hx : Store} : setFK cl i f ε (.ex cx nx dx hx) = .ok (.rs cx nx dx ε) hx := rfl
@[simp] theorem q_setF {e : EM} {ε : Ev} {h : Store} {cl : List Str} {i : Nat} {f : Str} : mSetF cl i f e ε h = setFK cl i f ε (e ε h) := by first | rfl | (show _ = R.bnd _ _; unfold mSetF; congr 1; done) | (unfold mSetF; rfl)
def ifK (a b : EM) (ε : Ev) (r : R (Bool)) : R (D) := R.bnd r fun x h1 => if x = true then a ε h1 else b ε h1
@[simp] theorem ifK_k {a b : EM} {ε : Ev} {x : Bool} {h1 : Store} : ifK a b ε (.ok x h1) = if x = true then a ε h1 else b ε h1 := rfl
@[simp] theorem ifK_x {a b : EM} {ε : Ev} {cx : Str} {nx : List Str} {dx : List D} {hx : Store} : ifK a b ε (.ex cx nx dx hx) = .ex cx nx dx hx := rfl
@[simp] theorem q_if {a : EM} {b : EM} {ta : Ev → M Bool} {ε : Ev} {h : Store}  : mIf ta a b ε h = ifK a b ε (ta ε h) := by first | rfl | (show _ = R.bnd _ _; unfold mIf; congr 1; done) | (unfold mIf; rfl)
def consA2 (y : D) (r : R (List D)) : R (List D) := R.bnd r fun x h1 => .ok (y :: x) h1
@[simp] theorem consA2_k {y : D} {x : List D} {h1 : Store} : consA2 y (.ok x h1) = .ok (y :: x) h1 := rfl
@[simp] theorem consA2_x {y : D} {cx : Str} {nx : List Str} {dx : List D} {hx : Store} : consA2 y (.ex cx nx dx hx) = .ex cx nx dx hx := rfl
def tupK  (r : R (List D)) : R (D) := R.bnd r fun x h1 => if x.length ≤ 1000 then .ok (.tup x) h1 else .no
@[simp] theorem tupK_k  {x : List D} {h1 : Store} : tupK  (.ok x h1) = if x.length ≤ 1000 then .ok (.tup x) h1 else .no := rfl
@[simp] theorem tupK_x  {cx : Str} {nx : List Str} {dx : List D} {hx : Store} : tupK  (.ex cx nx dx hx) = .ex cx nx dx hx := rfl
@[simp] theorem q_tup {cs : Ev → M (List D)} {ε : Ev} {h : Store}  : mTup cs ε h = tupK  (cs ε h) := by first | rfl | (show _ = R.bnd _ _; unfold mTup; congr 1; done) | (unfold mTup; rfl)
def lstK  (r : R (List D)) : R (List D) := R.bnd r fun x h1 => if x.length ≤ 1000 then .ok x h1 else .no
@[simp] theorem lstK_k  {x : List D} {h1 : Store} : lstK  (.ok x h1) = if x.length ≤ 1000 then .ok x h1 else .no := rfl
@[simp] theorem lstK_x  {cx : Str} {nx : List Str} {dx : List D} {hx : Store} : lstK  (.ex cx nx dx hx) = .ex cx nx dx hx := rfl
@[simp] theorem q_lst {cs : Ev → M (List D)} {ε : Ev} {h : Store}  : mLst cs ε h = lstK  (cs ε h) := by first | rfl | (show _ = R.bnd _ _; unfold mLst; congr 1; done) | (unfold mLst; rfl)
def fzK  (r : R (List D)) : R (D) := R.bnd r fun x h1 => .ok (.lst x) h1
@[simp] theorem fzK_k  {x : List D} {h1 : Store} : fzK  (.ok x h1) = .ok (.lst x) h1 := rfl
@[simp] theorem fzK_x  {cx : Str} {nx : List Str} {dx : List D} {hx : Store} : fzK  (.ex cx nx dx hx) = .ex cx nx dx hx := rfl
@[simp] theorem q_fz {cs : Ev → M (List D)} {ε : Ev} {h : Store}  : mFz cs ε h = fzK  (cs ε h) := by first | rfl | (show _ = R.bnd _ _; unfold mFz; congr 1; done) | (unfold mFz; rfl)
def bin2 (f : D → D → M D) (y : D) (r : R (D)) : R (D) := R.bnd r fun x h1 => f y x h1
@[simp] theorem bin2_k {f : D → D → M D} {y : D} {x : D} {h1 : Store} : bin2 f y (.ok x h1) = f y x h1 := rfl
@[simp] theorem bin2_x {f : D → D → M D} {y : D} {cx : Str} {nx : List Str} {dx : List D} {hx : Store} : bin2 f y (.ex cx nx dx hx) = .ex cx nx dx hx := rfl
def unK (f1 : D → M D) (r : R (D)) : R (D) := R.bnd r fun x h1 => f1 x h1
@[simp] theorem unK_k {f1 : D → M D} {x : D} {h1 : Store} : unK f1 (.ok x h1) = f1 x h1 := rfl
@[simp] theorem unK_x {f1 : D → M D} {cx : Str} {nx : List Str} {dx : List D} {hx : Store} : unK f1 (.ex cx nx dx hx) = .ex cx nx dx hx := rfl
@[simp] theorem q_un {a : EM} {ε : Ev} {h : Store} {f1 : D → M D} : mUn f1 a ε h = unK f1 (a ε h) := by first | rfl | (show _ = R.bnd _ _; unfold mUn; congr 1; done) | (unfold mUn; rfl)
def callK (fl : List D → M D) (r : R (List D)) : R (D) := R.bnd r fun x h1 => fl x h1
@[simp] theorem callK_k {fl : List D → M D} {x : List D} {h1 : Store} : callK fl (.ok x h1) = fl x h1 := rfl
@[simp] theorem callK_x {fl : List D → M D} {cx : Str} {nx : List Str} {dx : List D} {hx : Store} : callK fl (.ex cx nx dx hx) = .ex cx nx dx hx := rfl
@[simp] theorem q_call {cs : Ev → M (List D)} {ε : Ev} {h : Store} {fl : List D → M D} : mCall fl cs ε h = callK fl (cs ε h) := by first | rfl | (show _ = R.bnd _ _; unfold mCall; congr 1; done) | (unfold mCall; rfl)
def args2 (fk : List D → List D → M D) (ds : List D) (r : R (List D)) : R (D) := R.bnd r fun x h1 => fk ds x h1
@[simp] theorem args2_k {fk : List D → List D → M D} {ds : List D} {x : List D} {h1 : Store} : args2 fk ds (.ok x h1) = fk ds x h1 := rfl
@[simp] theorem args2_x {fk : List D → List D → M D} {ds : List D} {cx : Str} {nx : List Str} {dx : List D} {hx : Store} : args2 fk ds (.ex cx nx dx hx) = .ex cx nx dx hx := rfl
def notK  (r : R (D)) : R (D) := R.bnd r fun x h1 => notD x h1
@[simp] theorem notK_k  {x : D} {h1 : Store} : notK  (.ok x h1) = notD x h1 := rfl
@[simp] theorem notK_x  {cx : Str} {nx : List Str} {dx : List D} {hx : Store} : notK  (.ex cx nx dx hx) = .ex cx nx dx hx := rfl
@[simp] theorem q_not {a : EM} {ε : Ev} {h : Store}  : mNot a ε h = notK  (a ε h) := by first | rfl | (show _ = R.bnd _ _; unfold mNot; congr 1; done) | (unfold mNot; rfl)
def andK (b : EM) (ε : Ev) (r : R (D)) : R (D) := R.bnd r fun x h1 => andD b ε x h1
@[simp] theorem andK_k {b : EM} {ε : Ev} {x : D} {h1 : Store} : andK b ε (.ok x h1) = andD b ε x h1 := rfl
@[simp] theorem andK_x {b : EM} {ε : Ev} {cx : Str} {nx : List Str} {dx : List D} {hx : Store} : andK b ε (.ex cx nx dx hx) = .ex cx nx dx hx := rfl
@[simp] theorem q_and {a : EM} {b : EM} {ε : Ev} {h : Store}  : mAnd a b ε h = andK b ε (a ε h) := by first | rfl | (show _ = R.bnd _ _; unfold mAnd; congr 1; done) | (unfold mAnd; rfl)
def orK (b : EM) (ε : Ev) (r : R (D)) : R (D) := R.bnd r fun x h1 => orD b ε x h1
@[simp] theorem orK_k {b : EM} {ε : Ev} {x : D} {h1 : Store} : orK b ε (.ok x h1) = orD b ε x h1 := rfl
@[simp] theorem orK_x {b : EM} {ε : Ev} {cx : Str} {nx : List Str} {dx : List D} {hx : Store} : orK b ε (.ex cx nx dx hx) = .ex cx nx dx hx := rfl
@[simp] theorem q_or {a : EM} {b : EM} {ε : Ev} {h : Store}  : mOr a b ε h = orK b ε (a ε h) := by first | rfl | (show _ = R.bnd _ _; unfold mOr; congr 1; done) | (unfold mOr; rfl)
def notBK  (r : R (Bool)) : R (Bool) := R.bnd r fun x h1 => .ok (!x) h1
@[simp] theorem notBK_k  {x : Bool} {h1 : Store} : notBK  (.ok x h1) = .ok (!x) h1 := rfl
@[simp] theorem notBK_x  {cx : Str} {nx : List Str} {dx : List D} {hx : Store} : notBK  (.ex cx nx dx hx) = .ex cx nx dx hx := rfl
@[simp] theorem q_notB {ta : Ev → M Bool} {ε : Ev} {h : Store}  : notB ta ε h = notBK  (ta ε h) := by first | rfl | (show _ = R.bnd _ _; unfold notB; congr 1; done) | (unfold notB; rfl)
def andBK (tb : Ev → M Bool) (ε : Ev) (r : R (Bool)) : R (Bool) := R.bnd r fun x h1 => if x = true then tb ε h1 else .ok false h1
@[simp] theorem andBK_k {tb : Ev → M Bool} {ε : Ev} {x : Bool} {h1 : Store} : andBK tb ε (.ok x h1) = if x = true then tb ε h1 else .ok false h1 := rfl
@[simp] theorem andBK_x {tb : Ev → M Bool} {ε : Ev} {cx : Str} {nx : List Str} {dx : List D} {hx : Store} : andBK tb ε (.ex cx nx dx hx) = .ex cx nx dx hx := rfl
@[simp] theorem q_andB {ta : Ev → M Bool} {tb : Ev → M Bool} {ε : Ev} {h : Store}  : andB ta tb ε h = andBK tb ε (ta ε h) := by first | rfl | (show _ = R.bnd _ _; unfold andB; congr 1; done) | (unfold andB; rfl)
def orBK (tb : Ev → M Bool) (ε : Ev) (r : R (Bool)) : R (Bool) := R.bnd r fun x h1 => if x = true then .ok true h1 else tb ε h1
@[simp] theorem orBK_k {tb : Ev → M Bool} {ε : Ev} {x : Bool} {h1 : Store} : orBK tb ε (.ok x h1) = if x = true then .ok true h1 else tb ε h1 := rfl
@[simp] theorem orBK_x {tb : Ev → M Bool} {ε : Ev} {cx : Str} {nx : List Str} {dx : List D} {hx : Store} : orBK tb ε (.ex cx nx dx hx) = .ex cx nx dx hx := rfl
@[simp] theorem q_orB {ta : Ev → M Bool} {tb : Ev → M Bool} {ε : Ev} {h : Store}  : orB ta tb ε h = orBK tb ε (ta ε h) := by first | rfl | (show _ = R.bnd _ _; unfold orB; congr 1; done) | (unfold orB; rfl)
def chn4 (g : D → D → M D) (y : D) (r : R (D)) : R (Bool) := R.bnd r fun x h1 => asB (g y x h1)
@[simp] theorem chn4_k {g : D → D → M D} {y : D} {x : D} {h1 : Store} : chn4 g y (.ok x h1) = asB (g y x h1) := rfl
@[simp] theorem chn4_x {g : D → D → M D} {y : D} {cx : Str} {nx : List Str} {dx : List D} {hx : Store} : chn4 g y (.ex cx nx dx hx) = .ex cx nx dx hx := rfl
def itDK  (r : R (D)) : R (List D) := R.bnd r fun x h1 => itDD x h1
@[simp] theorem itDK_k  {x : D} {h1 : Store} : itDK  (.ok x h1) = itDD x h1 := rfl
@[simp] theorem itDK_x  {cx : Str} {nx : List Str} {dx : List D} {hx : Store} : itDK  (.ex cx nx dx hx) = .ex cx nx dx hx := rfl
@[simp] theorem q_itD {a : EM} {ε : Ev} {h : Store}  : itD a ε h = itDK  (a ε h) := by first | rfl | (show _ = R.bnd _ _; unfold itD; congr 1; done) | (unfold itD; rfl)
def itR1K  (r : R (D)) : R (List D) := R.bnd r fun x h1 => itR1D x h1
@[simp] theorem itR1K_k  {x : D} {h1 : Store} : itR1K  (.ok x h1) = itR1D x h1 := rfl
@[simp] theorem itR1K_x  {cx : Str} {nx : List Str} {dx : List D} {hx : Store} : itR1K  (.ex cx nx dx hx) = .ex cx nx dx hx := rfl
@[simp] theorem q_itR1 {a : EM} {ε : Ev} {h : Store}  : itR1 a ε h = itR1K  (a ε h) := by first | rfl | (show _ = R.bnd _ _; unfold itR1; congr 1; done) | (unfold itR1; rfl)
def attK (cl : List Str) (nm : Str) (f1 : D → M D) (r : R (D)) : R (D) := R.bnd r fun x h1 => attD cl nm f1 x h1
@[simp] theorem attK_k {cl : List Str} {nm : Str} {f1 : D → M D} {x : D} {h1 : Store} : attK cl nm f1 (.ok x h1) = attD cl nm f1 x h1 := rfl
@[simp] theorem attK_x {cl : List Str} {nm : Str} {f1 : D → M D} {cx : Str} {nx : List Str} {dx : List D} {hx : Store} : attK cl nm f1 (.ex cx nx dx hx) = .ex cx nx dx hx := rfl
@[simp] theorem q_att {a : EM} {ε : Ev} {h : Store} {cl : List Str} {nm : Str} {f1 : D → M D} : mAtt cl nm f1 a ε h = attK cl nm f1 (a ε h) := by first | rfl | (show _ = R.bnd _ _; unfold mAtt; congr 1; done) | (unfold mAtt; rfl)
def pv2 (y : D) (r : R (List Slt)) : R (List Slt) := R.bnd r fun x h1 => .ok (.pu y :: x) h1
@[simp] theorem pv2_k {y : D} {x : List Slt} {h1 : Store} : pv2 y (.ok x h1) = .ok (.pu y :: x) h1 := rfl
@[simp] theorem pv2_x {y : D} {cx : Str} {nx : List Str} {dx : List D} {hx : Store} : pv2 y (.ex cx nx dx hx) = .ex cx nx dx hx := rfl
def pl2 (y : List D) (r : R (List Slt)) : R (List Slt) := R.bnd r fun x h1 => .ok (.ol y :: x) h1
@[simp] theorem pl2_k {y : List D} {x : List Slt} {h1 : Store} : pl2 y (.ok x h1) = .ok (.ol y :: x) h1 := rfl
@[simp] theorem pl2_x {y : List D} {cx : Str} {nx : List Str} {dx : List D} {hx : Store} : pl2 y (.ex cx nx dx hx) = .ex cx nx dx hx := rfl
def addL2 (y : D) (r : R (D)) : R (List D) := R.bnd r fun x h1 => addLD y x h1
@[simp] theorem addL2_k {y : D} {x : D} {h1 : Store} : addL2 y (.ok x h1) = addLD y x h1 := rfl
@[simp] theorem addL2_x {y : D} {cx : Str} {nx : List Str} {dx : List D} {hx : Store} : addL2 y (.ex cx nx dx hx) = .ex cx nx dx hx := rfl
def celK  (r : R (List D)) : R (D) := R.bnd r fun x h1 => .ok (.cell h1.length) (h1 ++ [.lst x])
@[simp] theorem celK_k  {x : List D} {h1 : Store} : celK  (.ok x h1) = .ok (.cell h1.length) (h1 ++ [.lst x]) := rfl
@[simp] theorem celK_x  {cx : Str} {nx : List Str} {dx : List D} {hx : Store} : celK  (.ex cx nx dx hx) = .ex cx nx dx hx := rfl
@[simp] theorem q_cel {cs : Ev → M (List D)} {ε : Ev} {h : Store}  : mCel cs ε h = celK  (cs ε h) := by first | rfl | (show _ = R.bnd _ _; unfold mCel; congr 1; done) | (unfold mCel; rfl)
def lcK (vs : List Nat) (tg : Tg) (tst : Ev → M Bool) (e : EM) (ε : Ev) (r : R (List D)) : R (List D) := R.bnd r fun x h1 => if x.length ≤ 100000 then mapE tg tst e (wipeE ε vs) x h1 else .no
@[simp] theorem lcK_k {vs : List Nat} {tg : Tg} {tst : Ev → M Bool} {e : EM} {ε : Ev} {x : List D} {h1 : Store} : lcK vs tg tst e ε (.ok x h1) = if x.length ≤ 100000 then mapE tg tst e (wipeE ε vs) x h1 else .no := rfl
@[simp] theorem lcK_x {vs : List Nat} {tg : Tg} {tst : Ev → M Bool} {e : EM} {ε : Ev} {cx : Str} {nx : List Str} {dx : List D} {hx : Store} : lcK vs tg tst e ε (.ex cx nx dx hx) = .ex cx nx dx hx := rfl
@[simp] theorem q_lc {e : EM} {ct : Ev → M (List D)} {ε : Ev} {h : Store} {vs : List Nat} {tg : Tg} {tst : Ev → M Bool} : mLc vs ct tg tst e ε h = lcK vs tg tst e ε (ct ε h) := by first | rfl | (show _ = R.bnd _ _; unfold mLc; congr 1; done) | (unfold mLc; rfl)
def fmtK (f1 : D → M D) (r : R (D)) : R (D) := R.bnd r fun x h1 => fmD f1 x h1
@[simp] theorem fmtK_k {f1 : D → M D} {x : D} {h1 : Store} : fmtK f1 (.ok x h1) = fmD f1 x h1 := rfl
@[simp] theorem fmtK_x {f1 : D → M D} {cx : Str} {nx : List Str} {dx : List D} {hx : Store} : fmtK f1 (.ex cx nx dx hx) = .ex cx nx dx hx := rfl
@[simp] theorem q_fmt {a : EM} {ε : Ev} {h : Store} {f1 : D → M D} : mFmt f1 a ε h = fmtK f1 (a ε h) := by first | rfl | (show _ = R.bnd _ _; unfold mFmt; congr 1; done) | (unfold mFmt; rfl)
def methK (tbl : List (Str × (List D → List D → M D))) (nm : Str) (cs ck : Ev → M (List D)) (ε : Ev) (r : R (D)) : R (D) := R.bnd r fun x h1 => methD tbl nm cs ck ε x h1
@[simp] theorem methK_k {tbl : List (Str × (List D → List D → M D))} {nm : Str} {cs ck : Ev → M (List D)} {ε : Ev} {x : D} {h1 : Store} : methK tbl nm cs ck ε (.ok x h1) = methD tbl nm cs ck ε x h1 := rfl
@[simp] theorem methK_x {tbl : List (Str × (List D → List D → M D))} {nm : Str} {cs ck : Ev → M (List D)} {ε : Ev} {cx : Str} {nx : List Str} {dx : List D} {hx : Store} : methK tbl nm cs ck ε (.ex cx nx dx hx) = .ex cx nx dx hx := rfl
@[simp] theorem q_meth {a : EM} {cs : Ev → M (List D)} {ck : Ev → M (List D)} {ε : Ev} {h : Store} {tbl : List (Str × (List D → List D → M D))} {nm : Str} : mMeth tbl nm a cs ck ε h = methK tbl nm cs ck ε (a ε h) := by first | rfl | (show _ = R.bnd _ _; unfold mMeth; congr 1; done) | (unfold mMeth; rfl)
def meth3 (fk : List D → List D → M D) (y : D) (ds : List D) (r : R (List D)) : R (D) := R.bnd r fun x h1 => fk (y :: ds) x h1
@[simp] theorem meth3_k {fk : List D → List D → M D} {y : D} {ds : List D} {x : List D} {h1 : Store} : meth3 fk y ds (.ok x h1) = fk (y :: ds) x h1 := rfl
@[simp] theorem meth3_x {fk : List D → List D → M D} {y : D} {ds : List D} {cx : Str} {nx : List Str} {dx : List D} {hx : Store} : meth3 fk y ds (.ex cx nx dx hx) = .ex cx nx dx hx := rfl
def mkK (c : Str) (r : R (List Str × List D)) : R (D) := R.bnd r fun x h1 => .ok (.obj c x.1 x.2) h1
@[simp] theorem mkK_k {c : Str} {x : List Str × List D} {h1 : Store} : mkK c (.ok x h1) = .ok (.obj c x.1 x.2) h1 := rfl
@[simp] theorem mkK_x {c : Str} {cx : Str} {nx : List Str} {dx : List D} {hx : Store} : mkK c (.ex cx nx dx hx) = .ex cx nx dx hx := rfl
@[simp] theorem q_mk {c : Str} {fi : List D → M (List Str × List D)} {ds : List D} {h : Store} : mkM c fi ds h = mkK c (fi ds h) := rfl
def app2 (i : Nat) (ds : List D) (ε : Ev) (r : R (D)) : R Fw := R.up r ε fun x h1 => if ds.length < 100000 then .ok (.nx (ε.set i (.ol (ds ++ [x])))) h1 else .no
@[simp] theorem app2_k {i : Nat} {ds : List D} {ε : Ev} {x : D} {h1 : Store} : app2 i ds ε (.ok x h1) = if ds.length < 100000 then .ok (.nx (ε.set i (.ol (ds ++ [x])))) h1 else .no := rfl
@[simp] theorem app2_x {i : Nat} {ds : List D} {ε : Ev} {cx : Str} {nx : List Str} {dx : List D} {hx : Store} : app2 i ds ε (.ex cx nx dx hx) = .ok (.rs cx nx dx ε) hx := rfl
def aug3 (i : Nat) (ε : Ev) (r : R (D)) : R Fw := R.up r ε fun x h1 => .ok (.nx (ε.set i (.pu x))) h1
@[simp] theorem aug3_k {i : Nat} {ε : Ev} {x : D} {h1 : Store} : aug3 i ε (.ok x h1) = .ok (.nx (ε.set i (.pu x))) h1 := rfl
@[simp] theorem aug3_x {i : Nat} {ε : Ev} {cx : Str} {nx : List Str} {dx : List D} {hx : Store} : aug3 i ε (.ex cx nx dx hx) = .ok (.rs cx nx dx ε) hx := rfl
def aug2 (f : D → D → M D) (y : D) (r : R (D)) : R (D) := R.bnd r fun x h1 => f y x h1
@[simp] theorem aug2_k {f : D → D → M D} {y : D} {x : D} {h1 : Store} : aug2 f y (.ok x h1) = f y x h1 := rfl
@[simp] theorem aug2_x {f : D → D → M D} {y : D} {cx : Str} {nx : List Str} {dx : List D} {hx : Store} : aug2 f y (.ex cx nx dx hx) = .ex cx nx dx hx := rfl
def setC3 (y z : D) (ε : Ev) (r : R (D)) : R Fw := R.up r ε fun x h1 => setC z x y ε h1
@[simp] theorem setC3_k {y z : D} {ε : Ev} {x : D} {h1 : Store} : setC3 y z ε (.ok x h1) = setC z x y ε h1 := rfl
@[simp] theorem setC3_x {y z : D} {ε : Ev} {cx : Str} {nx : List Str} {dx : List D} {hx : Store} : setC3 y z ε (.ex cx nx dx hx) = .ok (.rs cx nx dx ε) hx := rfl
def map4 (y : D) (r : R (List D)) : R (List D) := R.bnd r fun x h1 => .ok (y :: x) h1
@[simp] theorem map4_k {y : D} {x : List D} {h1 : Store} : map4 y (.ok x h1) = .ok (y :: x) h1 := rfl
@[simp] theorem map4_x {y : D} {cx : Str} {nx : List Str} {dx : List D} {hx : Store} : map4 y (.ex cx nx dx hx) = .ex cx nx dx hx := rfl
def consAK (cs : Ev → M (List D)) (ε : Ev) (r : R (D)) : R (List D) := R.bnd r fun x h1 => consA2 x (cs ε h1)
@[simp] theorem consAK_k {cs : Ev → M (List D)} {ε : Ev} {x : D} {h1 : Store} : consAK cs ε (.ok x h1) = consA2 x (cs ε h1) := rfl
@[simp] theorem consAK_x {cs : Ev → M (List D)} {ε : Ev} {cx : Str} {nx : List Str} {dx : List D} {hx : Store} : consAK cs ε (.ex cx nx dx hx) = .ex cx nx dx hx := rfl
@[simp] theorem q_consA {a : EM} {cs : Ev → M (List D)} {ε : Ev} {h : Store}  : mConsA a cs ε h = consAK cs ε (a ε h) := by first | rfl | (show _ = R.bnd _ _; unfold mConsA; congr 1; done) | (unfold mConsA; rfl)
def binK (f : D → D → M D) (b : EM) (ε : Ev) (r : R (D)) : R (D) := R.bnd r fun x h1 => bin2 f x (b ε h1)
@[simp] theorem binK_k {f : D → D → M D} {b : EM} {ε : Ev} {x : D} {h1 : Store} : binK f b ε (.ok x h1) = bin2 f x (b ε h1) := rfl
@[simp] theorem binK_x {f : D → D → M D} {b : EM} {ε : Ev} {cx : Str} {nx : List Str} {dx : List D} {hx : Store} : binK f b ε (.ex cx nx dx hx) = .ex cx nx dx hx := rfl
@[simp] theorem q_bin {a : EM} {b : EM} {ε : Ev} {h : Store} {f : D → D → M D} : mBin f a b ε h = binK f b ε (a ε h) := by first | rfl | (show _ = R.bnd _ _; unfold mBin; congr 1; done) | (unfold mBin; rfl)
def argsK (fk : List D → List D → M D) (ck : Ev → M (List D)) (ε : Ev) (r : R (List D)) : R (D) := R.bnd r fun x h1 => args2 fk x (ck ε h1)
@[simp] theorem argsK_k {fk : List D → List D → M D} {ck : Ev → M (List D)} {ε : Ev} {x : List D} {h1 : Store} : argsK fk ck ε (.ok x h1) = args2 fk x (ck ε h1) := rfl
@[simp] theorem argsK_x {fk : List D → List D → M D} {ck : Ev → M (List D)} {ε : Ev} {cx : Str} {nx : List Str} {dx : List D} {hx : Store} : argsK fk ck ε (.ex cx nx dx hx) = .ex cx nx dx hx := rfl
@[simp] theorem q_args {cs : Ev → M (List D)} {ck : Ev → M (List D)} {ε : Ev} {h : Store} {fk : List D → List D → M D} : mArgs cs ck fk ε h = argsK fk ck ε (cs ε h) := by first | rfl | (show _ = R.bnd _ _; unfold mArgs; congr 1; done) | (unfold mArgs; rfl)
def chn3 (g : D → D → M D) (y : D) (e : EM) (ε : Ev) (r : R (Bool)) : R (Bool) := R.bnd r fun x h1 => if x = true then chn4 g y (e ε h1) else .ok false h1
@[simp] theorem chn3_k {g : D → D → M D} {y : D} {e : EM} {ε : Ev} {x : Bool} {h1 : Store} : chn3 g y e ε (.ok x h1) = if x = true then chn4 g y (e ε h1) else .ok false h1 := rfl
@[simp] theorem chn3_x {g : D → D → M D} {y : D} {e : EM} {ε : Ev} {cx : Str} {nx : List Str} {dx : List D} {hx : Store} : chn3 g y e ε (.ex cx nx dx hx) = .ex cx nx dx hx := rfl
def pvK (cr : Ev → M (List Slt)) (ε : Ev) (r : R (D)) : R (List Slt) := R.bnd r fun x h1 => pv2 x (cr ε h1)
@[simp] theorem pvK_k {cr : Ev → M (List Slt)} {ε : Ev} {x : D} {h1 : Store} : pvK cr ε (.ok x h1) = pv2 x (cr ε h1) := rfl
@[simp] theorem pvK_x {cr : Ev → M (List Slt)} {ε : Ev} {cx : Str} {nx : List Str} {dx : List D} {hx : Store} : pvK cr ε (.ex cx nx dx hx) = .ex cx nx dx hx := rfl
@[simp] theorem q_pv {a : EM} {ε : Ev} {h : Store} {cr : Ev → M (List Slt)} : mPv a cr ε h = pvK cr ε (a ε h) := by first | rfl | (show _ = R.bnd _ _; unfold mPv; congr 1; done) | (unfold mPv; rfl)
def plK (cr : Ev → M (List Slt)) (ε : Ev) (r : R (List D)) : R (List Slt) := R.bnd r fun x h1 => pl2 x (cr ε h1)
@[simp] theorem plK_k {cr : Ev → M (List Slt)} {ε : Ev} {x : List D} {h1 : Store} : plK cr ε (.ok x h1) = pl2 x (cr ε h1) := rfl
@[simp] theorem plK_x {cr : Ev → M (List Slt)} {ε : Ev} {cx : Str} {nx : List Str} {dx : List D} {hx : Store} : plK cr ε (.ex cx nx dx hx) = .ex cx nx dx hx := rfl
@[simp] theorem q_pl {ct : Ev → M (List D)} {ε : Ev} {h : Store} {cr : Ev → M (List Slt)} : mPl ct cr ε h = plK cr ε (ct ε h) := by first | rfl | (show _ = R.bnd _ _; unfold mPl; congr 1; done) | (unfold mPl; rfl)
def addLK (b : EM) (ε : Ev) (r : R (D)) : R (List D) := R.bnd r fun x h1 => addL2 x (b ε h1)
@[simp] theorem addLK_k {b : EM} {ε : Ev} {x : D} {h1 : Store} : addLK b ε (.ok x h1) = addL2 x (b ε h1) := rfl
@[simp] theorem addLK_x {b : EM} {ε : Ev} {cx : Str} {nx : List Str} {dx : List D} {hx : Store} : addLK b ε (.ex cx nx dx hx) = .ex cx nx dx hx := rfl
@[simp] theorem q_addL {a : EM} {b : EM} {ε : Ev} {h : Store}  : mAddL a b ε h = addLK b ε (a ε h) := by first | rfl | (show _ = R.bnd _ _; unfold mAddL; congr 1; done) | (unfold mAddL; rfl)
def meth2 (fk : List D → List D → M D) (y : D) (ck : Ev → M (List D)) (ε : Ev) (r : R (List D)) : R (D) := R.bnd r fun x h1 => meth3 fk y x (ck ε h1)
@[simp] theorem meth2_k {fk : List D → List D → M D} {y : D} {ck : Ev → M (List D)} {ε : Ev} {x : List D} {h1 : Store} : meth2 fk y ck ε (.ok x h1) = meth3 fk y x (ck ε h1) := rfl
@[simp] theorem meth2_x {fk : List D → List D → M D} {y : D} {ck : Ev → M (List D)} {ε : Ev} {cx : Str} {nx : List Str} {dx : List D} {hx : Store} : meth2 fk y ck ε (.ex cx nx dx hx) = .ex cx nx dx hx := rfl
def setC2 (y : D) (b : EM) (ε : Ev) (r : R (D)) : R Fw := R.up r ε fun x h1 => setC3 y x ε (b ε h1)
@[simp] theorem setC2_k {y : D} {b : EM} {ε : Ev} {x : D} {h1 : Store} : setC2 y b ε (.ok x h1) = setC3 y x ε (b ε h1) := rfl
@[simp] theorem setC2_x {y : D} {b : EM} {ε : Ev} {cx : Str} {nx : List Str} {dx : List D} {hx : Store} : setC2 y b ε (.ex cx nx dx hx) = .ok (.rs cx nx dx ε) hx := rfl
def map3 (tg : Tg) (tst : Ev → M Bool) (e : EM) (ε : Ev) (ds : List D) (r : R (D)) : R (List D) := R.bnd r fun x h1 => map4 x (mapE tg tst e ε ds h1)
@[simp] theorem map3_k {tg : Tg} {tst : Ev → M Bool} {e : EM} {ε : Ev} {ds : List D} {x : D} {h1 : Store} : map3 tg tst e ε ds (.ok x h1) = map4 x (mapE tg tst e ε ds h1) := rfl
@[simp] theorem map3_x {tg : Tg} {tst : Ev → M Bool} {e : EM} {ε : Ev} {ds : List D} {cx : Str} {nx : List Str} {dx : List D} {hx : Store} : map3 tg tst e ε ds (.ex cx nx dx hx) = .ex cx nx dx hx := rfl
def setCK (a b : EM) (ε : Ev) (r : R (D)) : R Fw := R.up r ε fun x h1 => setC2 x b ε (a ε h1)
@[simp] theorem setCK_k {a b : EM} {ε : Ev} {x : D} {h1 : Store} : setCK a b ε (.ok x h1) = setC2 x b ε (a ε h1) := rfl
@[simp] theorem setCK_x {a b : EM} {ε : Ev} {cx : Str} {nx : List Str} {dx : List D} {hx : Store} : setCK a b ε (.ex cx nx dx hx) = .ok (.rs cx nx dx ε) hx := rfl
@[simp] theorem q_setC {e : EM} {a : EM} {b : EM} {ε : Ev} {h : Store}  : mSetC a b e ε h = setCK a b ε (e ε h) := by first | rfl | (show _ = R.bnd _ _; unfold mSetC; congr 1; done) | (unfold mSetC; rfl)
def chn2 (f g : D → D → M D) (y : D) (e : EM) (ε : Ev) (r : R (D)) : R (Bool) := R.bnd r fun x h1 => chn3 g x e ε (asB (f y x h1))
@[simp] theorem chn2_k {f g : D → D → M D} {y : D} {e : EM} {ε : Ev} {x : D} {h1 : Store} : chn2 f g y e ε (.ok x h1) = chn3 g x e ε (asB (f y x h1)) := rfl
@[simp] theorem chn2_x {f g : D → D → M D} {y : D} {e : EM} {ε : Ev} {cx : Str} {nx : List Str} {dx : List D} {hx : Store} : chn2 f g y e ε (.ex cx nx dx hx) = .ex cx nx dx hx := rfl
def map2 (tg : Tg) (tst : Ev → M Bool) (e : EM) (ε ε1 : Ev) (ds : List D) (r : R (Bool)) : R (List D) := R.bnd r fun x h1 => if x = true then map3 tg tst e ε ds (calm (e ε1 h1)) else mapE tg tst e ε ds h1
@[simp] theorem map2_k {tg : Tg} {tst : Ev → M Bool} {e : EM} {ε ε1 : Ev} {ds : List D} {x : Bool} {h1 : Store} : map2 tg tst e ε ε1 ds (.ok x h1) = if x = true then map3 tg tst e ε ds (calm (e ε1 h1)) else mapE tg tst e ε ds h1 := rfl
@[simp] theorem map2_x {tg : Tg} {tst : Ev → M Bool} {e : EM} {ε ε1 : Ev} {ds : List D} {cx : Str} {nx : List Str} {dx : List D} {hx : Store} : map2 tg tst e ε ε1 ds (.ex cx nx dx hx) = .ex cx nx dx hx := rfl
def chnK (f g : D → D → M D) (b e : EM) (ε : Ev) (r : R (D)) : R (Bool) := R.bnd r fun x h1 => chn2 f g x e ε (b ε h1)
@[simp] theorem chnK_k {f g : D → D → M D} {b e : EM} {ε : Ev} {x : D} {h1 : Store} : chnK f g b e ε (.ok x h1) = chn2 f g x e ε (b ε h1) := rfl
@[simp] theorem chnK_x {f g : D → D → M D} {b e : EM} {ε : Ev} {cx : Str} {nx : List Str} {dx : List D} {hx : Store} : chnK f g b e ε (.ex cx nx dx hx) = .ex cx nx dx hx := rfl
@[simp] theorem q_chn {e : EM} {a : EM} {b : EM} {ε : Ev} {h : Store} {f g : D → D → M D} : mChn f g a b e ε h = chnK f g b e ε (a ε h) := by first | rfl | (show _ = R.bnd _ _; unfold mChn; congr 1; done) | (unfold mChn; rfl)
section
variable {e a b : EM} {cs ck ct : Ev → M (List D)} {ε ε1 ε2 : Ev} {h h2 : Store} {i n : Nat} {s : SC} {t : Ev → M Bool} {tg : Tg} {tst : Ev → M Bool} {O : D → D → M D} {d x y : D} {ds ks' : List D} {f1 : D → M D} {c f nm : Str} {ns : List Str} {tbl : List (Str × (List D → List D → M D))} {acc u : Str} {r : Ev → Str → M D} {j : Int}
def varK (o : Option Slt) : M D := fun h => match o with
  | some (.pu d) => .ok d h
  | _ => .no
@[simp] theorem varK_k : varK (some (.pu d)) h = .ok d h := rfl
@[simp] theorem q_var : mVar i ε h = varK ε[i]? h := rfl
def ownK (o : Option Slt) : M D := fun h => match o with
  | some (.pu d) => .ok d h
  | some (.ol ds) => .ok (.lst ds) h
  | some (.od ks ds) => .ok (.dic ks ds) h
  | _ => .no
@[simp] theorem ownK_p : ownK (some (.pu d)) h = .ok d h := rfl
@[simp] theorem ownK_l : ownK (some (.ol ds)) h = .ok (.lst ds) h := rfl
@[simp] theorem ownK_d {ks : List Key} : ownK (some (.od ks ds)) h = .ok (.dic ks ds) h := rfl
@[simp] theorem q_own : mOwn i ε h = ownK ε[i]? h := rfl
def appK (i : Nat) (e : EM) (ε : Ev) (o : Option Slt) : M Fw := fun h => match o with
  | some (.ol ds) => app2 i ds ε (e ε h)
  | _ => .no
@[simp] theorem appK_k : appK i e ε (some (.ol ds)) h = app2 i ds ε (e ε h) := rfl
@[simp] theorem q_app : mApp i e ε h = appK i e ε ε[i]? h := rfl
def frzK (i : Nat) (s : SC) (ε : Ev) (o : Option Slt) : M Fw := fun h => match o with
  | some (.ol ds) => s (ε.set i (.pu (.lst ds))) h
  | some (.od ks ds) => s (ε.set i (.pu (.dic ks ds))) h
  | some (.pu _) => s ε h
  | _ => .no
@[simp] theorem frzK_l : frzK i s ε (some (.ol ds)) h = s (ε.set i (.pu (.lst ds))) h := rfl
@[simp] theorem frzK_d {ks : List Key} : frzK i s ε (some (.od ks ds)) h = s (ε.set i (.pu (.dic ks ds))) h := rfl
@[simp] theorem frzK_p : frzK i s ε (some (.pu d)) h = s ε h := rfl
@[simp] theorem q_frz : mFrz i s ε h = frzK i s ε ε[i]? h := rfl
def augK (i : Nat) (O : D → D → M D) (e : EM) (ε : Ev) (o : Option Slt) : M Fw := fun h => match o with
  | some (.pu d) => aug3 i ε (aug2 O d (e ε h))
  | _ => .no
@[simp] theorem augK_k : augK i O e ε (some (.pu d)) h = aug3 i ε (aug2 O d (e ε h)) := rfl
@[simp] theorem q_aug : mAug i O e ε h = augK i O e ε ε[i]? h := rfl
def selfK (cl : List Str) (f : Str) (o : Option Slt) : M D := fun h => match o with
  | some (.oo c ns ds) => if c ∈ cl then (match lookD ns ds f with
    | some d => .ok d h
    | none => .no) else .no
  | _ => .no
@[simp] theorem selfK_k {cl : List Str} : selfK cl f (some (.oo c ns ds)) h = if c ∈ cl then optR (lookD ns ds f) h else .no := rfl
@[simp] theorem q_self {cl : List Str} : mSelf cl i f ε h = selfK cl f ε[i]? h := rfl
def map1 (tg : Tg) (tst : Ev → M Bool) (e : EM) (ε : Ev) (ds : List D) (o : Option Ev) : M (List D) := fun h => match o with
  | some ε1 => map2 tg tst e ε ε1 ds (calm (tst ε1 h))
  | none => .no
@[simp] theorem map1_k : map1 tg tst e ε ds (some ε1) h = map2 tg tst e ε ε1 ds (calm (tst ε1 h)) := rfl
theorem mapE_c : mapE tg tst e ε (d :: ds) h = map1 tg tst e ε ds (asT tg d ε) h := rfl
def loop2 (tg : Tg) (s : SC) (ds : List D) (r : R Fw) : R Fw := match r with
  | .ok (.nx ε2) h2 => loopF tg s ds ε2 h2
  | .ok (.ct ε2) h2 => loopF tg s ds ε2 h2
  | .ok (.bk ε2) h2 => .ok (.nx ε2) h2
  | r => r
@[simp] theorem loop2_nx : loop2 tg s ds (.ok (.nx ε) h) = loopF tg s ds ε h := rfl
@[simp] theorem loop2_ct : loop2 tg s ds (.ok (.ct ε) h) = loopF tg s ds ε h := rfl
@[simp] theorem loop2_bk : loop2 tg s ds (.ok (.bk ε) h) = .ok (.nx ε) h := rfl
@[simp] theorem loop2_rt : loop2 tg s ds (.ok (.rt d) h) = .ok (.rt d) h := rfl
@[simp] theorem loop2_rs {es : List D} : loop2 tg s ds (.ok (.rs c ns es ε) h) = .ok (.rs c ns es ε) h := rfl
def loop1 (tg : Tg) (s : SC) (ds : List D) (o : Option Ev) : M Fw := fun h => match o with
  | some ε1 => loop2 tg s ds (s ε1 h)
  | none => .no
@[simp] theorem loop1_k : loop1 tg s ds (some ε) h = loop2 tg s ds (s ε h) := rfl
theorem loopF_c : loopF tg s (d :: ds) ε h = loop1 tg s ds (asT tg d ε) h := by
  rw [loopF]; unfold loop1 loop2 <;> rfl
def wh2 (t : Ev → M Bool) (s : SC) (n : Nat) (r : R Fw) : R Fw := match r with
  | .ok (.nx ε2) h2 => loopW t s n ε2 h2
  | .ok (.ct ε2) h2 => loopW t s n ε2 h2
  | .ok (.bk ε2) h2 => .ok (.nx ε2) h2
  | r => r
@[simp] theorem wh2_nx : wh2 t s n (.ok (.nx ε) h) = loopW t s n ε h := rfl
@[simp] theorem wh2_ct : wh2 t s n (.ok (.ct ε) h) = loopW t s n ε h := rfl
@[simp] theorem wh2_bk : wh2 t s n (.ok (.bk ε) h) = .ok (.nx ε) h := rfl
@[simp] theorem wh2_rt : wh2 t s n (.ok (.rt d) h) = .ok (.rt d) h := rfl
@[simp] theorem wh2_rs {es : List D} : wh2 t s n (.ok (.rs c ns es ε) h) = .ok (.rs c ns es ε) h := rfl
def wh1 (t : Ev → M Bool) (s : SC) (n : Nat) (ε : Ev) (r : R Bool) : R Fw := R.up r ε fun k h1 => if k = true then wh2 t s n (s ε h1) else .ok (.nx ε) h1
@[simp] theorem wh1_k {k : Bool} : wh1 t s n ε (.ok k h) = if k = true then wh2 t s n (s ε h) else .ok (.nx ε) h := rfl
theorem loopW_s : loopW t s (n + 1) ε h = wh1 t s n ε (t ε h) := by
  rw [loopW]; unfold wh1 wh2 <;> rfl
def asTs2 (ts : List Tg) (ds : List D) (o : Option Ev) : Option Ev := match o with
  | some ε' => asTs ts ds ε'
  | none => none
@[simp] theorem asTs2_k {ts : List Tg} : asTs2 ts ds (some ε) = asTs ts ds ε := rfl
@[simp] theorem asTs_c {ts : List Tg} : asTs (tg :: ts) (d :: ds) ε = asTs2 ts ds (asT tg d ε) := by rw [asTs] <;> rfl
def methT (o : Option (List D → List D → M D)) (d : D) (cs ck : Ev → M (List D)) (ε : Ev) : M D := fun h => match o with
  | some g => meth2 g d ck ε (cs ε h)
  | none => .no
@[simp] theorem methT_k {g : List D → List D → M D} : methT (some g) d cs ck ε h = meth2 g d ck ε (cs ε h) := rfl
@[simp] theorem methD_o : methD tbl nm cs ck ε (.obj c ns ds) h = if nm ∈ ns then .no else methT (tbl.lookup c) (.obj c ns ds) cs ck ε h := by
  show (if nm ∈ ns then R.no else methT0 (tbl.lookup c) (.obj c ns ds) cs ck ε h) = _
  cases tbl.lookup c <;> rfl
def strK (r : R D) : R D := R.bnd r fun d h1 => match d with
  | .str s => .ok (.str s) h1
  | _ => .no
@[simp] theorem strK_k : strK (.ok (.str u) h) = .ok (.str u) h := rfl
@[simp] theorem z_own1S {g : List D → M D} : own1S c g (.obj c ns ds) h = strK (g [.obj c ns ds] h) := by
  unfold own1S own1 strK
  simp only [if_true] <;> rfl
def jcK (r : Ev → Str → M D) (ε : Ev) (acc : Str) (q : R D) : R D := R.bnd q fun d h1 => match d with
  | .str s => if (acc ++ s).length ≤ 1000000 then r ε (acc ++ s) h1 else .no
  | _ => .no
@[simp] theorem jcK_s (hs : (acc ++ u).length ≤ 1000000) : jcK r ε acc (.ok (.str u) h) = r ε (acc ++ u) h := by
  show (if (acc ++ u).length ≤ 1000000 then r ε (acc ++ u) h else .no) = _
  rw [if_pos hs]
@[simp] theorem q_jc : mJc a r ε acc h = jcK r ε acc (a ε h) := rfl
end
section
variable {α β : Type} {a : α} {h h1 h2 : Store} {ε ε' : Ev} {Q : α → Store → Prop} {k : SC} {d x y z u : D} {ds es : List D} {c : Str} {ns : List Str}
variable {a b e : EM} {cs ck : Ev → M (List D)} {s t : SC} {i j : Nat} {ta tb : Ev → M Bool}
@[simp] theorem q_seq : mSeq s t ε h = R.seq (s ε h) t := rfl
@[simp] theorem q_pass : mPass ε h = .ok (.nx ε) h := rfl
@[simp] theorem q_brk : mBrk ε h = .ok (.bk ε) h := rfl
@[simp] theorem q_cnt : mCnt ε h = .ok (.ct ε) h := rfl
@[simp] theorem q_retN : mRetN ε h = .ok (.rt .non) h := rfl
@[simp] theorem q_tB : tB e ε h = asB (e ε h) := rfl
@[simp] theorem q_lit : mLit d ε h = .ok d h := rfl
@[simp] theorem q_nilA : mNilA ε h = .ok [] h := rfl
@[simp] theorem q_pn : mPn ε h = .ok [] h := rfl
@[simp] theorem puts_c {x : Slt} {xs : List Slt} {is : List Nat} : puts ε (i :: is) (x :: xs) = puts (ε.set i x) is xs := rfl
@[simp] theorem puts_n {xs : List Slt} : puts ε [] xs = ε := by cases xs <;> rfl
@[simp] theorem wipe_n : wipeE ε [] = ε := rfl
@[simp] theorem wipe_c {v : Nat} {vs : List Nat} : wipeE ε (v :: vs) = (wipeE ε vs).set v .un := rfl
@[simp] theorem mapE_n {tg : Tg} {tst : Ev → M Bool} : mapE tg tst e ε [] h = .ok [] h := rfl
@[simp] theorem q_yes : yesE ε h = .ok true h := rfl
@[simp] theorem loopF_n {tg : Tg} : loopF tg s [] ε h = .ok (.nx ε) h := rfl
@[simp] theorem asT_n : asT (.n i) d ε = some (ε.set i (.pu d)) := by unfold asT; rfl
@[simp] theorem asT_t {ts : List Tg} : asT (.t ts) (.tup ds) ε = asTs ts ds ε := by conv => lhs; unfold asT
@[simp] theorem asT_l {ts : List Tg} : asT (.t ts) (.lst ds) ε = asTs ts ds ε := by conv => lhs; unfold asT
@[simp] theorem asTs_n : asTs [] [] ε = some ε := by unfold asTs; rfl
@[simp] theorem lookD_c {f n : Str} : lookD (n :: ns) (d :: ds) f = if f = n then some d else lookD ns ds f := rfl
@[simp] theorem putX_n {f : Str} : putX [] [] f d = ([f], [d]) := rfl
@[simp] theorem putX_c {f g : Str} : putX (g :: ns) (x :: ds) f d = if g = f then (g :: ns, d :: ds) else (g :: (putX ns ds f d).1, x :: (putX ns ds f d).2) := rfl
variable {f : List D → M D} {fi : List D → M (List Str × List D)} {v w : D}
@[simp] theorem wA0 : wArg 0 0 [] [] f [] [] = f [] := rfl
@[simp] theorem wA1 : wArg 1 0 [0] [] f [x] [] = f [x] := rfl
@[simp] theorem wA2 : wArg 2 0 [0, 1] [] f [x, y] [] = f [x, y] := rfl
@[simp] theorem wA3 : wArg 3 0 [0, 1, 2] [] f [x, y, z] [] = f [x, y, z] := rfl
@[simp] theorem wA4 : wArg 4 0 [0, 1, 2, 3] [] f [x, y, z, u] [] = f [x, y, z, u] := rfl
@[simp] theorem wA5 : wArg 5 0 [0, 1, 2, 3, 4] [] f [x, y, z, u, v] [] = f [x, y, z, u, v] := rfl
@[simp] theorem wM1 : wMk c 1 0 [0] [] fi [x] [] = mkM c fi [x] := rfl
@[simp] theorem wM2 : wMk c 2 0 [0, 1] [] fi [x, y] [] = mkM c fi [x, y] := rfl
@[simp] theorem wM21 : wMk c 1 0 [0, 1] [d] fi [x] [] = mkM c fi [x, d] := rfl
@[simp] theorem wM20 : wMk c 2 0 [0, 1] [d] fi [x, y] [] = mkM c fi [x, y] := rfl
@[simp] theorem wM3 : wMk c 3 0 [0, 1, 2] [] fi [x, y, z] [] = mkM c fi [x, y, z] := rfl
@[simp] theorem wM0 : wMk c 0 0 [] [] fi [] [] = mkM c fi [] := rfl
end
section
variable {h : Store} {O : D → D → M D} {U : D → M D} {i j : Int} {s t : Str} {xs ys ds es : List D} {b b' : Bool} {c c' : Str} {ns ns' : List Str} {op : Operator} {f g : List D → M D} {d x y : D}
theorem z_mulS (hj : j.natAbs < 2 ^ 64) : bop O .Mult (.int i) (.int j) h = .ok (.int (i * j)) h := z_mul (.inr (.inl hj))
theorem z_mulT (hi : i.natAbs < 2 ^ 64) : bop O .Mult (.int i) (.int j) h = .ok (.int (i * j)) h := z_mul (.inl hi)
@[simp] theorem z_cat (hl : s.length + t.length ≤ 1000000) : bop O .Add (.str s) (.str t) h = .ok (.str (s ++ t)) h := by
  simp only [bop, if_pos (Nat.le_trans hl sizeL)]
@[simp] theorem z_catL (hl : xs.length + ys.length ≤ 100000) : bop O .Add (.lst xs) (.lst ys) h = .ok (.lst (xs ++ ys)) h := by
  simp only [bop, if_pos hl]
@[simp] theorem z_catT (hl : xs.length + ys.length ≤ 100000) : bop O .Add (.tup xs) (.tup ys) h = .ok (.tup (xs ++ ys)) h := by
  simp only [bop, if_pos hl]
@[simp] theorem z_oo : bop O op (.obj c ns ds) (.obj c' ns' es) h = O (.obj c ns ds) (.obj c' ns' es) h := rfl
@[simp] theorem z_oi : bop O op (.obj c ns ds) (.int i) h = O (.obj c ns ds) (.int i) h := rfl
@[simp] theorem z_io : bop O op (.int i) (.obj c ns ds) h = O (.int i) (.obj c ns ds) h := rfl
@[simp] theorem z_ownL : ownL c f (.obj c ns ds) (.obj c ns' es) h = f [.obj c ns ds, .obj c ns' es] h := by simp [ownL]
@[simp] theorem z_ownLi : ownL c f (.obj c ns ds) (.int i) h = f [.obj c ns ds, .int i] h := by simp [ownL]
@[simp] theorem z_ownB : ownB c f g (.obj c ns ds) (.obj c ns' es) h = f [.obj c ns ds, .obj c ns' es] h := by simp [ownB, ownL]
@[simp] theorem z_ownBi : ownB c f g (.obj c ns ds) (.int i) h = f [.obj c ns ds, .int i] h := by simp [ownB, ownL]
@[simp] theorem z_ownBj : ownB c f g (.int i) (.obj c ns ds) h = g [.obj c ns ds, .int i] h := by simp [ownB]
@[simp] theorem z_uneg : uneg U (.int i) h = .ok (.int (-i)) h := rfl
@[simp] theorem z_unegO : uneg U (.obj c ns ds) h = U (.obj c ns ds) h := rfl
@[simp] theorem z_own1 : own1 c f (.obj c ns ds) h = f [.obj c ns ds] h := by simp [own1]
@[simp] theorem z_absO : bAbs U [.obj c ns ds] h = U (.obj c ns ds) h := rfl
@[simp] theorem z_strO : bStr U [.obj c ns ds] h = U (.obj c ns ds) h := rfl
/-- an int's text -/
@[irreducible] def itx (i : Int) : Str := toString i
theorem z_strI (hi : i.natAbs.log2 < 1920) : bStr U [.int i] h = .ok (.str (itx i)) h := by unfold itx; simp only [bStr, if_pos hi]
@[simp] theorem z_strS : bStr U [.str s] h = .ok (.str s) h := rfl
@[simp] theorem z_lenL : bLen [.lst xs] h = .ok (.int xs.length) h := rfl
@[simp] theorem z_lenT : bLen [.tup xs] h = .ok (.int xs.length) h := rfl
@[simp] theorem z_lenR {ns : List Int} : bLen [.scr ns] h = .ok (.int ns.length) h := rfl
theorem z_lenS (hl : s.length ≤ 1000000) : bLen [.str s] h = .ok (.int s.length) h := by simp only [bLen, if_pos hl]
@[simp] theorem z_min2 : bMin [.int i, .int j] h = .ok (.int (if j < i then j else i)) h := rfl
@[simp] theorem z_max2 : bMax [.int i, .int j] h = .ok (.int (if j > i then j else i)) h := rfl
@[simp] theorem z_tupL : bTup [.lst xs] h = .ok (.tup xs) h := rfl
@[simp] theorem z_tupT : bTup [.tup xs] h = .ok (.tup xs) h := rfl
@[simp] theorem z_lstL : bLst [.lst xs] h = .ok (.lst xs) h := rfl
@[simp] theorem z_lstT : bLst [.tup xs] h = .ok (.lst xs) h := rfl
@[simp] theorem z_eqS : cmpD O .Eq (.str s) (.str t) h = .ok (.bl (decide (s = t))) h := rfl
@[simp] theorem z_neS : cmpD O .NotEq (.str s) (.str t) h = .ok (.bl (!decide (s = t))) h := rfl
@[simp] theorem z_isN : cmpD O .Is d .non h = .ok (.bl (isNon d)) h := rfl
@[simp] theorem z_isnN : cmpD O .IsNot d .non h = .ok (.bl (!isNon d)) h := rfl
end
/-- an element of a comprehension for each item, the heap left as it is -/
theorem mapE_map {tg : Tg} {e : EM} {ε : Ev} {h : Store} {g : D → D} : ∀ {ds : List D}, (∀ d ∈ ds, ∃ ε1, asT tg d ε = some ε1 ∧ e ε1 h = .ok (g d) h) → mapE tg yesE e ε ds h = .ok (ds.map g) h
  | [], _ => rfl
  | d :: ds, H => by
    obtain ⟨ε1, e1, e2⟩ := H d (List.mem_cons_self ..)
    rw [mapE_c, e1]
    simp only [map1_k, map2_k, map3_k, map4_k, q_yes, calm_okR, bnd_ok, if_true, e2, mapE_map fun d hd => H d (List.mem_cons_of_mem _ hd), List.map_cons]
theorem mapE_fil {tg : Tg} {e : EM} {tst : Ev → M Bool} {ε : Ev} {h : Store} {g : D → D} {q : D → Bool} : ∀ {ds : List D}, (∀ d ∈ ds, ∃ ε1, asT tg d ε = some ε1 ∧ tst ε1 h = .ok (q d) h ∧ (q d = true → e ε1 h = .ok (g d) h)) → mapE tg tst e ε ds h = .ok ((ds.filter q).map g) h
  | [], _ => rfl
  | d :: ds, H => by
    obtain ⟨ε1, e1, e2, e3⟩ := H d (List.mem_cons_self ..)
    rw [mapE_c, e1]
    have ih := mapE_fil fun d hd => H d (List.mem_cons_of_mem _ hd)
    simp only [map1_k, map2_k, calm_okR, bnd_ok, e2]
    cases hq : q d with
    | true => simp only [map2_k, map3_k, map4_k, if_true, e3 hq, calm_okR, bnd_ok, ih, List.filter_cons, hq, List.map_cons]
    | false => simp only [map2_k, Bool.false_eq_true, if_false, ih, List.filter_cons, hq]
inductive All2 {α β : Type} (G : α → β → Prop) : List α → List β → Prop where
  | nil : All2 G [] []
  | cons {a : α} {b : β} {as : List α} {bs : List β} (h : G a b) (t : All2 G as bs) : All2 G (a :: as) (b :: bs)
theorem All2.len {α β : Type} {G : α → β → Prop} {as : List α} {bs : List β} (h : All2 G as bs) : as.length = bs.length := by
  induction h with
  | nil => rfl
  | cons _ _ ih => simp [ih]
/-- .. each changing the heap -/
theorem mapE_sat {tg : Tg} {e : EM} {ε : Ev} {I : Store → Prop} {G : D → D → Prop} : ∀ {ds : List D} {h : Store}, I h → (∀ d ∈ ds, ∀ h, I h → ∃ ε1, asT tg d ε = some ε1 ∧ Sat (e ε1 h) fun y h' => G d y ∧ I h') → Sat (mapE tg yesE e ε ds h) fun ys h' => All2 G ds ys ∧ I h'
  | [], _, hI, _ => ⟨.nil, hI⟩
  | d :: ds, h, hI, H => by
    obtain ⟨ε1, e1, s⟩ := H d (List.mem_cons_self ..) h hI
    obtain ⟨y, h2, e2, g1, i2⟩ := s.ok
    obtain ⟨ys, h3, e3, g3, i3⟩ := (mapE_sat (h := h2) i2 fun d hd => H d (List.mem_cons_of_mem _ hd)).ok
    refine Sat.of (a := y :: ys) (h := h3) ?_ ⟨.cons g1 g3, i3⟩
    rw [mapE_c, e1]
    simp only [map1_k, map2_k, map3_k, map4_k, q_yes, calm_okR, bnd_ok, if_true, e2, e3]
/-- a for by its invariant -/
theorem loopF_inv {tg : Tg} {s : SC} {I : Nat → Ev → Store → Prop} : ∀ {ds : List D} {k : Nat} {ε : Ev} {h : Store}, I k ε h → (∀ (i : Nat) d ε h, ds[i]? = some d → I (k + i) ε h → ∃ ε1, asT tg d ε = some ε1 ∧ ∃ ε2 h2, (s ε1 h = .ok (.nx ε2) h2 ∨ s ε1 h = .ok (.ct ε2) h2) ∧ I (k + i + 1) ε2 h2) → ∃ ε2 h2, loopF tg s ds ε h = .ok (.nx ε2) h2 ∧ I (k + ds.length) ε2 h2
  | [], k, ε, h, hI, _ => ⟨ε, h, rfl, hI⟩
  | d :: ds, k, ε, h, hI, H => by
    obtain ⟨ε1, e1, ε2, h2, e2, i2⟩ := H 0 d ε h rfl hI
    obtain ⟨ε3, h3, e3, i3⟩ := loopF_inv (ds := ds) (k := k + 1) (by simpa using i2) fun i d ε h hd hi => by
      have := H (i + 1) d ε h (by simpa using hd) (by rw [show k + (i + 1) = k + 1 + i by omega]; exact hi)
      rw [show k + (i + 1) + 1 = k + 1 + i + 1 by omega] at this
      exact this
    refine ⟨ε3, h3, ?_, by rw [List.length_cons, show k + (ds.length + 1) = k + 1 + ds.length by omega]; exact i3⟩
    rw [loopF_c, e1]
    rcases e2 with e2 | e2 <;> simp only [loop1_k, loop2_nx, loop2_ct, e2, e3]
@[simp] theorem str_inj {a b : String} : (Str.ofString a = Str.ofString b) ↔ a = b := by
  constructor
  · intro h
    rw [Str.ofString_eq_toList, Str.ofString_eq_toList] at h
    have h1 : a.toList.map Char.toNat = b.toList.map Char.toNat := by
      have := congrArg (fun s => s.cps.toList) h
      simpa using this
    have inj : ∀ (l m : List Char), l.map Char.toNat = m.map Char.toNat → l = m := by
      intro l
      induction l with
      | nil => intro m hm; cases m with
        | nil => rfl
        | cons c t => simp at hm
      | cons c t ih =>
        intro m hm
        cases m with
        | nil => simp at hm
        | cons d u =>
          simp only [List.map_cons, List.cons.injEq] at hm
          obtain ⟨e1, e2⟩ := hm
          have : c = d := Char.ext (UInt32.toNat_inj.mp e1)
          rw [this, ih u e2]
    exact String.toList_inj.mp (inj _ _ h1)
  · rintro rfl; rfl
@[simp] theorem str_len {a : String} : (Str.ofString a).length = a.toList.length := by rw [PySem.ofString_length a, String.length_toList]
theorem eq_self {d : D} (h : pl d = true) : deq d d = true := SeqAt.eqv_refl _ (py_lay d h)
/-- the same data on both sides -/
theorem z_eqX {O : D → D → M D} {d : D} {h : Store} (hd : okD d = true) : cmpD O .Eq d d h = .ok (.bl true) h := by
  have hp : pl d = true := (okD_sh hd).1
  unfold cmpD
  cases d <;> simp [hd, eq_self hp]
theorem z_neX {O : D → D → M D} {d : D} {h : Store} (hd : okD d = true) : cmpD O .NotEq d d h = .ok (.bl false) h := by
  have hp : pl d = true := (okD_sh hd).1
  unfold cmpD
  cases d <;> simp [hd, eq_self hp]
theorem so_app {a b : Str} (ha : PyData.strOk a = true) (hb : PyData.strOk b = true) : PyData.strOk (a ++ b) = true := by
  unfold PyData.strOk at *
  show ((a.cps ++ b.cps).all _) = true
  rw [Array.all_append, ha, hb]; rfl
theorem so_lo {a : Str} (h : Lo a) : PyData.strOk a = true := by
  unfold PyData.strOk
  rw [Array.all_eq_true_iff_forall_mem]
  intro c hc
  have := h c (Array.mem_toList_iff.mpr hc)
  exact decide_eq_true (by omega)
theorem so_int (i : Int) : PyData.strOk (toString i) = true := so_lo (lo_int i)
theorem so_itx (i : Int) : PyData.strOk (itx i) = true := by unfold itx; exact so_int i
theorem len_itx {i : Int} {k : Nat} (h0 : 0 < k) (h : i.natAbs.log2 < k) : (itx i).length ≤ k + 1 := by unfold itx; exact len_i h0 h
theorem nTxt_itx (x y : Int) : nTxt x y = if y = 1 then itx x else itx x ++ "/" ++ itx y := by unfold itx; rfl
section
variable {O : D → M D} {a : EM} {ε : Ev} {h : Store} {r : Ev → Str → M D} {acc s : Str} {i : Int}
@[simp] theorem fm_i (hi : i.natAbs.log2 < 1920) : fmD O (.int i) h = .ok (.str (itx i)) h := by unfold itx; simp only [fmD, if_pos hi]
@[simp] theorem fm_s (hs : s.length ≤ 1000000) : fmD O (.str s) h = .ok (.str s) h := by simp only [fmD, if_pos hs]
@[simp] theorem fm_o {c : Str} {ns : List Str} {ds : List D} : fmD O (.obj c ns ds) h = O (.obj c ns ds) h := rfl
@[simp] theorem q_fs {c : Ev → Str → M D} : mFs c ε h = c ε Str.empty h := rfl
@[simp] theorem q_jn : mJn ε acc h = .ok (.str acc) h := rfl
@[simp] theorem emp_app : Str.empty ++ s = s := by
  show (⟨#[] ++ s.cps⟩ : Str) = s
  simp
end
section
variable {x : Slt} {xs : List Slt} {n : Nat} {y : Slt}
@[simp] theorem g_z : (x :: xs)[0]? = some x := rfl
@[simp] theorem g_s : (x :: xs)[n + 1]? = xs[n]? := rfl
end
@[simp] theorem emp_len : Str.empty.length = 0 := rfl
section
variable {h : Store} {ε : Ev} {c : Str} {co : EM} {cs ck : Ev → M (List D)} {tbl : List (Str × (List D → List D → M D))} {m : Str} {f : List D → M D} {x y z d : D} {xs ds : List D} {O : D → D → M D}
@[simp] theorem look_c {α : Type} {a b : Str} {v : α} {l : List (Str × α)} : List.lookup a ((b, v) :: l) = if a = b then some v else List.lookup a l := by
  rw [List.lookup_cons]
  by_cases e : a = b
  · subst e; simp
  · have : (a == b) = false := beq_eq_false_iff_ne.mpr e
    rw [this]; simp [e]
@[simp] theorem wK11 : wArg 1 1 [0, 1] [] f [x] [y] = f [x, y] := rfl
theorem z_rep {k : Int} (hk : 0 ≤ k ∧ k ≤ 1000 ∧ xs.length ≤ 100) : bop O .Mult (.lst xs) (.int k) h = .ok (.lst (List.replicate k.toNat xs).flatten) h := by
  simp only [bop, if_pos hk]
@[simp] theorem iadd_ii {i j : Int} : iaddD (.int i) (.int j) h = .ok (.int (i + j)) h := rfl
theorem z_last : ixD (.lst (ds ++ [x])) (.int (-1)) h = .ok x h := z_ixl (by
  unfold atI ixN
  have e : (-1 + ((ds ++ [x]).length : Int)).toNat = ds.length := by simp only [List.length_append, List.length_cons, List.length_nil]; omega
  rw [if_neg (by decide), if_pos (by simp only [List.length_append, List.length_cons, List.length_nil]; omega), e]
  simp)
end
theorem loopF_inv0 {tg : Tg} {s : SC} {I : Nat → Ev → Store → Prop} {ds : List D} {ε : Ev} {h : Store} (h0 : I 0 ε h) (H : ∀ (i : Nat) d ε h, ds[i]? = some d → I i ε h → ∃ ε1, asT tg d ε = some ε1 ∧ ∃ ε2 h2, (s ε1 h = .ok (.nx ε2) h2 ∨ s ε1 h = .ok (.ct ε2) h2) ∧ I (i + 1) ε2 h2) : ∃ ε2 h2, loopF tg s ds ε h = .ok (.nx ε2) h2 ∧ I ds.length ε2 h2 := by
  have q := loopF_inv (tg := tg) (s := s) (I := I) (ds := ds) (k := 0) h0 fun i d ε h hd hi => by
    rw [Nat.zero_add] at hi ⊢; exact H i d ε h hd hi
  rwa [Nat.zero_add] at q
/-- a body's end: on with the loop -/
def SatS (r : R Fw) (J : Ev → Store → Prop) : Prop := match r with
  | .ok (.nx ε) h => J ε h
  | .ok (.ct ε) h => J ε h
  | _ => False
@[simp] theorem SatS_nx {J : Ev → Store → Prop} {ε : Ev} {h : Store} : SatS (.ok (.nx ε) h) J = J ε h := rfl
@[simp] theorem SatS_ct {J : Ev → Store → Prop} {ε : Ev} {h : Store} : SatS (.ok (.ct ε) h) J = J ε h := rfl
theorem loopF_sat {tg : Tg} {s : SC} {I : Nat → Ev → Store → Prop} {ds : List D} {ε : Ev} {h : Store} (h0 : I 0 ε h) (H : ∀ (i : Nat) d ε h, ds[i]? = some d → I i ε h → ∃ ε1, asT tg d ε = some ε1 ∧ SatS (s ε1 h) (I (i + 1))) : ∃ ε2 h2, loopF tg s ds ε h = .ok (.nx ε2) h2 ∧ I ds.length ε2 h2 := by
  refine loopF_inv0 h0 fun i d ε h hd hi => ?_
  obtain ⟨ε1, e1, s1⟩ := H i d ε h hd hi
  refine ⟨ε1, e1, ?_⟩
  generalize s ε1 h = r at s1
  cases r with
  | ex c ns ds h => exact s1.elim
  | no => exact s1.elim
  | ok f h' =>
    cases f with
    | nx ε' => exact ⟨ε', h', .inl rfl, s1⟩
    | ct ε' => exact ⟨ε', h', .inr rfl, s1⟩
    | rt d => exact s1.elim
    | bk ε' => exact s1.elim
    | rs c ns ds ε' => exact s1.elim
end Z
set_option Elab.async false
set_option linter.all false
set_option maxRecDepth 100000
set_option maxHeartbeats 4000000
namespace Z
open PySem PySem.Spec PyProof.Rows L2 G
variable {K : PySem.W.Frag} {F F' H H' : Hp} {m m' : List Addr}
/-! ### own exceptions whose __init__ stores its parameters -/
/-- what is known of such a class -/
structure XcC (K : PySem.W.Frag) (C : Addr) : Prop where
  bs : ∃ (B newId initId : String) (bmB : List Value), ExcBaseFacts B newId initId bmB ∧ StoreFacts B bmB "object.__setattr__" "object" ∧ PySem.W.excInitIn K C bmB newId = true ∧ PySem.W.excOver K C bmB = true
  hd : PySem.W.hasDictIn K C = true
  sa : PySem.W.findIn K (.ref C) "__setattr__" = some (some (.builtin "object.__setattr__"))
  exC : PySem.W.subIn K (.ref C) (.type "BaseException") = some true
  tyC : PySem.W.typeIn K (.ref C) = some (.type "type")
  kC : PySem.W.keepIn K (.ref C) = true
section
variable {X : Cx} {pins : List (Addr × Obj)} {σ : L2.St} {s : Shared} {a C dx : Addr} {f : Str} {y : V} {u : Value} {fs : List (Str × V)} {Q : Unit → Shared → Prop} {E : Value → Shared → Prop} {A : Around}
/-- the first field of an exception that is being made -/
theorem x_new (T : XcC X.K C) (I : Inv X pins σ H s) (ea : H a = some (exo a C none)) (hno : PySem.W.findIn X.K (.ref C) f = some none) (ry : RelV y u)
    (h : ∀ dx s', H dx = none → dx ≠ a → Inv X pins σ (upd (upd H dx (exd dx [(f, y)])) a (exo a C (some dx))) s' → Q () s') : wpAny (model X.prog X.w) A (setAttr (.ref a) f u) Q E s := by
  obtain ⟨B, newId, initId, bmB, FB, SF, hin, hov⟩ := T.bs
  obtain ⟨t1, ho⟩ := exo_at I.hok ea
  obtain ⟨cd, hc, hdc⟩ := any_of (show (PySem.W.clsIn X.K C).any (·.hasDict) = true from T.hd)
  obtain ⟨p, g, dw, t, os⟩ := s
  have hlt := Heap.lt_size ho
  refine PySem.W.set_plain I.kIn (ox := { cls := .ref C, dict := none, data := .fields #[.ref t1, .none, .none, .none, .bool false, .none] }) (od := none) ⟨ho, rfl, rfl, trivial⟩ T.sa ?_
  refine PySem.W.osa_openX (ox := { cls := .ref C, dict := none, data := .fields #[.ref t1, .none, .none, .none, .bool false, .none] }) (od := none) (r := none) SF I.kIn ⟨ho, rfl, rfl, trivial⟩ hov (by unfold PySem.W.takerIn; rw [hno] <;> rfl) fun b => ?_
  refine wpAny_bind (wpAny_pure (wpAny_bind (PySem.W.instanceDict_exc ho (PySem.W.looks_clsIn I.kIn hc) hdc ?_)))
  show wpAny _ _ (Builtin.ObjectAttr.storeInDict p.objs.size _ f u) _ _ _
  have ne1 : a ≠ p.objs.size := Nat.ne_of_lt hlt
  refine PySem.HandSPX.store_in_new ⟨_, #[], _, (Heap.get?_update_ne _ _ _ _ ne1.symm).trans (Heap.get?_push_at rfl rfl), rfl, fun e he => absurd he (by simp), fun _ => rfl⟩ fun p' tk' hn hs => ?_
  have dnew : H p.objs.size = none := I.hok.fresh (Nat.le_refl _)
  have kp : ∀ c o, c ≠ a → p.get? c = some o → p'.get? c = some o := fun c o hca hco => (hs.2 c (Nat.ne_of_lt (Heap.lt_size hco))).trans ((Heap.get?_update_ne _ _ _ _ hca).trans (Heap.get?_push_of_some _ hco))
  have hx : p'.get? a = some ({ cls := .ref C, dict := some p.objs.size, data := .fields #[.ref t1, .none, .none, .none, .bool false, .none] } : Obj) := (hs.2 a ne1).trans (Heap.get?_update_self _ (Heap.get?_push_of_some _ ho) rfl)
  have nd : ∀ {c : Addr} {o : Obj}, p.get? c = some o → c ≠ p.objs.size := fun {c o} q => Nat.ne_of_lt (Heap.lt_size q)
  have na : ∀ {c : Addr}, H c = none → c ≠ a := fun {c} n z => by rw [z, ea] at n; cases n
  have U : Un X.fs [] H (upd (upd H p.objs.size (exd p.objs.size [(f, y)])) a (exo a C (some p.objs.size))) p p' :=
    ⟨fun c o q n _ _ => kp c o (na n) q, fun c o q n _ _ => ⟨o.slots, kp c o (na n) q⟩, fun c o q n _ => (by rw [upd_ne (na n), upd_ne (nd q)]; exact n),
      fun c o q _ => (by
        by_cases hca : c = a
        · exact ⟨_, by rw [hca]; exact hx⟩
        · exact ⟨o, kp c o hca q⟩),
      fun c xs q => (by rw [upd_ne (at_ne ea q exo_tup), upd_ne (ne_of_none q dnew)]; exact q), fun c o v q => (by rw [upd_ne (at_ne ea q exo_frz), upd_ne (ne_of_none q dnew)]; exact q),
      fun c ps q => ⟨#[], by rw [upd_ne (at_ne ea q exo_tbl), upd_ne (ne_of_none q dnew), q]; simp⟩⟩
  refine h p.objs.size _ dnew ne1.symm (I.un (t' := tk') U fun c o q => ?_)
  by_cases hca : c = a
  · subst hca
    rw [upd_same] at q
    cases q
    exact exo_ok hx
  rw [upd_ne hca] at q
  by_cases hcd : c = p.objs.size
  · subst hcd
    rw [upd_same] at q
    cases q
    exact exd_ok hn (relO_put (fs := []) ry fun _ => True.intro)
  rw [upd_ne hcd] at q
  refine (I.hok c o q).stay (fun e v he z => kp e v ?_ z) (fun e he => ?_) (fun e xs he => ?_)
  · rcases he with rfl | he
    · exact hca
    · exact at_ne ea he exo_own
  · rw [upd_ne (at_ne ea he exo_own), upd_ne (ne_of_none he dnew)]; exact he
  · rw [upd_ne (at_ne ea he exo_tup), upd_ne (ne_of_none he dnew)]; exact he
end
section
variable {X : Cx} {σ : L2.St} {e o : Expr} {f : Str} {p p' p1 p2 p3 pos : Pos} {E : Ends}
/-- self.f = e of an exception that is being made -/
theorem gs_x (hs : swapsWith e (some (.Attribute o f p')) pos.line X.env = pure false) (h : Go X e σ H fun y H1 => Go X o σ H1 fun x H2 => ∃ a C, x = .ref a ∧ XcC X.K C ∧ PySem.W.findIn X.K (.ref C) f = some none ∧ H2 a = some (exo a C none) ∧ ∀ dx, H2 dx = none → dx ≠ a → E.nx σ (upd (upd H2 dx (exd dx [(f, y)])) a (exo a C (some dx)))) :
    Gs X (.Assign [.Attribute o f p'] e pos) E σ H := by
  intro pins s I
  refine plainObj_wpAny_Assign_Attribute (thn (h pins s I) fun v s1 ⟨y, H1, I1, r1, q1⟩ => thn (q1 pins s1 I1) fun u s2 ⟨x, H2, I2, r2, a, C, ex, T, hno, ea, q⟩ => ?_) hs
  subst ex
  obtain rfl : u = Value.ref a := r2
  exact x_new T I2 ea hno r1 fun dx s' n ne J => ⟨σ, _, J, q dx n ne⟩
end
/-- what such an __init__ promises -/
def spX (C : Addr) (f : Str) : Sp := fun vs H Q _ => ∃ a y, vs = [.ref a, y] ∧ H a = some (exo a C none) ∧ ∀ dx, H dx = none → dx ≠ a → Q .non (upd (upd H dx (exd dx [(f, y)])) a (exo a C (some dx)))
section
variable {P : Program} {w : World} {mg : Str → Option Value} {base : Heap} {fa : List Fz} {fn : List DefZ} {d : DefZ} {self par f : Str} {C : Addr} {p1 p2 p3 pos : Pos}
theorem okx_of (c : SaysZ fa fn K) (i : Nat) (h : fn[i]? = some d) (S : FnScope [self, par] [self, par] (defScope d.st)) (hb : defBody d.st = [.Assign [.Attribute (.Name self p1) f p2] (.Name par p3) pos]) (h0 : slB [self, par] (defScope d.st) 0 self = true) (h1 : slB [self, par] (defScope d.st) 1 par = true)
    (hs : ∀ env : Env, swapsWith (.Name par p3) (some (.Attribute (.Name self p1) f p2)) pos.line { env with scope := defScope d.st } = pure false) (T : XcC K C) (hno : PySem.W.findIn K (.ref C) f = some none) : OkD q P w K mg base 1 d [self, par] (spX C f) := by
  obtain ⟨fd, F⟩ := c.def_ i h
  refine ⟨fd, F, okT F S (fun vs H Q E h => ?_) fun cdv A outer s H vs Q E hr h => ⟨_, pb, ?_⟩⟩
  · obtain ⟨a, y, rfl, _⟩ := h
    rfl
  · obtain ⟨a, y, rfl, ea, qq⟩ := h
    rw [hb]
    have Cc : Cz P w K mg base 0 (cxT q (L2.CX P w) P w K mg base [self, par] d.qual (defScope d.st) (d.at_.at K) cdv A outer s H E) [self, par] (defScope d.st) true q := ⟨rfl, rfl, rfl, rfl, rfl, rfl, rfl, hr, fun z => (by subst z; rfl), S.nd, fun _ _ => rfl, hr.units64, hr.gd, fun _ => ⟨rfl, rfl, rfl⟩⟩
    exact b_one (gs_x (swl_at Cc hs) (e_name (sl_at Cc 1 par h1) rfl (e_name (sl_at Cc 0 self h0) rfl ⟨a, C, rfl, T, hno, ea, qq⟩)))
end
/-! ### raise C(e) -/
section
variable {T : WX} {X : Cx} {x f : Str} {C fI : Addr} {k : Nat} {fd : FuncData} {ps : List Str} {e : Expr} {p pos pos' : Pos} {c : EM}
/-- C(e) -/
theorem mk_x {q : Bool} (Tc : XcC X.K C) (iC : PySem.W.findIn X.K (.ref C) "__init__" = some (some (.ref fI))) (tI : PySem.W.typeIn X.K (.ref fI) = some (.type "function")) (F1 : FnT q X.prog X.w X.K X.mg X.base (L2.CX X.prog X.w) k fI fd ps (spX C f)) (hn : ps.length = 2) (hr : RoomG q (k + 1) X.A) (hb : Binds X.K fd ps []) (hg : Gl X x) (hm : X.mg x = some (.ref C))
    (hdb : (x == ("__debug__" : Str)) = false) (he : starEach [e] X.env = (false, eval e X.env) :: starEach [] X.env) {σ : L2.St} {H : Hp} {Q : XK} (ha : Ga X [e] σ H fun vs H1 => ∃ y, vs = [y] ∧ ∀ dd H', H1 dd = none → Ex H1 H' → H' dd = some (.xd [(f, y)]) → Q (.ref C) (some dd) H') (pins : List (Addr × Obj)) (s : Shared) (I : Inv X pins σ H s) :
    wpAny (model X.prog X.w) X.A (eval (.Call (.Name x p) [e] [] pos) X.env) (MkP X pins σ Q) X.xe s := by
  obtain ⟨B, newId, initId, bmB, FB, SF, hin, hov⟩ := Tc.bs
  refine wpAny_Call_Name_kw (ld_glob I hg hm ?_ hdb)
  refine PySem.W.callWith_K (h₀ := X.base) I.ok.mod.kin Tc.kC (thn (ha pos pins s I) fun us s1 ⟨vs, H1, I1, r1, y, ey, q1⟩ => ⟨I1.kIn, ?_⟩) he (by rfl)
  subst ey
  show wpAny _ _ (call (.ref C) us) _ _ _
  obtain ⟨hp, g, dr, tk, os⟩ := s1
  obtain ⟨nm, N, qn, bs, bm, hdct, sn, sub, ab, col, dd0, k0, k1, k2, k3, k5, hC, hT⟩ := PySem.W.excInit_of I1.kIn hin
  have hsz : hp.objs.size ≤ hp.objs.size + 1 := Nat.le_succ _
  have hnew : H1 (hp.objs.size + 1) = none := I1.hok.fresh hsz
  have kk : ∀ b o, hp.get? b = some o → ((hp.push (PySem.W.kdv_tup us)).push (PySem.HandSPX.excO C hp.objs.size)).get? b = some o := fun b o z => Heap.get?_push_of_some _ (Heap.get?_push_of_some _ z)
  have hget : ((hp.push (PySem.W.kdv_tup us)).push (PySem.HandSPX.excO C hp.objs.size)).get? (hp.objs.size + 1) = some (PySem.HandSPX.excO C hp.objs.size) := by heap_get
  have I2 := I1.laid (t' := tk) (a := hp.objs.size + 1) (o := exo (hp.objs.size + 1) C none) kk hsz (exo_ok hget)
  have lus : us.length = 1 := by rw [← Paired.length r1]; rfl
  have r2 : Vals (V.ref (hp.objs.size + 1) :: [y]) (Value.ref (hp.objs.size + 1) :: us) := .cons rfl r1
  have sp : spX C f [.ref (hp.objs.size + 1), y] (upd H1 (hp.objs.size + 1) (exo (hp.objs.size + 1) C none)) (fun v H2 => v = .non ∧ ∃ (d : Addr) (fs : List (Str × V)), H2 (hp.objs.size + 1) = some (exo (hp.objs.size + 1) C (some d)) ∧ H2 d = some (exd d fs) ∧ H1 d = none ∧ Q (.ref C) (some d) (upd (del H2 (hp.objs.size + 1)) d (.xd fs))) (fun _ _ _ => False) := by
    refine ⟨_, _, rfl, upd_same, fun dx n ne => ⟨rfl, dx, _, upd_same, by rw [upd_ne ne, upd_same], by rw [upd_ne ne] at n; exact n, ?_⟩⟩
    have n1 : H1 dx = none := by rw [upd_ne ne] at n; exact n
    refine q1 dx _ n1 (fun b o z => ?_) upd_same
    have nb : b ≠ dx := fun w => by rw [w, n1] at z; cases z
    have nc : b ≠ hp.objs.size + 1 := fun w => by rw [w, hnew] at z; cases z
    rw [upd_ne nb, del_ne nc, upd_ne nc, upd_ne nb, upd_ne nc]
    exact z
  refine wpAny_call (PySem.HandSPX.call_own FB hT hC (PySem.W.looks_findIn I1.kIn iC) (fun self => PySem.W.bind_fn I1.kIn self tI) (by rw [lus]; decide)
    (codeAny_mono (F1.run _ X.stack _ _ ⟨Value.ref (hp.objs.size + 1) :: us, []⟩ (Value.ref (hp.objs.size + 1) :: us) _ _ (fun _ _ _ => False) (hr.make C us []) (I2.env0.make C us []) (by simpa only [List.append_nil] using hb _ (Value.ref (hp.objs.size + 1) :: us) I2.kIn (by rw [List.append_nil, List.length_cons, lus, hn])) r2 sp) fun r s' hq' => ?_))
  cases r with
  | error er => exact absurd hq' fun z => by obtain ⟨_, _, _, _, _, _, _, _, _, _, _, _, hE⟩ := z; exact hE
  | ok fl =>
    cases fl with
    | ret u =>
      obtain ⟨v, H2, os2, bare2, un2, hok2, rv, ev, d, fs, ea, ed, hd1, q2⟩ := hq'
      subst ev
      obtain ⟨h2, g2, d2, t2, os'⟩ := s'
      exact ⟨rv, mk_end (raises_own Tc.exC Tc.tyC) I1 hsz kk un2 hok2 os2 bare2 ea ed hd1 q2⟩
    | next => exact hq'.elim
    | brk => exact hq'.elim
    | cont => exact hq'.elim
/-- a class of exceptions with one field -/
structure XkM (X : Cx) (x f : Str) : Prop where
  ex : ∃ (q : Bool) (fI : Addr) (k : Nat) (fd : FuncData) (ps : List Str), PySem.W.findIn X.K (.ref (ga X.K x)) "__init__" = some (some (.ref fI)) ∧ PySem.W.typeIn X.K (.ref fI) = some (.type "function") ∧ FnT q X.prog X.w X.K X.mg X.base (L2.CX X.prog X.w) k fI fd ps (spX (ga X.K x) f) ∧ ps.length = 2 ∧ RoomG q (k + 1) X.A ∧ Binds X.K fd ps []
  c : XcC X.K (ga X.K x)
  g : Gl X x
  m : X.mg x = some (.ref (ga X.K x))
  db : (x == ("__debug__" : Str)) = false
def mRs1 (x f : Str) (c : EM) : SC := fun ε h => (c ε h).up ε fun d h1 => .ok (.rs x [f] [d] ε) h1
theorem ss_rs1 (hc : X.calm = true) (tk : Takes X T) (M : XkM X x f) (he : SE T X e c) (hst : starEach [e] X.env = (false, eval e X.env) :: starEach [] X.env) : SS T X (.Raise (some (.Call (.Name x p) [e] [] pos)) none pos') (mRs1 x f c) := by
  intro ε σ W h H E r o p'
  obtain ⟨_, fI, k, fd, ps, i1, i2, i3, i4, i5, i6⟩ := M.ex
  refine gs (ps_raise hc tk (t := fun σ H Q => ∀ pins s, Inv X pins σ H s → wpAny (model X.prog X.w) X.A (eval (.Call (.Name x p) [e] [] pos) X.env) (MkP X pins σ Q) X.xe s) fun pins s σ H Q I h => h pins s I) ?_
  refine mk_x M.c i1 i2 i3 i4 i5 i6 M.g M.m M.db hst (a_cons hst (he ε σ W h H _ r o (Post.mono (PostS.up p' o r) (Le.rfl' o.mN) fun d h1 W1 H1 l1 o1 p1 v hv => ?_)))
  refine a_nil ⟨v, rfl, fun dd H' n ex hd => ?_⟩
  obtain ⟨l2, o2⟩ := grow o1 ex
  exact p1 (some dd) σ W1 H' (l2.lg o1) o2 (r.le l1) (.inr ⟨dd, [v], rfl, n, hd, rfl, Rps.cons hv Rps.nil⟩)
/-- C(), of a class that has no __init__ of its own -/
def mRs0 (x : Str) : SC := fun ε h => .ok (.rs x [] [] ε) h
structure Xk0 (X : Cx) (x : Str) : Prop where
  ex : ∃ (B newId initId : String) (bmB : List Value), ExcBaseFacts B newId initId bmB ∧ PySem.W.excIn X.K (ga X.K x) bmB newId = true
  kC : PySem.W.keepIn X.K (.ref (ga X.K x)) = true
  r : Raises X (.ref (ga X.K x))
  g : Gl X x
  m : X.mg x = some (.ref (ga X.K x))
  db : (x == ("__debug__" : Str)) = false
theorem ss_rs0 (hc : X.calm = true) (tk : Takes X T) (M : Xk0 X x) (hst : starEach [] X.env = []) : SS T X (.Raise (some (.Call (.Name x p) [] [] pos)) none pos') (mRs0 x) := by
  intro ε σ W h H E r o p'
  obtain ⟨B, newId, initId, bmB, F, q⟩ := M.ex
  refine gs (ps_raise hc tk (t := fun σ H Q => Q (.ref (ga X.K x)) none H) fun pins s σ H Q I hq => ?_) (p' none σ W H (Lg.rfl' o) o r (.inl ⟨rfl, rfl, rfl⟩))
  refine wpAny_Call_Name_kw (ld_glob I M.g M.m ?_ M.db)
  rw [show backToKw pos (keywordEach [] X.env) = [] from rfl]
  refine PySem.W.callWith_K0 I.kIn M.kC ?_
  show wpAny _ _ (call (.ref _) []) _ _ _
  obtain ⟨bm, N, nm, qn, bs, hdct, sn, sub, ab, col, dd, k0, k1, k2, k3, k5, mN, hC, hN, hni, T⟩ := exc_obj I.kIn q
  refine wpAny_call_exc_subT F T hC hN hni (fun h' e hm => ?_) (by show 0 ≤ sizeLine; exact Nat.zero_le _)
  exact mk_of I hm M.r hq (I.hok.gone hm.new)
end
end Z
set_option Elab.async false
set_option linter.all false
set_option maxRecDepth 100000
set_option maxHeartbeats 4000000
namespace Z
open PySem PySem.Spec PyProof.Rows L2 G
variable {K : PySem.W.Frag} {F F' H H' : Hp} {m m' : List Addr}
/-! ### try: .. except .. -/
/-- no exception comes out -/
def unb (i : Nat) (r : R Fw) : R Fw := match r with
  | .ok (.nx ε) h => .ok (.nx (ε.set i .un)) h
  | .ok (.rt d) h => .ok (.rt d) h
  | .ok (.bk ε) h => .ok (.bk (ε.set i .un)) h
  | .ok (.ct ε) h => .ok (.ct (ε.set i .un)) h
  | _ => .no
def unq (r : R Fw) : R Fw := match r with
  | .ok (.rs _ _ _ _) _ => .no
  | r => r
abbrev HdC : Type := Str → List Str → List D → SC
def mTry (b : SC) (hd : HdC) : SC := fun ε h => match b ε h with
  | .ok (.rs c ns ds ε') h' => hd c ns ds ε' h'
  | r => r
/-- except t as the name of slot i: s -/
def mHdA (t : Str → Option Bool) (i : Nat) (s : SC) (rest : HdC) : HdC := fun c ns ds ε h => match t c with
  | some true => unb i (s (ε.set i (.pu (.exc c ns ds))) h)
  | some false => rest c ns ds ε h
  | none => .no
/-- except t: s -/
def mHd0 (t : Str → Option Bool) (s : SC) (rest : HdC) : HdC := fun c ns ds ε h => match t c with
  | some true => unq (s ε h)
  | some false => rest c ns ds ε h
  | none => .no
def mHdN : HdC := fun c ns ds ε h => .ok (.rs c ns ds ε) h
/-- what an except clause's test says of the class c -/
def TstE (X : Cx) (t : Expr) (c : Str) (b : Bool) : Prop := ∀ (a : Addr) (pn pins : List (Addr × Obj)) (σ : L2.St) (H : Hp) (s : Shared) (Q : Bool → Shared → Prop) (E : Value → Shared → Prop), Inv (X.suite a pn) pins σ H s → PySem.W.Looks (model X.prog X.w) s.heap (typeOf (.ref a)) (.ref (ga X.K c)) →
  (∀ h', (∀ q o, s.heap.get? q = some o → h'.get? q = some o) → Q b { s with heap := h' }) → wpAny (model X.prog X.w) (X.A.mark (some (.ref a))) (eval t X.env) (fun v s₁ => wpAny (model X.prog X.w) (X.A.mark (some (.ref a))) (excMatches (.ref a) v) Q E s₁) E s
inductive HsOk (X : Cx) : List ExceptHandler → HdC → Prop
  | nil : HsOk X [] mHdN
  | as {t : Expr} {tc : Str → Option Bool} {n : Str} {i : Nat} {b₀ : Stmt} {suite : List Stmt} {s : SC} {pos' : Pos} {hds : List ExceptHandler} {rest : HdC} (ht : ∀ c b, tc c = some b → TstE X t c b) (hi : X.N[i]? = some n) (hl : X.env.kindOf n = some .local)
      (hs : ∀ a pn, SB T0 (X.suite a pn) (b₀ :: suite) s) (r : HsOk X hds rest) : HsOk X (.ExceptHandler (some t) (some n) (b₀ :: suite) pos' :: hds) (mHdA tc i s rest)
  | no {t : Expr} {tc : Str → Option Bool} {b₀ : Stmt} {suite : List Stmt} {s : SC} {pos' : Pos} {hds : List ExceptHandler} {rest : HdC} (ht : ∀ c b, tc c = some b → TstE X t c b)
      (hs : ∀ a pn, SB T0 (X.suite a pn) (b₀ :: suite) s) (r : HsOk X hds rest) : HsOk X (.ExceptHandler (some t) none (b₀ :: suite) pos' :: hds) (mHd0 tc s rest)
/-! what is in the air stays there while the heap grows -/
theorem flying_ext {B : Heap} {l : List Env} {a : Addr} {Z : Obj → Prop} {h h' : Heap} (f : HandSPX.FlyingZ B l a Z h) (k : ∀ q o, h.get? q = some o → h'.get? q = some o) : HandSPX.FlyingZ B l a Z h' := by
  obtain ⟨f1, f2, f3, oe, vs, Tn, oT, ts, t1, t2, t3, t4, t5, t6, t7, t8, t9⟩ := f
  exact ⟨fun b o z => k b o (f1 b o z), f2, f3.of_keeps fun b o z _ => ⟨o, k b o z, rfl⟩, oe, vs, Tn, oT, ts, k _ _ t1, t2, t3, t4, t5, t6, k _ _ t7, t8, t9⟩
/-! a caught exception is tracked -/
section
variable {X : Cx} {pins : List (Addr × Obj)} {σ : L2.St} {s : Shared} {a C : Addr} {d : Option Addr}
theorem xo_ok {P : Program} {w : World} {H' : Hp} {h : Heap} {oe : Obj} {vs : Array Value} (ha : h.get? a = some oe) (z : Zc (.ref C) d oe) (dv : oe.data = .fields vs) : ObjOk P w H' h a (xo C d a) :=
  ⟨⟨oe, vs, ha, z.1, z.2, dv⟩, ⟨oe, ha⟩, fun h1 h2 q k => let ⟨o1, v1, q1, q2⟩ := q; ⟨o1, v1, k _ q1, q2⟩⟩
theorem Inv.trackX (I : Inv X pins σ H s) {oe : Obj} {vs : Array Value} (ha : s.heap.get? a = some oe) (z : Zc (.ref C) d oe) (dv : oe.data = .fields vs) (na : H a = none) (nL : a ≠ X.env.locals) (n0 : X.s_0.heap.get? a = none) (np : ∀ p ∈ X.pn ++ pins, p.1 ≠ a) : Inv X pins σ (upd H a (xo C d a)) s := by
  have ne : ∀ {b : Addr} {o : HO}, H b = some o → b ≠ a := fun {b o} q e => by rw [e, na] at q; cases q
  have n1 : ∀ {b : Addr} {o : Obj}, X.s_0.heap.get? b = some o → b ≠ a := fun {b o} q e => by rw [e, n0] at q; cases q
  refine ⟨I.ok, I.os, I.bare, ⟨I.base.keep, I.base.slot, fun b o e n hx => ?_, I.base.there, fun b xs e => ?_, fun b o u e => ?_, fun b ps e => ?_⟩, I.loc, I.cell, ?_, fun x c e => ?_, fun p hp => ?_, HOk.laidN (h := s.heap) I.hok (fun _ _ q => q) na (xo_ok ha z dv), I.len⟩
  · rw [upd_ne (n1 e)]; exact I.base.free b o e n hx
  · have q := I.base.tups b xs e
    rw [upd_ne (ne q)]; exact q
  · have q := I.base.frzs b o u e
    rw [upd_ne (ne q)]; exact q
  · obtain ⟨more, q⟩ := I.base.tbls b ps e
    exact ⟨more, by rw [upd_ne (ne q)]; exact q⟩
  · rw [upd_ne (Ne.symm nL)]; exact I.free
  · obtain ⟨v, o, q1, q2⟩ := I.cell x c e
    have : c ≠ a := fun w => by rw [w, ha] at q1; cases q1; rw [dv] at q2; cases q2
    rw [upd_ne this]; exact I.freeC x c e
  · obtain ⟨q1, q2, q3⟩ := I.pin p hp
    exact ⟨q1, by rw [upd_ne (np p hp)]; exact q2, q3⟩
theorem Inv.intoSuite {a : Addr} (I : Inv X pins σ H s) : Inv (X.suite a (X.pn ++ pins)) [] σ H s :=
  ⟨I.ok.suite _ _, I.os, I.bare, I.base, I.loc, I.cell, I.free, I.freeC, fun p hp => I.pin p (by simpa using hp), I.hok, I.len⟩
theorem Inv.outSuite {a : Addr} {pn' : List (Addr × Obj)} (I : Inv (X.suite a (X.pn ++ pins)) pn' σ H s) (ok : X.Ok) : Inv X pins σ H s :=
  ⟨ok, I.os, I.bare, I.base, I.loc, I.cell, I.free, I.freeC, fun p hp => I.pin p (List.mem_append_left _ hp), I.hok, I.len⟩
end
/-- what a name owns is a list, a dict or an object that is made -/
theorem Rel.kinds {F : Hp} {m : List Addr} {σ : L2.St} {ε : Ev} {O : List (Option (Addr × HO))} (r : Rel K F m σ ε O) {i : Nat} {p : Addr} {o : HO} (h : O[i]? = some (some (p, o))) : (∃ vs, o = .lst vs) ∨ (∃ kv, o = .dK kv) ∨ ∃ C dx gs, o = .ins C dx gs := by
  have hi := (List.getElem?_eq_some_iff.mp h).1
  have h1 : σ[i]? = some (σ[i]'(by rw [r.l1, ← r.l2]; exact hi)) := List.getElem?_eq_getElem _
  have h2 : ε[i]? = some (ε[i]'(by rw [← r.l2]; exact hi)) := List.getElem?_eq_getElem _
  have k := r.at_ i _ _ _ h1 h2 h
  generalize ε[i]'(by rw [← r.l2]; exact hi) = x at k
  cases x with
  | un => cases k
  | pu d => cases k.1
  | ol ds => obtain ⟨_, vs, _, e, _⟩ := k; cases e; exact .inl ⟨vs, rfl⟩
  | od ks ds => obtain ⟨_, vs, _, e, _⟩ := k; cases e; exact .inr (.inl ⟨_, rfl⟩)
  | oo c ns ds => obtain ⟨_, dx, vs, _, e, _⟩ := k; cases e; exact .inr (.inr ⟨_, _, _, rfl⟩)
/-- a caught exception becomes a value -/
theorem exc_lay {W : Wd} {h : Store} {σ : L2.St} {ε : Ev} {c : Str} {ns : List Str} {ds : List D} {d : Option Addr} {a : Addr} (ok : WOk K W h H) (r : Rel K W.F W.m σ ε W.O) {H0 : Hp} (x : ExAt K W.F W.m H0 H ns ds d) (na : H a = none) :
    ∃ W', (∀ W0, Lg W0 H0 W H → Lg W0 H0 W' (upd H a (xo (ga K c) d a))) ∧ WOk K W' h (upd H a (xo (ga K c) d a)) ∧ Rel K W'.F W'.m σ ε W'.O ∧ Rp K W'.F W'.m (.exc c ns ds) (.ref a) := by
  rcases x with ⟨rfl, rfl, rfl⟩ | ⟨dd, vs, rfl, hd0, hd, hl, rv⟩
  · obtain ⟨l, o⟩ := lay ok na (Ex.new na) (upd_same (o := xo (ga K c) none a))
    exact ⟨_, fun W0 l0 => l0.tr (l.lg ok), o, r.le l, by unfold Rp; exact ⟨a, none, [], rfl, upd_same, rfl, Rps.nil, .inl ⟨rfl, rfl⟩⟩⟩
  · have key : ∃ W1 : Wd, WOk K W1 h H ∧ Ex W.F W1.F ∧ W1.m = W.m ∧ W1.O = W.O ∧ W1.F dd = some (.xd (ns.zip vs)) ∧ ∀ b o, W1.F b = some o → W.F b = some o ∨ b = dd := by
      cases q : W.F dd with
      | some u =>
        have e := ok.sub _ _ q
        rw [hd] at e
        cases e
        exact ⟨W, ok, Ex.rfl', rfl, rfl, q, fun b o z => .inl z⟩
      | none =>
        have hm : dd ∉ W.m := fun hm => by
          obtain ⟨i, hi, e⟩ := List.getElem_of_mem hm
          have e1 : W.m[i]? = some dd := by rw [List.getElem?_eq_getElem hi, e]
          have hi2 : i < h.length := by rw [← ok.len]; exact hi
          have z := ok.cel i dd _ e1 (List.getElem?_eq_getElem hi2)
          generalize h[i] = cc at z
          cases cc with
          | lst ds => obtain ⟨_, z, _⟩ := z; rw [hd] at z; cases z
          | obj c ns ds => obtain ⟨_, _, z, _⟩ := z; rw [hd] at z; cases z
          | dic ks ds => obtain ⟨_, z, _⟩ := z; rw [hd] at z; cases z
          | tab x q2 => obtain ⟨_, _, z, _⟩ := z; rw [hd] at z; cases z
        have ho : ∀ (i : Nat) u, W.O[i]? ≠ some (some (dd, u)) := fun i u e => by
          have z := (ok.own i dd u e).1
          rw [hd] at z
          cases z
          rcases r.kinds e with ⟨_, z⟩ | ⟨_, z⟩ | ⟨_, _, _, z⟩ <;> cases z
        obtain ⟨o1, ex⟩ := freeze ok hd q hm ho
        refine ⟨_, o1, ex, rfl, rfl, upd_same, fun b o z => ?_⟩
        by_cases hb : b = dd
        · exact .inr hb
        · replace z : upd W.F dd _ b = some o := z
          rw [upd_ne hb] at z
          exact .inl z
    obtain ⟨W1, o1, ex, em, eO, hF, hnew⟩ := key
    obtain ⟨l, o2⟩ := lay o1 na (Ex.new na) (upd_same (o := xo (ga K c) (some dd) a))
    have r1 : Rel K W1.F W1.m σ ε W1.O := by rw [em, eO]; exact r.mono ex ⟨[], by simp⟩
    refine ⟨_, fun W0 l0 => ?_, o2, r1.le l, ?_⟩
    · have lg1 : Lg W0 H0 W1 H := ⟨l0.F.tr ex, l0.frm, fun b o z => by
        rcases hnew b o z with z' | rfl
        · exact l0.new b o z'
        · exact .inr (.inl hd0), by rw [em]; exact l0.m, by rw [eO]; exact l0.own, l0.cel, l0.kep, by rw [eO]; exact l0.ins⟩
      exact lg1.tr (l.lg o1)
    · unfold Rp
      refine ⟨a, some dd, vs, rfl, upd_same, hl, Rps.mono (ex.tr l.F) ⟨[], by simp [em]⟩ ds rv, .inr ⟨dd, rfl, ?_⟩⟩
      exact l.F _ _ hF
theorem PostS.unb {T : WX} {W : Wd} {h : Store} {i : Nat} {r : R Fw} {E : Ends} (p : PostS K T W H (unb i r) E) : PostS K T0 W H r { nx := fun σ' H' => E.nx (σ'.set i none) H', rt := E.rt, bk := fun σ' H' => E.bk (σ'.set i none) H', ct := fun σ' H' => E.ct (σ'.set i none) H' } := by
  have st : ∀ {σ' : L2.St} {ε : Ev} {W' : Wd} {H' : Hp} {h' : Store}, WOk K W' h' H' → Rel K W'.F W'.m σ' ε W'.O → Rel K W'.F W'.m (σ'.set i none) (ε.set i .un) (W'.O.set i none) := fun {σ' ε W' H' h'} o r => r.set (show SR _ _ _ none .un none from rfl)
  cases r with
  | ex c ns ds h' => exact p
  | no => exact p
  | ok f h' =>
    cases f with
    | nx ε => exact fun σ' W' H' l o r => p _ ⟨W'.F, W'.m, W'.O.set i none⟩ H' (l.tr (Lg.drop o i)) (o.drop i) (st o r)
    | rt d => exact p
    | bk ε => exact fun σ' W' H' l o r => p _ ⟨W'.F, W'.m, W'.O.set i none⟩ H' (l.tr (Lg.drop o i)) (o.drop i) (st o r)
    | ct ε => exact fun σ' W' H' l o r => p _ ⟨W'.F, W'.m, W'.O.set i none⟩ H' (l.tr (Lg.drop o i)) (o.drop i) (st o r)
    | rs c ns ds ε => exact p.elim
theorem PostS.unq {T : WX} {W : Wd} {r : R Fw} {E : Ends} (p : PostS K T W H (unq r) E) : PostS K T0 W H r E := by
  cases r with
  | ex c ns ds h' => exact p
  | no => exact p
  | ok f h' =>
    cases f with
    | rs c ns ds ε => exact p.elim
    | _ => exact p
section
variable {X : Cx} {T : WX} {body : List Stmt} {h₀ : ExceptHandler} {hds : List ExceptHandler} {cB : SC} {cH : HdC} {pos : Pos}
theorem ss_try (hx : X.ex = []) (hs : X.stack = X.env :: X.outer) (hf : X.env.frame = some X.env.locals) (hN : X.N.Nodup) (tk : Takes X T) (hb : ∀ (T' : WX) (pn : List (Addr × Obj)) (xe : Value → Shared → Prop), Takes (X.tr pn xe) T' → PassesOwn (model X.prog X.w) X.A X.env xe → SB T' (X.tr pn xe) body cB)
    (hh : HsOk X (h₀ :: hds) cH) : SS T X (.Try body (h₀ :: hds) [] [] pos) (mTry cB cH) := by
  intro ε σ W h H E r o p pins s I
  have ok := I.ok
  have hfr : X.A.frames = some (X.env :: X.outer) := by rw [ok.frames, hs]
  have wish : PostS X.K (fun cls d σ' H' => ∃ c ns ds ε' h' W', cls = .ref (ga X.K c) ∧ Lg W H W' H' ∧ WOk X.K W' h' H' ∧ Rel X.K W'.F W'.m σ' ε' W'.O ∧ ExAt X.K W'.F W'.m H H' ns ds d ∧ PostS X.K T W H (cH c ns ds ε' h') E) W H (cB ε h) E := by
    unfold mTry at p
    generalize cB ε h = res at p ⊢
    cases res with
    | ex c ns ds h' => exact p
    | no => exact p
    | ok f h' =>
      cases f with
      | rs c ns ds ε' => exact fun dx σ' W' H' l o r x => ⟨c, ns, ds, ε', h', W', rfl, l, o, r, x, p⟩
      | _ => exact p
  refine wpAny_Try_except ?_
  refine wpAny_mono ((hb _ (X.pn ++ pins) (fun e s₁ => wpAny (model X.prog X.w) X.A (noteFrame e X.env) (fun _ s₂ => wpAny (model X.prog X.w) X.A (setFlight e none) (fun _ s₃ => wpAny (model X.prog X.w) X.A (handleBy e X.env (h₀ :: hds)) (SP X pins E) X.xe s₃) X.xe s₂) X.xe s₁)
    (fun u s' xx => ?_) PassesOwn.looking) ε σ W h H E r o wish [] s (I.toTry _)) (fun f s1 hfl => ?_) (fun e s1 he => he)
  · obtain ⟨a, B, sI, pins', σ', H', cls, d, rfl, J', nb, up, sky, na, os, ag, c, ns, ds, ε', h', W', rfl, l', o', r', x', q⟩ := xx
    have J : Inv X pins σ' H' sI := J'.ofTry ok
    have sky' : Sky B (X.env :: X.outer) a (Zc (.ref (ga X.K c)) d) X.env.locals s'.heap := by rw [← hs]; exact sky
    show wpAny (model X.prog X.w) X.A (noteFrame (.ref a) X.env) _ _ _
    refine Sky.land Zc.steady hfr hf sky' fun h3 fl3 up3 => ?_
    have go : ∀ {hds' : List ExceptHandler} {cH' : HdC}, HsOk X hds' cH' → PostS X.K T W H (cH' c ns ds ε' h') E → ∀ h4 : Heap, HandSPX.FlyingZ B (X.env :: X.outer) a (Zc (.ref (ga X.K c)) d) h4 → s'.heap.UpToSlots h4 →
        wpAny (model X.prog X.w) X.A (handleBy (.ref a) X.env hds') (SP X pins E) X.xe { s' with heap := h4 } := by
      intro hds' cH' hk
      -- what holds at any such heap
      have atH : ∀ h4 : Heap, HandSPX.FlyingZ B (X.env :: X.outer) a (Zc (.ref (ga X.K c)) d) h4 → s'.heap.UpToSlots h4 → ∃ oe vs, h4.get? a = some oe ∧ oe.cls = .ref (ga X.K c) ∧ Inv (X.suite a (X.pn ++ pins)) [] σ' (upd H' a (xo (ga X.K c) d a)) { s' with heap := h4 } ∧ oe.data = .fields vs := by
        intro h4 fl4 up4
        have J4 : Inv X pins σ' H' { s' with heap := h4 } := J.landed nb fl4.1 (up.trans up4) os ag
        obtain ⟨oe, vs, he, hz, hd⟩ := fl4.there
        have notFr : a ∉ frs (X.env :: X.outer) := fun hm => by
          obtain ⟨_, o', e', hnf⟩ := fl4.2.2.1.mem hm
          rw [he] at e'; cases e'
          exact hnf _ hd
        have nL : a ≠ X.env.locals := fun z => notFr (List.mem_filterMap.mpr ⟨X.env, List.mem_cons_self, by rw [hf, z]⟩)
        have nI : sI.heap.get? a = none := by
          cases z : sI.heap.get? a with
          | none => rfl
          | some o =>
            have := nb a o z (by rw [hs]; exact notFr)
            rw [fl4.2.1] at this; cases this
        have n0 : X.s_0.heap.get? a = none := by
          cases z : X.s_0.heap.get? a with
          | none => rfl
          | some o =>
            obtain ⟨o', e'⟩ := J.base.there a o z (by rw [hx]; simp)
            rw [nI] at e'; cases e'
        have np : ∀ p ∈ X.pn ++ pins, p.1 ≠ a := fun p hp e => by
          have := (J.pin p hp).1
          rw [e, nI] at this; cases this
        exact ⟨oe, vs, he, hz.1, Inv.intoSuite (Inv.trackX J4 he hz hd na nL n0 np), hd⟩
      induction hk with
      | nil =>
        intro q h4 fl4 up4
        refine wpAny_handleBy_nil ?_
        obtain ⟨k1, k2, k3, oe, vs, T1, oT, ts', he, hz, hd, h1, hr⟩ := id fl4
        unfold PySem.passOn
        refine wpAny_bind (wpAny_field he hd h1 ?_)
        rw [if_neg (show ¬ ((Value.ref T1 == Value.none) = true) from by simp)]
        have fin : wpAny (model X.prog X.w) X.A (setFlight (.ref a) X.env.frame) (fun _ s4 => wpAny (model X.prog X.w) X.A (throw (.ref a) : Sem Flow) (SP X pins E) X.xe s4) X.xe { s' with heap := h4 } := by
          rw [hf]
          refine HandSPX.setFlight_upZ fl4 fun h5 hh5 up5 => wpAny_throw (tk _ _ ?_)
          exact ⟨a, B, sI, pins, σ', H', _, d, rfl, J, nb, (up.trans up4).trans up5, .inr (.inr (by rw [hs]; exact hh5)), na, os, ag, q d σ' W' H' l' o' r' x'⟩
        first
          | exact wpAny_bind (wpAny_pure (wpAny_bind fin))
          | exact wpAny_bind fin
      | @as t tc n i b₀ suite s2 pos' hds2 rest ht hi hl hsu _ ih =>
        intro q h4 fl4 up4
        unfold mHdA at q
        cases hb1 : tc c with
        | none => rw [hb1] at q; exact q.elim
        | some b =>
          rw [hb1] at q
          obtain ⟨oe, vs, he, hz, S4, hdv⟩ := atH h4 fl4 up4
          refine wpAny_handleBy_cons (codeAny_handlers_test ?_) (by intro z; cases z)
          have LT : PySem.W.Looks (model X.prog X.w) h4 (typeOf (.ref a)) (.ref (ga X.K c)) := fun A Q E s k q => wpAny_typeOf_ref (k _ _ he) (by rw [hz]; exact q)
          refine ht c b hb1 a _ _ _ _ _ _ _ S4 LT fun h5 k5 => ?_
          have fl5 := flying_ext fl4 k5
          have up5 := up4.trans (Heap.UpToSlots.of_keeps k5)
          cases b with
          | false => exact ih q h5 fl5 up5
          | true =>
            refine codeAny_handlers_suite_as ?_
            refine HandSPX.lands_againZ fl5 fun hpv flv upv => ?_
            obtain ⟨oev, vsv, hev, hzv, Sv, _⟩ := atH hpv flv (up5.trans upv)
            obtain ⟨W2, lg2, o2, r2, rp2⟩ := exc_lay o' r' x' na
            refine store_ok (X := X.suite a (X.pn ++ pins)) (v := .ref a) Sv hN hi (.inl hl) rfl (fun s5 S5 => ?_) (.inr hl)
            refine wpAny_mono (hsu a (X.pn ++ pins) (ε'.set i (.pu (.exc c ns ds))) (σ'.set i (some (.ref a))) ⟨W2.F, W2.m, W2.O.set i none⟩ h' _ { nx := fun σ' H' => E.nx (σ'.set i none) H', rt := E.rt, bk := fun σ' H' => E.bk (σ'.set i none) H', ct := fun σ' H' => E.ct (σ'.set i none) H' }
              (r2.set (show SR _ _ _ _ (.pu _) none from ⟨rfl, _, rfl, rp2⟩)) (o2.drop i) (PostS.unb (h := h') (PostS.lg q ((lg2 W l').tr (Lg.drop o2 i)))) [] s5 S5) (fun f sv hfl => ?_) (fun _ _ z => False.elim z)
            have gone : ∀ {σv : L2.St} {Hv : Hp} {sv : Shared} {Q : Shared → Prop}, Inv (X.suite a (X.pn ++ pins)) [] σv Hv sv → (∀ sw, Inv X pins (σv.set i none) Hv sw → Q sw) →
                wpAny (model X.prog X.w) X.A (do bindName X.env n .none; unbindBehindTheSuite X.env n pos') (fun _ sw => Q sw) X.xe sv := fun {σv Hv sv Q} Sv hq => gone_ok (Inv.outSuite Sv ok) hN hi hl hq
            cases f with
            | next =>
              obtain ⟨σv, Hv, Sv, qv⟩ := hfl
              exact gone Sv fun sw Jw => ⟨_, _, Jw, qv⟩
            | brk =>
              obtain ⟨σv, Hv, Sv, qv⟩ := hfl
              exact gone Sv fun sw Jw => ⟨_, _, Jw, qv⟩
            | cont =>
              obtain ⟨σv, Hv, Sv, qv⟩ := hfl
              exact gone Sv fun sw Jw => ⟨_, _, Jw, qv⟩
            | ret u =>
              obtain ⟨vv, σv, Hv, Sv, rv6, qv⟩ := hfl
              exact gone Sv fun sw Jw => ⟨_, _, _, Jw, rv6, qv⟩
      | @no t tc b₀ suite s2 pos' hds2 rest ht hsu _ ih =>
        intro q h4 fl4 up4
        unfold mHd0 at q
        cases hb1 : tc c with
        | none => rw [hb1] at q; exact q.elim
        | some b =>
          rw [hb1] at q
          obtain ⟨oe, vs, he, hz, S4, hdv⟩ := atH h4 fl4 up4
          refine wpAny_handleBy_cons (codeAny_handlers_test ?_) (by intro z; cases z)
          have LT : PySem.W.Looks (model X.prog X.w) h4 (typeOf (.ref a)) (.ref (ga X.K c)) := fun A Q E s k q => wpAny_typeOf_ref (k _ _ he) (by rw [hz]; exact q)
          refine ht c b hb1 a _ _ _ _ _ _ _ S4 LT fun h5 k5 => ?_
          have fl5 := flying_ext fl4 k5
          have up5 := up4.trans (Heap.UpToSlots.of_keeps k5)
          cases b with
          | false => exact ih q h5 fl5 up5
          | true =>
            refine codeAny_handlers_suite ?_
            refine HandSPX.lands_againZ fl5 fun hpv flv upv => ?_
            obtain ⟨oev, vsv, hev, hzv, Sv, _⟩ := atH hpv flv (up5.trans upv)
            obtain ⟨W2, lg2, o2, r2, rp2⟩ := exc_lay o' r' x' na
            refine wpAny_mono (hsu a (X.pn ++ pins) ε' σ' W2 h' _ E r2 o2 (PostS.unq (PostS.lg q (lg2 W l'))) [] _ Sv) (fun f sv hfl => ?_) (fun _ _ z => False.elim z)
            cases f with
            | next =>
              obtain ⟨σv, Hv, Sv, qv⟩ := hfl
              exact ⟨_, _, Inv.outSuite Sv ok, qv⟩
            | brk =>
              obtain ⟨σv, Hv, Sv, qv⟩ := hfl
              exact ⟨_, _, Inv.outSuite Sv ok, qv⟩
            | cont =>
              obtain ⟨σv, Hv, Sv, qv⟩ := hfl
              exact ⟨_, _, Inv.outSuite Sv ok, qv⟩
            | ret u =>
              obtain ⟨vv, σv, Hv, Sv, rv6, qv⟩ := hfl
              exact ⟨_, _, _, Inv.outSuite Sv ok, rv6, qv⟩
    exact go hh q h3 fl3 up3
  · cases f with
    | next =>
      obtain ⟨σ', H', J', q⟩ := hfl
      exact wpAny_execs_nil ⟨σ', H', J'.ofTry ok, q⟩
    | brk =>
      obtain ⟨σ', H', J', q⟩ := hfl
      exact ⟨σ', H', J'.ofTry ok, q⟩
    | cont =>
      obtain ⟨σ', H', J', q⟩ := hfl
      exact ⟨σ', H', J'.ofTry ok, q⟩
    | ret u =>
      obtain ⟨v, σ', H', J', r, q⟩ := hfl
      exact ⟨v, σ', H', J'.ofTry ok, r, q⟩
end
end Z
set_option Elab.async false
set_option linter.all false
set_option maxRecDepth 100000
set_option maxHeartbeats 4000000
namespace Z
open PySem PySem.Spec PyProof.Rows L2 G
variable {K : PySem.W.Frag} {F F' H H' : Hp} {m m' : List Addr}
/-! ### exceptions as values -/
/-- what a class of exceptions says of its instances -/
structure XvC (K : PySem.W.Frag) (C : Addr) : Prop where
  gA : PySem.W.findIn K (.ref C) "__getattribute__" = some (some (.builtin "BaseException.__getattribute__"))
  gN : PySem.W.findIn K (.ref C) "__getattr__" = some none
  sB : PySem.W.subIn K (.ref C) (.type "BaseException") = some true
  hD : PySem.W.hasDictIn K C = true
  cA : PySem.W.findIn K (.ref C) "__class__" = some (some (.builtin "object.__class__"))
  cG : PySem.W.specialIn K (.builtin "object.__class__") "__get__" = some (some (.builtin "getset_descriptor.__get__"))
  cT : PySem.W.takesIn K (.builtin "object.__class__") = some true
  mO : PySem.W.mroIn K C (.type "object") = some true
theorem XvC.cls {K : PySem.W.Frag} {C : Addr} (T : XvC K C) : ∃ cd, PySem.W.clsIn K C = some cd := let ⟨cd, h, _⟩ := any_of (show (PySem.W.clsIn K C).any (·.hasDict) = true from T.hD); ⟨cd, h⟩
section
open PySem.W
variable {K : Frag} {prog : Program} {w : World} {A : Around} {E : Value → Shared → Prop} {s : Shared} {x C : Addr} {ox : Obj} {od : Option Obj}
theorem xv_class {Q : Option Value → Shared → Prop} (T : XvC K C) (X : K.In s.heap) (I : InstAt s.heap x ox C od) (q : Q (some (.ref C)) { s with toks := s.toks + 1 }) : wpAny (model prog w) A (getAttr? (.ref x) "__class__") Q E s := by
  obtain ⟨cd, hcd⟩ := T.cls
  have fo : findObj K C od "__class__" = some (.bind (.builtin "getset_descriptor.__get__") (.builtin "object.__class__")) := by
    unfold findObj
    rw [hcd, Option.bind_some, T.cA, Option.bind_some]
    simp [T.cG, T.cT]
  obtain ⟨p, g, dw, tk, os⟩ := s
  have k0 := I.type (M := model prog w)
  have k1 := looks_findIn (M := model prog w) X T.gA
  have k2 := looks_findIn (M := model prog w) X T.gN
  have k3 := looks_find (M := model prog w) X I fo
  have sb : Looks (model prog w) p (isInstance (.ref x) (.type "BaseException")) true := k0.andThen (looks_subIn X T.sB)
  have e2 : (Value.builtin "BaseException.__getattribute__" == Value.builtin "object.__getattribute__") = false := by decide +kernel
  have e1 : (onTheHeap (Value.ref C) && Value.builtin "BaseException.__getattribute__" == Value.builtin "object.__getattribute__") = false := by rw [e2] <;> rfl
  unfold getAttr? getAttrBy? getAttrBy
  refine wpAny_bind (wpAny_mkText (wpAny_bind (wpAny_attempt (wpAny_holding (wpAny_bind (k0.at (wpAny_bind (k1.at ?_))))))))
  show wpAny _ _ (if (onTheHeap (Value.ref C) && Value.builtin "BaseException.__getattribute__" == Value.builtin "object.__getattribute__") = true then _ else _) _ _ _
  rw [e1, if_neg Bool.false_ne_true]
  unfold getAttrByItsOwn hookBefore
  refine wpAny_bind ?_
  rw [if_pos (show onTheHeap (Value.ref C) = true from rfl)]
  refine k2.at ?_
  refine wpAny_bind (wpAny_attempt (wpAny_holding ?_))
  unfold callGetattribute
  rw [show (false && onTheHeap (Value.builtin "BaseException.__getattribute__")) = false from rfl, if_neg Bool.false_ne_true]
  unfold boundAndCalled
  rw [PySem.F.excAttr_ValueError.ga.bind (.ref x)]
  refine wpAny_bind (wpAny_pure ?_)
  show wpAny _ _ (call (.builtin "BaseException.__getattribute__") [.ref x, .str "__class__" tk]) _ _ _
  refine wpAny_call (codeAny_call_builtin PySem.F.excAttr_ValueError.ga.plain PySem.F.entry_bexc_ga ?_)
  refine @check_slot (model prog w) _ _ ⟨p, g, dw, tk + 1, os⟩ "BaseException.__getattribute__" "BaseException" "__getattribute__" (.ref x) [.str "__class__" tk] [] _ (by decide +kernel) (by decide +kernel) sb (PySem.F.args_bexc_ga (.ref x) (.str "__class__" tk)) ?_
  unfold Builtin.«object.__getattribute__»
  refine wpAny_bind (wpAny_of_eq (a := ((Value.ref x : Value), [Value.str "__class__" tk])) (by first | rfl | (simp only [slotArgs] <;> rfl)) ?_)
  refine wpAny_bind (wpAny_pure (wpAny_bind (k0.at (wpAny_bind (k3.at ?_)))))
  show wpAny _ _ (holding [Value.builtin "object.__class__"] (call (.builtin "getset_descriptor.__get__") [.builtin "object.__class__", .ref x, .ref C]) >>= ret) _ _ _
  refine wpAny_bind (wpAny_holding (wpAny_call (class_get (s := ⟨p, g, dw, tk + 1, os⟩) (ox := ox) (od := od) X I T.mO ?_)))
  refine wpAny_pure ?_
  show wpAny _ _ (handedOut (.ref C)) _ _ _
  rw [handedOut_of (v := .ref C) rfl]
  first
    | exact wpAny_pure (wpAny_pure q)
    | exact wpAny_pure q
    | exact wpAny_pure (wpAny_bind (wpAny_pure (wpAny_pure q)))
theorem xv_kit (T : XvC K C) : KitX K (.ref x) (.ref C) (fun h => InstAt h x ox C od) := by
  obtain ⟨cd, hcd⟩ := T.cls
  have at_ : ∃ c dd sl, K.lookup C = some ⟨c, dd, .cls cd, sl⟩ := by
    unfold clsIn at hcd
    split at hcd
    · rename_i c dd cd' sl ho
      cases hcd
      exact ⟨c, dd, sl, ho⟩
    · cases hcd
  obtain ⟨cc, dd, sl, hC⟩ := at_
  exact {
    ty := fun _ _ _ I => I.type
    it := fun _ _ X _ A' Q' E' s' k q => by
      unfold isType loadHead
      exact wpAny_bind (wpAny_loadPart (k _ _ (X _ _ hC)) (wpAny_pure q))
    ne := fun h tp d2 its n sl2 X htp => by
      refine Bool.eq_false_iff.mpr fun q => ?_
      obtain rfl : C = tp := Value.ref.inj (beq_iff_eq.mp q)
      have z := (X _ _ hC).symm.trans htp
      cases z
    ca := fun X I k => xv_class T X I k }
end
/-- an exception's object, as the state shows it -/
theorem Rb.exc {X : Cx} {W : Wd} {h : Store} {c : Str} {ns : List Str} {ds : List D} {v : V} {pins : List (Addr × Obj)} {σ : L2.St} {s : Shared} (r : Rb X W H (.exc c ns ds) v) (ok : WOk X.K W h H) (I : Inv X pins σ H s) :
    ∃ a oe od, v = .ref a ∧ PySem.W.InstAt s.heap a oe (ga X.K c) od ∧ (∀ f d, lookD ns ds f = some d → ∃ (dd : Addr) (o : Obj) (u : Value) (y : V), od = some o ∧ PySem.W.lookIn f o = some (some u) ∧ RelV y u ∧ Rp X.K W.F W.m d y) := by
  have r' := r.rp (fun ds e => by cases e) (fun ks ds e => by cases e)
  unfold Rp at r'
  obtain ⟨a, dx, vs, rfl, ha, hl, rv, hd⟩ := r'
  obtain ⟨⟨oe, fv, he, hc, hdx, hdv⟩, _⟩ := (show ObjOk X.prog X.w H s.heap a (xo (ga X.K c) dx a) from I.hok a _ (ok.sub _ _ ha))
  have no : PySem.W.notCls oe = true := by unfold PySem.W.notCls; rw [hdv] <;> rfl
  rcases hd with ⟨rfl, rfl⟩ | ⟨dd, rfl, hF⟩
  · exact ⟨a, oe, none, rfl, ⟨he, hc, no, by rw [hdx]; trivial⟩, fun f d e => by unfold lookD at e; cases e⟩
  · obtain ⟨mA, hns, hr⟩ := (show ObjOk X.prog X.w H s.heap dd (.xd (ns.zip vs)) from I.hok dd _ (ok.sub _ _ hF))
    obtain ⟨od, ho, hlk⟩ := lookIn_ns hns
    refine ⟨a, oe, some od, rfl, ⟨he, hc, no, by rw [hdx]; exact ho⟩, fun f d e => ?_⟩
    obtain ⟨y, e1, e2⟩ := lookD_ok rv hl e
    obtain ⟨u, hu, ru⟩ := RelO.some_of (v := y) (o := mA f) (by rw [← e1]; exact hr f)
    exact ⟨dd, od, u, y, rfl, by rw [hlk, hu], ru, e2⟩
/-- isinstance of an exception (by te), of anything else (by t) -/
def bIsx (te t : List (TK × TK × Bool)) (ds : List D) : M D := fun h => match ds with
  | [.exc c _ _, y] => (match tkC y with
    | some u => (match lookT te (.c c) u with
      | some b => .ok (.bl b) h
      | none => .no)
    | none => .no)
  | ds => bIsi t ds h
section
variable {T : WX} {X : Cx} {o : Expr} {c : EM} {pos : Pos} {f : Str}
theorem isx_ok {te t : List (TK × TK × Bool)} (ht : ∀ k u b, (k, u, b) ∈ te → PySem.W.kitOne X.K (k.v X.K) (u.v X.K) = some b) (hc : ∀ (c : Str) (u : TK) b, (TK.c c, u, b) ∈ te → XvC X.K (ga X.K c)) (hi : CallB T X (.builtin "isinstance") (bIsi t)) : CallB T X (.builtin "isinstance") (bIsx te t) := by
  intro pins s σ H W h ds vs us Q I r ok rb p
  unfold bIsx at p
  split at p
  · rename_i cc nn dd y
    obtain ⟨v, w', rfl, hv, hw⟩ := rb.two
    split at p
    · rename_i u e2
      split at p
      · rename_i bb e3
        have hm := lookT_mem e3
        obtain ⟨a, oe, od, rfl, J, _⟩ := hv.exc ok I
        have cv : ClsV w' (u.v X.K) := by
          have hw := hw.rp (fun ds e => by subst e; cases e2) (fun ks ds e => by subst e; cases e2)
          cases y <;> unfold tkC at e2 <;> try (cases e2; done)
          all_goals cases e2
          · unfold Rp at hw; subst hw; exact .ty _
          · unfold Rp at hw; subst hw; exact .own _
        cases r with
        | cons rx rr =>
          cases rr with
          | cons rt rr =>
            cases rr
            cases rx
            rename_i w2
            have eu : w2 = u.v X.K := by
              revert cv
              generalize u.v X.K = uv
              intro cv
              cases cv <;> exact rt
            subst eu
            exact PySem.W.kia_one (xv_kit (hc cc u bb hm)) I.kIn J (ht _ _ _ hm) (fun z => nomatch z) fun tk => ⟨.bl bb, H, I.kept (t' := tk) fun _ _ z => z, rfl, p.ok ok ok.mN _ (by unfold Rp; rfl)⟩
      · exact p.elim
    · exact p.elim
  · exact hi pins s σ H W h _ vs us Q I r ok rb p
/-- e.f of an exception -/
def excD (cl : List Str) (f : Str) (d : D) : M D := fun h => match d with
  | .exc c ns ds => if c ∈ cl then (match lookD ns ds f with
    | some x => .ok x h
    | none => .no) else .no
  | _ => .no
def mAtx (cl : List Str) (f : Str) (c : EM) : EM := fun ε h => (c ε h).bnd fun d h1 => excD cl f d h1
theorem se_atx {cl : List Str} (hcl : ∀ c ∈ cl, XvC X.K (ga X.K c) ∧ PySem.W.findIn X.K (.ref (ga X.K c)) f = some none) (hb : attributeBase o f X.env (eval o X.env) = eval o X.env) (ho : SE T X o c) : SE T X (.Attribute o f pos) (mAtx cl f c) := by
  intro ε σ W h H Q r ok p
  have g1 : Go X o σ H fun v H1 => ∃ d h1 W1, WOk X.K W1 h1 H1 ∧ Rp X.K W1.F W1.m d v ∧ Post X.K T W1 H1 σ (excD cl f d h1) (fun d _ W' H' => ∀ v, Rp X.K W'.F W'.m d v → Q v H') :=
    ho ε σ W h H _ r ok (Post.mono (Post.bnd p) (Le.rfl' ok.mN) fun d h1 W1 H1 l1 o1 p1 v hv => ⟨d, h1, W1, o1, hv, p1⟩)
  intro pins s I
  refine attr_of hb (thn (g1 pins s I) fun u s1 ⟨v, H1, I1, rx, d, h1, W1, o1, hv, p1⟩ => ?_)
  unfold excD at p1
  split at p1
  · rename_i cc ns ds
    split at p1
    · rename_i hm
      split at p1
      · rename_i d' e
        obtain ⟨T1, hno⟩ := hcl cc hm
        obtain ⟨a, oe, od, rfl, J, hfld⟩ := Rb.exc (.inl hv) o1 I1
        obtain ⟨_, od', u', y, rfl, e1, ru, ry⟩ := hfld f d' e
        obtain rfl : u = Value.ref a := rx
        exact HandSPX.exc_get I1.kIn J T1.gA T1.gN T1.sB (PySem.W.findObj_own T1.hD hno rfl e1) (handed_of ru) ⟨y, H1, I1.tok _, ru, p1.ok o1 o1.mN _ ry⟩
      · exact p1.elim
    · exact p1.elim
  · exact p1.elim
end
/-! ### what the tests of except clauses say -/
section
variable {X : Cx} {x x1 x2 x3 x4 c : Str} {np p1 p2 p3 p4 tpos : Pos} {kk : Nat} {b : Bool}
/-- a class of the text, named -/
structure Nm (X : Cx) (x : Str) : Prop where
  g : Gl X x
  m : X.mg x = some (.ref (ga X.K x))
  db : (x == ("__debug__" : Str)) = false
theorem nm_ld (n : Nm X x) {a : Addr} {pn pins : List (Addr × Obj)} {σ : L2.St} {s : Shared} {Q : Value → Shared → Prop} {E : Value → Shared → Prop} (I : Inv (X.suite a pn) pins σ H s) (q : Q (.ref (ga X.K x)) s) : wpAny (model X.prog X.w) (X.A.mark (some (.ref a))) (eval (.Name x np) X.env) Q E s :=
  ld_glob (X := X.suite a pn) I n.g n.m q n.db
theorem tst_1 (n : Nm X x) (e : PySem.W.exmOne X.K (.ref (ga X.K c)) (.ref (ga X.K x)) = some b) : TstE X (.Name x np) c b := fun a pn pins σ H s Q E I LT q =>
  nm_ld n I ((PySem.W.exm_one I.kIn LT e).here (q s.heap fun _ _ z => z))
theorem tst_2 (n1 : Nm X x1) (n2 : Nm X x2) (e : PySem.W.exmAny X.K (.ref (ga X.K c)) [.ref (ga X.K x1), .ref (ga X.K x2)] = some b) : TstE X (.Tuple [.Name x1 p1, .Name x2 p2] kk tpos) c b := fun a pn pins σ H s Q E I LT q => by
  refine wpAny_Tuple (wpAny_items_cons (nm_ld n1 I (wpAny_items_cons (nm_ld n2 I (wpAny_items_nil ⟨by size_fits, ?_⟩)))))
  have kp : ∀ q o, s.heap.get? q = some o → (s.heap.push { cls := .type "tuple", data := .seq [Value.ref (ga X.K x1), .ref (ga X.K x2)].toArray }).get? q = some o := fun _ _ z => Heap.get?_push_of_some _ z
  exact (PySem.W.exm_tup2 (PySem.W.Frag.In.keeps I.kIn kp) (LT.keeps kp) (Heap.get?_push_size s.heap rfl) e).here (q _ kp)
theorem tst_3 (n1 : Nm X x1) (n2 : Nm X x2) (n3 : Nm X x3) (e : PySem.W.exmAny X.K (.ref (ga X.K c)) [.ref (ga X.K x1), .ref (ga X.K x2), .ref (ga X.K x3)] = some b) : TstE X (.Tuple [.Name x1 p1, .Name x2 p2, .Name x3 p3] kk tpos) c b := fun a pn pins σ H s Q E I LT q => by
  refine wpAny_Tuple (wpAny_items_cons (nm_ld n1 I (wpAny_items_cons (nm_ld n2 I (wpAny_items_cons (nm_ld n3 I (wpAny_items_nil ⟨by size_fits, ?_⟩)))))))
  have kp : ∀ q o, s.heap.get? q = some o → (s.heap.push { cls := .type "tuple", data := .seq [Value.ref (ga X.K x1), .ref (ga X.K x2), .ref (ga X.K x3)].toArray }).get? q = some o := fun _ _ z => Heap.get?_push_of_some _ z
  exact (PySem.W.exm_tup3 (PySem.W.Frag.In.keeps I.kIn kp) (LT.keeps kp) (Heap.get?_push_size s.heap rfl) e).here (q _ kp)
theorem tst_4 (n1 : Nm X x1) (n2 : Nm X x2) (n3 : Nm X x3) (n4 : Nm X x4) (e : PySem.W.exmAny X.K (.ref (ga X.K c)) [.ref (ga X.K x1), .ref (ga X.K x2), .ref (ga X.K x3), .ref (ga X.K x4)] = some b) : TstE X (.Tuple [.Name x1 p1, .Name x2 p2, .Name x3 p3, .Name x4 p4] kk tpos) c b := fun a pn pins σ H s Q E I LT q => by
  refine wpAny_Tuple (wpAny_items_cons (nm_ld n1 I (wpAny_items_cons (nm_ld n2 I (wpAny_items_cons (nm_ld n3 I (wpAny_items_cons (nm_ld n4 I (wpAny_items_nil ⟨by size_fits, ?_⟩)))))))))
  have kp : ∀ q o, s.heap.get? q = some o → (s.heap.push { cls := .type "tuple", data := .seq [Value.ref (ga X.K x1), .ref (ga X.K x2), .ref (ga X.K x3), .ref (ga X.K x4)].toArray }).get? q = some o := fun _ _ z => Heap.get?_push_of_some _ z
  exact (PySem.W.exm_tup4 (PySem.W.Frag.In.keeps I.kIn kp) (LT.keeps kp) (Heap.get?_push_size s.heap rfl) e).here (q _ kp)
end
end Z
set_option Elab.async false
set_option linter.all false
set_option maxRecDepth 100000
set_option maxHeartbeats 4000000
namespace Z
open PySem PySem.Spec PyProof.Rows L2 G
variable {K : PySem.W.Frag} {F F' H H' : Hp} {m m' : List Addr}
/-! ### exceptions: the facts at contexts -/
section
variable {P : Program} {w : World} {mg : Str → Option Value} {base : Heap} {lvl k : Nat} {T : WX} {X : Cx} {N ps : List Str} {sc : Scope} {fb q qf : Bool} {fa : List Fz} {fn : List DefZ} {d : DefZ} {x c f : Str} {np : Pos}
theorem fz_xc (q : (Fz.xc c f).ok K = true) : XcC K (ga K c) ∧ PySem.W.findIn K (.ref (ga K c)) f = some none ∧ PySem.W.findIn K (.ref (ga K c)) "__init__" = some (some (.ref (propAd K c "__init__"))) ∧ PySem.W.typeIn K (.ref (propAd K c "__init__")) = some (.type "function") := by
  obtain ⟨b, q⟩ := He.ba q
  obtain ⟨c1, q⟩ := He.ba q
  obtain ⟨c2, q⟩ := He.ba q
  obtain ⟨c3, q⟩ := He.ba q
  obtain ⟨c4, q⟩ := He.ba q
  obtain ⟨c5, q⟩ := He.ba q
  obtain ⟨c6, q⟩ := He.ba q
  obtain ⟨c7, c8⟩ := He.ba q
  refine ⟨⟨?_, c1, of_decide_eq_true c2, of_decide_eq_true c3, of_decide_eq_true c4, c5⟩, of_decide_eq_true c6, of_decide_eq_true c7, of_decide_eq_true c8⟩
  rcases ob b with b | b
  · exact ⟨_, _, _, _, F.excBase_ValueError, F.store_ValueError, (He.ba b).1, (He.ba b).2⟩
  rcases ob b with b | b
  · exact ⟨_, _, _, _, F.excBase_LookupError, F.store_LookupError, (He.ba b).1, (He.ba b).2⟩
  rcases ob b with b | b
  · exact ⟨_, _, _, _, F.excBase_RuntimeError, F.store_RuntimeError, (He.ba b).1, (He.ba b).2⟩
  · exact ⟨_, _, _, _, F.excBase_ArithmeticError, F.store_ArithmeticError, (He.ba b).1, (He.ba b).2⟩
theorem xk_at (Γ : Gz fa fn K mg) (C : Cz P w K mg base lvl X N sc fb q) (O : OkD qf P w K mg base k d ps (spX (ga K c) f)) (hk : k + 1 ≤ lvl) (hqf : qf = false → q = false) (hd : d.at_ = .meth c "__init__") (kb : ∀ {fd}, FunZ K d fd → Binds K fd ps []) (hn : ps.length = 2) (i j : Nat) (hf : fa[i]? = some (.xc c f)) (hj : fa[j]? = some (.glo c)) (hg : glB sc c = true) : XkM X c f := by
  obtain ⟨fd, F, ok⟩ := O.ex
  obtain ⟨h, X0, G0⟩ := Γ.ex
  obtain ⟨e1, _⟩ := fz_glo X0 G0 (Γ.says.fact j hj)
  obtain ⟨q1, q2, q3, q4⟩ := fz_xc (Γ.says.fact i hf)
  have B := kb F
  have hgl := gl_at C c hg
  obtain ⟨rfl, rfl, rfl, rfl, rfl, _, _, hr, _, _, _, _, _, _⟩ := C
  rw [hd] at ok
  exact ⟨⟨_, _, k, fd, ps, q3, q4, ok, hn, (hr.mono hk).as hqf, B⟩, q1, hgl, e1, nb (He.ba hg).2⟩
theorem okx_at {self par : Str} {p1 p2 p3 pos : Pos} (c' : SaysZ fa fn K) (i j : Nat) (h : fn[i]? = some d) (hf : fa[j]? = some (.xc c f)) (S : FnScope [self, par] [self, par] (defScope d.st)) (hb : defBody d.st = [.Assign [.Attribute (.Name self p1) f p2] (.Name par p3) pos]) (h0 : slB [self, par] (defScope d.st) 0 self = true) (h1 : slB [self, par] (defScope d.st) 1 par = true)
    (hs : ∀ env : Env, swapsWith (.Name par p3) (some (.Attribute (.Name self p1) f p2)) pos.line { env with scope := defScope d.st } = pure false) : OkD qf P w K mg base 1 d [self, par] (spX (ga K c) f) :=
  let ⟨q1, q2, _, _⟩ := fz_xc (c'.fact j hf)
  okx_of c' i h S hb h0 h1 hs q1 q2
theorem x0_at (Γ : Gz fa fn K mg) (C : Cz P w K mg base lvl X N sc fb q) (i j : Nat) (hf : fa[i]? = some (.x0 c)) (hj : fa[j]? = some (.glo c)) (hg : glB sc c = true) : Xk0 X c := by
  obtain ⟨h, X0, G0⟩ := Γ.ex
  obtain ⟨e1, _⟩ := fz_glo X0 G0 (Γ.says.fact j hj)
  obtain ⟨b, q⟩ := He.ba (Γ.says.fact i hf)
  obtain ⟨c1, q⟩ := He.ba q
  obtain ⟨c2, c3⟩ := He.ba q
  have hgl := gl_at C c hg
  obtain ⟨rfl, rfl, rfl, rfl, rfl, _, _, _, _, _, _, _, _, _⟩ := C
  refine ⟨?_, c3, raises_own (of_decide_eq_true c1) (of_decide_eq_true c2), hgl, e1, nb (He.ba hg).2⟩
  rcases ob b with b | b
  · exact ⟨_, _, _, _, F.excBase_ValueError, b⟩
  rcases ob b with b | b
  · exact ⟨_, _, _, _, F.excBase_LookupError, b⟩
  rcases ob b with b | b
  · exact ⟨_, _, _, _, F.excBase_RuntimeError, b⟩
  · exact ⟨_, _, _, _, F.excBase_ArithmeticError, b⟩
theorem xv_at (Γ : Gz fa fn K mg) (C : Cz P w K mg base lvl X N sc fb q) {cl : List Str} (i : Nat) (hf : fa[i]? = some (.xv cl f)) : ∀ c ∈ cl, XvC X.K (ga X.K c) ∧ PySem.W.findIn X.K (.ref (ga X.K c)) f = some none := by
  intro c hc
  have q := List.all_eq_true.mp (Γ.says.fact i hf) c hc
  obtain ⟨c1, q⟩ := He.ba q
  obtain ⟨c2, q⟩ := He.ba q
  obtain ⟨c3, q⟩ := He.ba q
  obtain ⟨c4, q⟩ := He.ba q
  obtain ⟨c5, q⟩ := He.ba q
  obtain ⟨c6, q⟩ := He.ba q
  obtain ⟨c7, q⟩ := He.ba q
  obtain ⟨c8, c9⟩ := He.ba q
  rw [C.eK]
  exact ⟨⟨of_decide_eq_true c1, of_decide_eq_true c2, of_decide_eq_true c3, c4, of_decide_eq_true c5, of_decide_eq_true c6, of_decide_eq_true c7, of_decide_eq_true c8⟩, of_decide_eq_true c9⟩
theorem nm_at (Γ : Gz fa fn K mg) (C : Cz P w K mg base lvl X N sc fb q) (j : Nat) (hj : fa[j]? = some (.glo x)) (hg : glB sc x = true) : Nm X x := by
  obtain ⟨h, X0, G0⟩ := Γ.ex
  obtain ⟨e1, _⟩ := fz_glo X0 G0 (Γ.says.fact j hj)
  exact ⟨gl_at C x hg, by rw [C.em, C.eK]; exact e1, nb (He.ba hg).2⟩
theorem ex1_at (Γ : Gz fa fn K mg) (C : Cz P w K mg base lvl X N sc fb q) {t : List (Str × Bool)} (n : Nm X x) (i : Nat) (hf : fa[i]? = some (.exm x t)) : ∀ c b, t.lookup c = some b → TstE X (.Name x np) c b := by
  intro c b e
  have q := of_decide_eq_true (List.all_eq_true.mp (Γ.says.fact i hf) _ (lookup_mem e))
  rw [← C.eK] at q
  exact tst_1 n q
theorem exs_at (Γ : Gz fa fn K mg) (C : Cz P w K mg base lvl X N sc fb q) {xs : List Str} {t : List (Str × Bool)} (i : Nat) (hf : fa[i]? = some (.exms xs t)) {c : Str} {b : Bool} (e : t.lookup c = some b) : PySem.W.exmAny X.K (.ref (ga X.K c)) (xs.map fun x => .ref (ga X.K x)) = some b := by
  have q := of_decide_eq_true (List.all_eq_true.mp (Γ.says.fact i hf) _ (lookup_mem e))
  rw [← C.eK] at q
  exact q
theorem isx_at (Γ : Gz fa fn K mg) (C : Cz P w K mg base lvl X N sc fb q) {te t : List (TK × TK × Bool)} {cs xs : List Str} {f' : Str} (i j l m : Nat) (hf : fa[i]? = some (.kits t)) (hj : fa[j]? = some (.flds cs f)) (hc : tkC' t cs = true) (hl : fa[l]? = some (.kits te)) (hm : fa[m]? = some (.xv xs f')) (hx : tkC' te xs = true) : CallB T X (.builtin "isinstance") (bIsx te t) := by
  refine isx_ok ?_ (fun c u b hm' => ?_) (isi_at Γ C i j hf hj hc)
  · rw [C.eK]; exact fz_kits (Γ.says.fact l hl)
  · have h2 : c ∈ xs := of_decide_eq_true (List.all_eq_true.mp hx _ hm')
    exact (xv_at Γ C m hm c h2).1
end
/-! ### C(e) as a value -/
section
variable {T : WX} {X : Cx} {x f : Str} {e : Expr} {p pos : Pos} {c : EM}
/-- an exception that was made, tracked -/
theorem made_track {pins : List (Addr × Obj)} {σ : L2.St} {u : Value} {s' : Shared} {Q : XK} {Q' : VK} (m : MkP X pins σ Q u s') (h : ∀ a C d H', H' a = none → Q (.ref C) d H' → Q' (.ref a) (upd H' a (xo C d a))) (hq : ∀ cls d H', Q cls d H' → ∃ C, cls = .ref C) : EP X pins σ Q' u s' := by
  obtain ⟨a, oe, vs, sI, H', cls, d, rfl, I, k, n1, n2, z, dv, _, na, os, bare, _, q⟩ := m
  obtain ⟨C, rfl⟩ := hq _ _ _ q
  have I' : Inv X pins σ H' { s' with heap := sI.heap } := ⟨I.ok, os.trans I.os, bare, I.base, I.loc, I.cell, I.free, I.freeC, I.pin, I.hok, I.len⟩
  have J := Inv.laidN (t' := s'.toks) (h' := s'.heap) I' k n1 na (xo_ok n2 z dv)
  exact ⟨.ref a, _, J, rfl, h a C d H' na q⟩
def mMx1 (x f : Str) (c : EM) : EM := fun ε h => (c ε h).bnd fun d h1 => .ok (.exc x [f] [d]) h1
theorem se_mx1 (M : XkM X x f) (he : SE T X e c) (hst : starEach [e] X.env = (false, eval e X.env) :: starEach [] X.env) : SE T X (.Call (.Name x p) [e] [] pos) (mMx1 x f c) := by
  intro ε σ W h H Q r o p' pins s I
  obtain ⟨_, fI, k, fd, ps, i1, i2, i3, i4, i5, i6⟩ := M.ex
  have g := fun (Q' : XK) hh => mk_x (p := p) (pos := pos) (Q := Q') M.c i1 i2 i3 i4 i5 i6 M.g M.m M.db hst (a_cons hst (he ε σ W h H _ r o hh)) pins s I
  refine wpAny_mono (g (fun cls d H' => ∃ (y : V) (dd : Addr) (C : Addr), cls = .ref C ∧ C = ga X.K x ∧ d = some dd ∧ ∀ a, H' a = none → Q (.ref a) (upd H' a (xo C d a))) (Post.mono (Post.bnd p') (Le.rfl' o.mN) fun d h1 W1 H1 l1 o1 p1 v hv => a_nil ⟨v, rfl, fun dd H' n ex hd => ⟨v, dd, _, rfl, rfl, rfl, fun a na => ?_⟩⟩)) (fun u s' m => made_track m (fun a C d H' na q => ?_) fun cls d H' q => ?_) fun _ _ z => z
  · obtain ⟨l2, o2⟩ := lay o1 n ex hd
    obtain ⟨l3, o3⟩ := lay o2 na (Ex.new na) (upd_same (o := xo (ga X.K x) (some dd) a))
    refine p1 _ _ (l2.tr l3) o3 _ ?_
    unfold Rp
    have ne : dd ≠ a := fun z => by rw [z, na] at hd; cases hd
    exact ⟨a, some dd, [v], rfl, upd_same, rfl, Rps.cons (Rp.mono (l2.tr l3).F (l2.tr l3).mx d hv) Rps.nil, .inr ⟨dd, rfl, by show upd (upd W1.F dd _) a _ dd = _; rw [upd_ne ne, upd_same]; rfl⟩⟩
  · obtain ⟨y, dd, C', e1, rfl, rfl, q⟩ := q
    cases e1
    exact q a na
  · obtain ⟨y, dd, C', e1, _⟩ := q
    exact ⟨C', e1⟩
end
end Z
set_option Elab.async false
set_option linter.all false
set_option maxRecDepth 100000
set_option maxHeartbeats 4000000
namespace Z
open PySem PySem.Spec PyProof.Rows L2 G
variable {K : PySem.W.Frag} {F F' H H' : Hp} {m m' : List Addr}
/-! ### repr -/
def okR (d : D) : Bool := pl d && ((py d).showable && (decide ((py d).depth < 60) && decide ((py d).shown.length ≤ 1000000)))
def bRepr (O : D → M D) (ds : List D) : M D := fun h => match ds with
  | [.obj c ns es] => O (.obj c ns es) h
  | [d] => if okR d = true then .ok (.str (py d).shown) h else .no
  | _ => .no
mutual
theorem pl_nd : ∀ d : D, pl d = true → (py d).hasDict = false
  | .non, _ => rfl
  | .bl _, _ => rfl
  | .int _, _ => rfl
  | .str _, _ => rfl
  | .tup ds, h => by unfold pl at h; unfold py; show PyData.hasDictAll (pys ds) = false; exact pls_nd ds h
  | .lst ds, h => by unfold pl at h; unfold py; show PyData.hasDictAll (pys ds) = false; exact pls_nd ds h
  | .ty _, h => by unfold pl at h; cases h
  | .cls _, h => by unfold pl at h; cases h
  | .obj _ _ _, h => by unfold pl at h; cases h
  | .dic _ _, h => by unfold pl at h; cases h
  | .cell _, h => by unfold pl at h; cases h
  | .scr _, h => by unfold pl at h; cases h
  | .exc _ _ _, h => by unfold pl at h; cases h
  | .clo _ _ _ _ _, h => by unfold pl at h; cases h
theorem pls_nd : ∀ ds : List D, pls ds = true → PyData.hasDictAll (pys ds) = false
  | [], _ => rfl
  | d :: ds, h => by
    unfold pls at h
    obtain ⟨h1, h2⟩ := He.ba h
    unfold pys
    show (PyData.hasDict (py d) || PyData.hasDictAll (pys ds)) = false
    rw [pl_nd d h1, pls_nd ds h2]; rfl
end
section
variable {T : WX} {X : Cx}
theorem repr_ok {O : D → M D} (hg : X.A.guards = some []) (hu : X.A.units + 64 < cLine) (hO : OneM T X (.builtin "repr") O) : CallB T X (.builtin "repr") (bRepr O) := by
  intro pins s σ H W h ds vs us Q I r ok rb p
  have plain : ∀ (d : D) {v : V}, Rb X W H d v → Vals [v] us → okR d = true → Q (.str (py d).shown) H → wpAny (model X.prog X.w) X.A (call (.builtin "repr") us) (EP X pins σ Q) X.xe s := by
    intro d v rv rr hd q
    obtain ⟨h1, hd⟩ := He.ba hd
    obtain ⟨h2, hd⟩ := He.ba hd
    obtain ⟨h3, h4⟩ := He.ba hd
    obtain ⟨u, rfl, ru⟩ := vals1 rr
    have hl : (py d).shown.length ≤ sizeLine := Nat.le_trans (of_decide_eq_true h4) sizeL
    have big : ∀ a, u = .ref a → wpAny (model X.prog X.w) X.A (call (.builtin "repr") [u]) (EP X pins σ Q) X.xe s := fun a eu => by
      subst eu
      obtain ⟨as, hR⟩ := Dp.reads I (py d) v (.ref a) (rv.dp ok h1) ru
      refine repr_of_reads' hR h2 (fun z => by rw [pl_nd d h1] at z; cases z) hg (by have := of_decide_eq_true h3; omega) (fun _ _ z => z) (fun h' u' tk hk => ?_) hl
      exact ⟨.str (py d).shown, H, I.kept hk, ⟨u', rfl⟩, q⟩
    have one : ∀ t, EP X pins σ Q (.str (py d).shown t) { s with toks := s.toks + 1 } := fun t => ⟨.str (py d).shown, H, I.tok _, ⟨t, rfl⟩, q⟩
    cases d with
    | non =>
      obtain rfl : v = .non := by have := rv.non; exact this
      obtain rfl : u = .none := ru
      exact PySem.P.repr_of_none (one _)
    | bl b =>
      obtain rfl : v = .bl b := rv.bl
      obtain rfl : u = .bool b := ru
      exact PySem.P.repr_of_bool (one _)
    | int k =>
      obtain rfl : v = .int k := rv.int
      obtain ⟨t, rfl⟩ : ∃ t, u = .int k t := ru
      exact PySem.P.repr_of_int (of_decide_eq_true h2) (one _)
    | str x =>
      obtain rfl : v = .str x := rv.str
      obtain ⟨t, rfl⟩ : ∃ t, u = .str x t := ru
      exact PySem.P.repr_of_str (one _) hl
    | tup ds =>
      obtain ⟨a, vs, rfl, _⟩ := rv.tup
      exact big a ru
    | lst ds =>
      obtain ⟨a, vs, rfl, _⟩ := rv.lst ok
      exact big a ru
    | _ => unfold pl at h1; cases h1
  unfold bRepr at p
  split at p
  · rename_i c ns es
    obtain ⟨v, rfl, hv⟩ := rb.one
    exact hO pins s σ H W h _ v us Q I r ok hv p
  · rename_i d _
    obtain ⟨v, rfl, hv⟩ := rb.one
    split at p
    · rename_i hd
      exact plain d hv r hd (p.ok ok ok.mN _ (by unfold Rp; rfl))
    · exact p.elim
  · exact p.elim
end
/-! ### reckoning with what Z24 to Z27 brought -/
section
variable {e : EM} {b s : SC} {hd rest : HdC} {ε ε' : Ev} {h : Store} {c x f : Str} {ns : List Str} {ds : List D} {d : D} {i : Nat} {t : Str → Option Bool} {cl : List Str}
def tryK (hd : HdC) (r : R Fw) : R Fw := match r with
  | .ok (.rs c ns ds ε') h' => hd c ns ds ε' h'
  | r => r
@[simp] theorem q_try : mTry b hd ε h = tryK hd (b ε h) := rfl
@[simp] theorem tryK_rs : tryK hd (.ok (.rs c ns ds ε) h) = hd c ns ds ε h := rfl
@[simp] theorem tryK_nx : tryK hd (.ok (.nx ε) h) = .ok (.nx ε) h := rfl
@[simp] theorem tryK_rt : tryK hd (.ok (.rt d) h) = .ok (.rt d) h := rfl
@[simp] theorem tryK_bk : tryK hd (.ok (.bk ε) h) = .ok (.bk ε) h := rfl
@[simp] theorem tryK_ct : tryK hd (.ok (.ct ε) h) = .ok (.ct ε) h := rfl
def hdA2 (i : Nat) (s : SC) (rest : HdC) (c : Str) (ns : List Str) (ds : List D) (ε : Ev) (h : Store) (o : Option Bool) : R Fw := match o with
  | some true => unb i (s (ε.set i (.pu (.exc c ns ds))) h)
  | some false => rest c ns ds ε h
  | none => .no
@[simp] theorem q_hdA : mHdA t i s rest c ns ds ε h = hdA2 i s rest c ns ds ε h (t c) := rfl
@[simp] theorem hdA2_t : hdA2 i s rest c ns ds ε h (some true) = unb i (s (ε.set i (.pu (.exc c ns ds))) h) := rfl
@[simp] theorem hdA2_f : hdA2 i s rest c ns ds ε h (some false) = rest c ns ds ε h := rfl
def hd02 (s : SC) (rest : HdC) (c : Str) (ns : List Str) (ds : List D) (ε : Ev) (h : Store) (o : Option Bool) : R Fw := match o with
  | some true => unq (s ε h)
  | some false => rest c ns ds ε h
  | none => .no
@[simp] theorem q_hd0 : mHd0 t s rest c ns ds ε h = hd02 s rest c ns ds ε h (t c) := rfl
@[simp] theorem hd02_t : hd02 s rest c ns ds ε h (some true) = unq (s ε h) := rfl
@[simp] theorem hd02_f : hd02 s rest c ns ds ε h (some false) = rest c ns ds ε h := rfl
@[simp] theorem q_hdN : mHdN c ns ds ε h = .ok (.rs c ns ds ε) h := rfl
@[simp] theorem unb_nx : unb i (.ok (.nx ε) h) = .ok (.nx (ε.set i .un)) h := rfl
@[simp] theorem unb_rt : unb i (.ok (.rt d) h) = .ok (.rt d) h := rfl
@[simp] theorem unb_bk : unb i (.ok (.bk ε) h) = .ok (.bk (ε.set i .un)) h := rfl
@[simp] theorem unb_ct : unb i (.ok (.ct ε) h) = .ok (.ct (ε.set i .un)) h := rfl
@[simp] theorem unq_nx : unq (.ok (.nx ε) h) = .ok (.nx ε) h := rfl
@[simp] theorem unq_rt : unq (.ok (.rt d) h) = .ok (.rt d) h := rfl
@[simp] theorem unq_bk : unq (.ok (.bk ε) h) = .ok (.bk ε) h := rfl
@[simp] theorem unq_ct : unq (.ok (.ct ε) h) = .ok (.ct ε) h := rfl
def rs1K (x f : Str) (ε : Ev) (r : R D) : R Fw := R.up r ε fun d h1 => .ok (.rs x [f] [d] ε) h1
@[simp] theorem q_rs1 : mRs1 x f e ε h = rs1K x f ε (e ε h) := rfl
@[simp] theorem rs1K_k : rs1K x f ε (.ok d h) = .ok (.rs x [f] [d] ε) h := rfl
@[simp] theorem rs1K_x : rs1K x f ε (.ex c ns ds h) = .ok (.rs c ns ds ε) h := rfl
@[simp] theorem q_rs0 : mRs0 x ε h = .ok (.rs x [] [] ε) h := rfl
def mx1K (x f : Str) (r : R D) : R D := R.bnd r fun d h1 => .ok (.exc x [f] [d]) h1
@[simp] theorem q_mx1 : mMx1 x f e ε h = mx1K x f (e ε h) := rfl
@[simp] theorem mx1K_k : mx1K x f (.ok d h) = .ok (.exc x [f] [d]) h := rfl
def atxK (cl : List Str) (f : Str) (r : R D) : R D := R.bnd r fun d h1 => excD cl f d h1
@[simp] theorem q_atx : mAtx cl f e ε h = atxK cl f (e ε h) := rfl
@[simp] theorem atxK_k : atxK cl f (.ok d h) = excD cl f d h := rfl
@[simp] theorem excD_k : excD cl f (.exc c ns ds) h = if c ∈ cl then optR (lookD ns ds f) h else .no := rfl
end
end Z
set_option Elab.async false
set_option linter.all false
set_option maxRecDepth 100000
set_option maxHeartbeats 4000000
namespace Z
open PySem PySem.Spec PyProof.Rows L2 G
variable {K : PySem.W.Frag} {F F' H H' : Hp} {m m' : List Addr}
/-! ### exceptions by keywords -/
section
open PySem.HandSPX PySem.Builtin
variable {prog : Program} {w : World} {A : Around} {E : Value → Shared → Prop} {R : Result → Shared → Prop} {h : Heap} {g : Array GenState} {d : Drawn} {t : Nat} {os : OsState}
variable {nm q : Str} {C N : Addr} {bs bm bmB : List Value} {hdct : Bool} {sn : List Str} {sub : List Value} {ab : Bool} {col : Option Bool} {dd : Option Addr} {k0 k1 k2 k3 k5 : Option Value} {B newId initId : String} {kw : List (Str × Value)}
theorem kw_check (F : ExcBaseFacts B newId initId bmB) (hT : ∀ X : String, bm.contains (.type X) = bmB.contains (.type X)) {us : List Value} {Q : Unit → Shared → Prop}
    (hC : h.get? C = some (excClassObj nm q C N bs bm hdct sn sub ab col dd k0 k1 k2 k3 k5 newId)) (hq : Q () ⟨h, g, d, t, os⟩) : wpAny (model prog w) A (checkBuiltinCall newId ⟨.ref C :: us, kw⟩) Q E ⟨h, g, d, t, os⟩ := by
  have c1 : (Value.ref C :: bm).contains (.type B) = true := by rw [List.contains_cons, hT, F.hasB, Bool.or_true]
  have c2 := F.noStar
  simp only [checkBuiltinCall, F.newKind, F.newSplit, F.newRow]
  repeat (first | refine wpAny_loadPart_at hC ?_ | (refine wpAny_isSubtype_exc hC ?_; rw [c1]) | refine wpAny_staticBase_exc hC ?_ | refine wpAny_madeBy_exc hC ?_ | simp only [bne_self_eq_false, Bool.false_eq_true, if_false] | wp_step)
  exact hq
theorem kw_new (F : ExcBaseFacts B newId initId bmB) (hT : ∀ X : String, bm.contains (.type X) = bmB.contains (.type X)) {us : List Value}
    (hC : h.get? C = some (excClassObj nm q C N bs bm hdct sn sub ab col dd k0 k1 k2 k3 k5 newId)) (hus : us.length ≤ sizeLine)
    (hq : R (.ok (.ret (.ref (h.objs.size + 1)))) ⟨(h.push (W.kdv_tup us)).push (excO C h.objs.size), g, d, t, os⟩) :
    codeAny (model prog w) A (.builtin newId ⟨.ref C :: us, kw⟩) R ⟨h, g, d, t, os⟩ := by
  have e0 := F.ends
  have c1 : (Value.ref C :: bm).contains (.type B) = true := by rw [List.contains_cons, hT, F.hasB, Bool.or_true]
  have c3 : (Value.ref C :: bm).contains (.type "AttributeError") = false := by rw [List.contains_cons, hT, F.noAttr] <;> rfl
  have c4 : (Value.ref C :: bm).contains (.type "NameError") = false := by rw [List.contains_cons, hT, F.noName] <;> rfl
  refine codeAny_builtinAt F.entry ?_
  unfold Builtin.«BaseException.__new__»
  refine PySem.wpAt_bind ?_
  show PySem.wpAt _ _ _ (stack >>= _) _ _ _
  refine PySem.wpAt_bind (PySem.wpAt_stack fun p below => PySem.wpAt_of_wpAny ?_)
  wp_walk
  refine PySem.wpAt_of_wpAny ?_
  rw [F.owner]
  repeat (first | with_reducible refine wpAny_madeHere_exc F.canon hC ?_ | with_reducible refine wpAny_loadPart_at hC ?_ | (with_reducible refine wpAny_isSubtype_exc hC ?_; first | rw [c1] | rw [c3] | rw [c4]) | wp_step)
  show R _ _
  rw [Heap.size_push]
  exact hq
theorem kw_type (F : ExcBaseFacts B newId initId bmB) (hT : ∀ X : String, bm.contains (.type X) = bmB.contains (.type X)) {us : List Value} {fI : Addr} {Q : Fin → Shared → Prop}
    (hC : h.get? C = some (excClassObj nm q C N bs bm hdct sn sub ab col dd k0 k1 k2 k3 k5 newId))
    (hi : W.Looks (model prog w) h (typeLookup (.ref C) "__init__") (some (.ref fI))) (hb : ∀ self, W.Looks (model prog w) h (bindSpecial (.ref fI) self) (.ref fI, [self])) (hus : us.length ≤ sizeLine)
    (hq : codeAny (model prog w) A (.call (.ref fI) ⟨.ref (h.objs.size + 1) :: us, kw⟩)
      (fun r s' => match r with | .ok (.ret v) => v = .none ∧ Q (.done (.ret (.ref (h.objs.size + 1)))) s' | .ok _ => False | .error e => E e s')
      ⟨(h.push (W.kdv_tup us)).push (excO C h.objs.size), g, d, t, os⟩) :
    wpAny (model prog w) A (Builtin.«type.__call__» ⟨.ref C :: us, kw⟩) Q E ⟨h, g, d, t, os⟩ := by
  repeat (first | with_reducible refine wpAny_loadPart_at hC ?_ | with_reducible refine wpAny_madeBy_exc hC ?_ | wp_step)
  refine codeAny_call_builtin_code (Code.quiet_builtin _ F.quiet) (kw_check F hT hC ?_)
  refine kw_new F hT hC hus ?_
  show wpAny _ _ _ _ _ _
  have k : ∀ b o, h.get? b = some o → ((h.push (W.kdv_tup us)).push (excO C h.objs.size)).get? b = some o := fun b o e => Heap.get?_push_of_some _ (Heap.get?_push_of_some _ e)
  have hC₁ := k _ _ hC
  have hx : ((h.push (W.kdv_tup us)).push (excO C h.objs.size)).get? (h.objs.size + 1) = some (excO C h.objs.size) := by heap_get
  have c2 : (Value.ref C :: bm).contains (.ref C) = true := by simp
  have i1 := hi.keeps k
  have b1 := (hb (.ref (h.objs.size + 1))).keeps k
  unfold isInstance
  repeat (first | with_reducible refine wpAny_loadPart_at hx ?_ | (with_reducible refine wpAny_isSubtype_exc hC₁ ?_; rw [c2]) | wp_step)
  show wpAny _ _ (typeLookup (.ref C) _) _ _ _
  refine i1.at (wpAny_holding (wpAny_bind (b1.at ?_)))
  refine wpAny_bind (wpAny_call (codeAny_mono hq fun r s' z => ?_))
  rcases r with e | (v | _ | _ | _) <;> first | exact z | exact z.elim | skip
  obtain ⟨rfl, z⟩ := z
  first
    | exact wpAny_pure (wpAny_pure z)
    | (wp_walk; exact z)
theorem kw_call (F : ExcBaseFacts B newId initId bmB) (hT : ∀ X : String, bm.contains (.type X) = bmB.contains (.type X)) {us : List Value} {fI : Addr}
    (hC : h.get? C = some (excClassObj nm q C N bs bm hdct sn sub ab col dd k0 k1 k2 k3 k5 newId))
    (hi : W.Looks (model prog w) h (typeLookup (.ref C) "__init__") (some (.ref fI))) (hb : ∀ self, W.Looks (model prog w) h (bindSpecial (.ref fI) self) (.ref fI, [self])) (hus : us.length ≤ sizeLine)
    (hq : codeAny (model prog w) (A.under (.builtin "type.__call__" ⟨.ref C :: us, kw⟩)) (.call (.ref fI) ⟨.ref (h.objs.size + 1) :: us, kw⟩) (W.InitBack (h.objs.size + 1) R)
      ⟨(h.push (W.kdv_tup us)).push (excO C h.objs.size), g, d, t, os⟩) :
    codeAny (model prog w) A (.call (.ref C) ⟨us, kw⟩) R ⟨h, g, d, t, os⟩ := by
  have f1 := tc_lookup
  have f2 := tc_bind (.ref C)
  have hTy : (⟨h, g, d, t, os⟩ : Shared).TypeIs (.ref C) "type" := ⟨_, hC, rfl⟩
  refine codeAny_of_tree ?_
  show wpAny _ _ (callAny (.ref C) _) _ _ _
  repeat (any_goals (first | assumption | with_reducible refine wpAny_loadPart_at hC ?_ | wp_step))
  refine ⟨rfl, ?_⟩
  refine codeAny_call_builtin_at (Code.quiet_builtin _ (by decide +kernel)) entry_typeCall (wpAny_check_type_call_sub hC (kw_type F hT hC hi hb hus ?_))
  refine codeAny_mono hq fun r s' z => ?_
  rcases r with e | (v | _ | _ | _) <;> exact z
end
/-! ### a further field of an exception that is being made -/
section
variable {X : Cx} {pins : List (Addr × Obj)} {σ : L2.St} {s : Shared} {a C dx : Addr} {f : Str} {y : V} {u : Value} {fs : List (Str × V)} {Q : Unit → Shared → Prop} {E : Value → Shared → Prop} {A : Around}
theorem x_more (T : XcC X.K C) (I : Inv X pins σ H s) (ea : H a = some (exo a C (some dx))) (ed : H dx = some (exd dx fs)) (hl : fs.length ≤ 900) (hno : PySem.W.findIn X.K (.ref C) f = some none) (ry : RelV y u)
    (h : ∀ s', Inv X pins σ (upd H dx (exd dx ((f, y) :: fs))) s' → Q () s') : wpAny (model X.prog X.w) A (setAttr (.ref a) f u) Q E s := by
  obtain ⟨B, newId, initId, bmB, FB, SF, hin, hov⟩ := T.bs
  obtain ⟨t1, ho⟩ := exo_at I.hok ea
  obtain ⟨mA, hns, rel⟩ := exd_at I.hok ed
  have hw := within_of rel
  obtain ⟨cd, hc, hdc⟩ := any_of (show (PySem.W.clsIn X.K C).any (·.hasDict) = true from T.hd)
  obtain ⟨p, g, dw, t, os⟩ := s
  obtain ⟨oD, _, _, hoD, _, _⟩ := hns.count hw
  refine PySem.W.set_plain I.kIn (ox := { cls := .ref C, dict := some dx, data := .fields #[.ref t1, .none, .none, .none, .bool false, .none] }) (od := some oD) ⟨ho, rfl, rfl, hoD⟩ T.sa ?_
  refine PySem.W.osa_openX (ox := { cls := .ref C, dict := some dx, data := .fields #[.ref t1, .none, .none, .none, .bool false, .none] }) (od := some oD) (r := none) SF I.kIn ⟨ho, rfl, rfl, hoD⟩ hov (by unfold PySem.W.takerIn; rw [hno] <;> rfl) fun b => ?_
  have hcls : PySem.W.Looks (model X.prog X.w) p (classData C) cd := PySem.W.looks_clsIn I.kIn hc
  have fin : ∀ h' tk', h'.Ns1 dx (fun y => if y = f then some u else mA y) → Heap.SameBut dx p h' → Q () ⟨h', g, dw, tk', os⟩ := fun h' tk' hn hs =>
    h _ (I.write (t' := tk') (x := dx) (e := dx) (o := exd dx ((f, y) :: fs)) (by rw [ed]; exact True.intro) (.inl rfl) (fun b o hb z => (hs.2 b hb).trans z) (by obtain ⟨o, _, _, e', _⟩ := hn; exact ⟨o, e'⟩) (exd_ok hn (relO_put ry rel)))
  obtain ⟨nm, bs, mro, ns, qn, hd, sn, sb, ab, col, del⟩ := cd
  dsimp only at hdc
  subst hdc
  show wpAny _ _ (Builtin.ObjectAttr.storeInOwnDict (.ref a) (.ref C) _ f u b) _ _ _
  unfold Builtin.ObjectAttr.storeInOwnDict Builtin.ObjectAttr.ownDictForStores
  repeat (first | with_reducible refine PySem.OEX.store_in_old hns hw (by rw [List.length_map]; omega) ?_ | with_reducible refine wpAny_loadPart_at ho ?_ | with_reducible refine hcls.at ?_ | wp_step)
  intro h' tk' hn hs
  exact fin h' tk' hn hs
end
section
variable {X : Cx} {σ : L2.St} {e o : Expr} {f : Str} {p p' p1 p2 p3 pos : Pos} {E : Ends}
/-- self.f = e of an exception that is being made and has its dict -/
theorem gs_xm (hs : swapsWith e (some (.Attribute o f p')) pos.line X.env = pure false) (h : Go X e σ H fun y H1 => Go X o σ H1 fun x H2 => ∃ a C dx fs, x = .ref a ∧ XcC X.K C ∧ PySem.W.findIn X.K (.ref C) f = some none ∧ H2 a = some (exo a C (some dx)) ∧ H2 dx = some (exd dx fs) ∧ fs.length ≤ 900 ∧ E.nx σ (upd H2 dx (exd dx ((f, y) :: fs)))) :
    Gs X (.Assign [.Attribute o f p'] e pos) E σ H := by
  intro pins s I
  refine plainObj_wpAny_Assign_Attribute (thn (h pins s I) fun v s1 ⟨y, H1, I1, r1, q1⟩ => thn (q1 pins s1 I1) fun u s2 ⟨x, H2, I2, r2, a, C, dx, fs, ex, T, hno, ea, ed, hl, q⟩ => ?_) hs
  subst ex
  obtain rfl : u = Value.ref a := r2
  exact x_more T I2 ea ed hl hno r1 fun s' J => ⟨σ, _, J, q⟩
end
/-- what an __init__ that stores its parameters promises -/
def spXs (C : Addr) (fs : List Str) : Sp := fun vs H Q _ => ∃ a ys, vs = .ref a :: ys ∧ ys.length = fs.length ∧ H a = some (exo a C none) ∧ ∀ dx, H dx = none → dx ≠ a → Q .non (upd (upd H dx (exd dx (fs.zip ys).reverse)) a (exo a C (some dx)))
theorem spX_s {C : Addr} {f : Str} {vs : List V} {Q : VK} {E : XK} (h : spXs C [f] vs H Q E) : spX C f vs H Q E := by
  obtain ⟨a, ys, rfl, hl, ea, q⟩ := h
  match ys, hl with
  | [y], _ => exact ⟨a, y, rfl, ea, q⟩
section
variable {P : Program} {w : World} {mg : Str → Option Value} {base : Heap} {fa : List Fz} {fn : List DefZ} {d : DefZ} {self xa xb f g : Str} {C : Addr} {p1 p2 p3 pos p4 p5 p6 pos' : Pos} {q : Bool}
theorem upd_swap {a b : Addr} {o1 o2 o3 : HO} (ne : b ≠ a) : upd (upd (upd H b o1) a o2) b o3 = upd (upd H b o3) a o2 := by
  funext z
  by_cases h1 : z = a
  · subst h1
    rw [upd_ne (Ne.symm ne), upd_same, upd_same]
  · by_cases h2 : z = b
    · subst h2
      rw [upd_same, upd_ne h1, upd_same]
    · rw [upd_ne h2, upd_ne h1, upd_ne h2, upd_ne h1, upd_ne h2]
theorem okx2_of (c : SaysZ fa fn K) (i : Nat) (h : fn[i]? = some d) (S : FnScope [self, xa, xb] [self, xa, xb] (defScope d.st)) (hb : defBody d.st = [.Assign [.Attribute (.Name self p1) f p2] (.Name xa p3) pos, .Assign [.Attribute (.Name self p4) g p5] (.Name xb p6) pos'])
    (h0 : slB [self, xa, xb] (defScope d.st) 0 self = true) (h1 : slB [self, xa, xb] (defScope d.st) 1 xa = true) (h2 : slB [self, xa, xb] (defScope d.st) 2 xb = true)
    (hs : ∀ env : Env, swapsWith (.Name xa p3) (some (.Attribute (.Name self p1) f p2)) pos.line { env with scope := defScope d.st } = pure false) (hs' : ∀ env : Env, swapsWith (.Name xb p6) (some (.Attribute (.Name self p4) g p5)) pos'.line { env with scope := defScope d.st } = pure false)
    (T : XcC K C) (hf : PySem.W.findIn K (.ref C) f = some none) (hg : PySem.W.findIn K (.ref C) g = some none) : OkD q P w K mg base 1 d [self, xa, xb] (spXs C [f, g]) := by
  obtain ⟨fd, F⟩ := c.def_ i h
  refine ⟨fd, F, okT F S (fun vs H Q E h => ?_) fun cdv A outer s H vs Q E hr h => ⟨_, pb, ?_⟩⟩
  · obtain ⟨a, ys, rfl, hl, _⟩ := h
    show ys.length + 1 = 3
    rw [hl] <;> rfl
  · obtain ⟨a, ys, rfl, hl, ea, qq⟩ := h
    match ys, hl with
    | [y, z], _ =>
    rw [hb]
    have Cc : Cz P w K mg base 0 (cxT q (L2.CX P w) P w K mg base [self, xa, xb] d.qual (defScope d.st) (d.at_.at K) cdv A outer s H E) [self, xa, xb] (defScope d.st) true q := ⟨rfl, rfl, rfl, rfl, rfl, rfl, rfl, hr, fun z => (by subst z; rfl), S.nd, fun _ _ => rfl, hr.units64, hr.gd, fun _ => ⟨rfl, rfl, rfl⟩⟩
    refine b_cons (gs_x (swl_at Cc hs) (e_name (sl_at Cc 1 xa h1) rfl (e_name (sl_at Cc 0 self h0) rfl ⟨a, C, rfl, T, hf, ea, fun dx n ne => ?_⟩)))
    refine b_one (gs_xm (swl_at Cc hs') (e_name (sl_at Cc 2 xb h2) rfl (e_name (sl_at Cc 0 self h0) rfl ⟨a, C, dx, _, rfl, T, hg, upd_same, by rw [upd_ne ne, upd_same], by simp, ?_⟩)))
    rw [upd_swap ne]
    exact qq dx n ne
end
/-! ### C(..) of exceptions, any way to bind -/
theorem Rps.rev {ds : List D} {vs : List V} (r : Rps K F m ds vs) : Rps K F m ds.reverse vs.reverse := by
  induction ds generalizing vs with
  | nil => unfold Rps at r; subst r; exact Rps.nil
  | cons d ds ih =>
    unfold Rps at r
    obtain ⟨x, xs, rfl, r1, r2⟩ := r
    rw [List.reverse_cons, List.reverse_cons]
    exact (ih r2).app (Rps.cons r1 Rps.nil)
theorem zip_rev {α β : Type} : ∀ {xs : List α} {ys : List β}, xs.length = ys.length → (xs.zip ys).reverse = xs.reverse.zip ys.reverse
  | [], ys, h => by cases ys with
    | nil => rfl
    | cons y ys => simp at h
  | x :: xs, ys, h => by cases ys with
    | nil => simp at h
    | cons y ys =>
      have h' : xs.length = ys.length := by simpa using h
      rw [List.zip_cons_cons, List.reverse_cons, List.reverse_cons, List.reverse_cons, zip_rev h', List.zip_append (by simp [h'])] <;> rfl
/-- the fields in the order in which they stand -/
def wXc (c : Str) (fs : List Str) (n k : Nat) (π : List Nat) (ds es : List D) : M D := if ds.length = n ∧ es.length = k then fun h => .ok (.exc c fs.reverse (prm π (ds ++ es)).reverse) h else fun _ => .no
/-- what is asked of the exception that is made -/
def XQ (K : PySem.W.Frag) (c : Str) (Q : VK) : XK := fun cls d H' => ∃ (dd C : Addr), cls = .ref C ∧ C = ga K c ∧ d = some dd ∧ ∀ a, H' a = none → Q (.ref a) (upd H' a (xo C d a))
theorem make_X {q : Bool} {T : WX} {X : Cx} {c : Str} {k : Nat} {fI : Addr} {fd : FuncData} {ps ks fs : List Str} {n : Nat} {π : List Nat} {sp : Sp} (Tc : XcC X.K (ga X.K c)) (iC : PySem.W.findIn X.K (.ref (ga X.K c)) "__init__" = some (some (.ref fI))) (tI : PySem.W.typeIn X.K (.ref fI) = some (.type "function"))
    (F1 : FnT q X.prog X.w X.K X.mg X.base (L2.CX X.prog X.w) k fI fd ps sp) (hs : ∀ vs H Q E, spXs (ga X.K c) fs vs H Q E → sp vs H Q E) (hn : ps.length = fs.length + 1) (hn9 : n ≤ 9) (hr : RoomG q (k + 1) X.A) (hb : Kbi X.K fd ps n ks π []) : CallW T X (.ref (ga X.K c)) ks (wXc c fs n ks.length π) := by
  intro pins s σ H W h ds es vs zs us ws Q I r rz ok rp rpz p
  unfold wXc at p
  by_cases hl : ds.length = n ∧ es.length = ks.length
  · rw [if_pos hl] at p
    obtain ⟨dus, hd, hB⟩ := hb.ex
    cases hd
    have r0 : Vals (vs ++ zs) (us ++ ws) := r.append rz
    have rl := rp.len
    have zl := rpz.len
    have rg1 : ∀ i ∈ π, i < (vs ++ zs).length := fun i hi => by
      have := hb.rng i hi
      rw [List.length_nil] at this
      rw [List.length_append]; omega
    have rg2 : ∀ i ∈ π, i < (ds ++ es).length := fun i hi => by
      have := hb.rng i hi
      rw [List.length_nil] at this
      rw [List.length_append]; omega
    have r1 := prm_vals r0 rg1
    have rpp := prm_rps (rp.app rpz) rg2
    have lav : (prm π (vs ++ zs)).length = fs.length := by
      have := hb.len
      rw [prm_len rg1]; omega
    have hB' := hB
    have lus : us.length = n := by rw [← Paired.length r, ← rl]; exact hl.1
    have lws : ws.length = ks.length := by rw [← Paired.length rz, ← zl]; exact hl.2
    simp only [List.append_nil] at hB'
    generalize prm π (ds ++ es) = dz at p rpp
    generalize prm π (vs ++ zs) = av at r1 rpp lav
    generalize hau : (fun us ws => prm π (us ++ ws) : List Value → List Value → List Value) us ws = au
    replace hau : prm π (us ++ ws) = au := hau
    rw [hau] at r1
    obtain ⟨B, newId, initId, bmB, FB, SF, hin, hov⟩ := Tc.bs
    refine wpAny_mono (show wpAny (model X.prog X.w) X.A (call (.ref (ga X.K c)) us (ks.zip ws)) (MkP X pins σ (XQ X.K c Q)) X.xe s from ?_) (fun u s' m => made_track m (fun a C d H' na q => ?_) fun cls d H' q => ?_) fun _ _ z => z
    · obtain ⟨hp, g, dr, tk, os⟩ := s
      obtain ⟨nm, N, qn, bs, bm, hdct, sn, sub, ab, col, dd0, k0, k1, k2, k3, k5, hC, hT⟩ := PySem.W.excInit_of I.kIn hin
      have hsz : hp.objs.size ≤ hp.objs.size + 1 := Nat.le_succ _
      have hnew : H (hp.objs.size + 1) = none := I.hok.fresh hsz
      have kk : ∀ b o, hp.get? b = some o → ((hp.push (PySem.W.kdv_tup us)).push (PySem.HandSPX.excO (ga X.K c) hp.objs.size)).get? b = some o := fun b o z => Heap.get?_push_of_some _ (Heap.get?_push_of_some _ z)
      have hget : ((hp.push (PySem.W.kdv_tup us)).push (PySem.HandSPX.excO (ga X.K c) hp.objs.size)).get? (hp.objs.size + 1) = some (PySem.HandSPX.excO (ga X.K c) hp.objs.size) := by heap_get
      have I2 := I.laid (t' := tk) (a := hp.objs.size + 1) (o := exo (hp.objs.size + 1) (ga X.K c) none) kk hsz (exo_ok hget)
      have r2 : Vals (V.ref (hp.objs.size + 1) :: av) (Value.ref (hp.objs.size + 1) :: au) := .cons rfl r1
      have spx : spXs (ga X.K c) fs (.ref (hp.objs.size + 1) :: av) (upd H (hp.objs.size + 1) (exo (hp.objs.size + 1) (ga X.K c) none)) (fun v H2 => v = .non ∧ ∃ (d : Addr) (fs : List (Str × V)), H2 (hp.objs.size + 1) = some (exo (hp.objs.size + 1) (ga X.K c) (some d)) ∧ H2 d = some (exd d fs) ∧ H d = none ∧ XQ X.K c Q (.ref (ga X.K c)) (some d) (upd (del H2 (hp.objs.size + 1)) d (.xd fs))) (fun _ _ _ => False) := by
        refine ⟨_, av, rfl, lav, upd_same, fun dx nx ne => ⟨rfl, dx, _, upd_same, by rw [upd_ne ne, upd_same], by rw [upd_ne ne] at nx; exact nx, ?_⟩⟩
        have n1 : H dx = none := by rw [upd_ne ne] at nx; exact nx
        refine ⟨dx, _, rfl, rfl, rfl, fun a na => ?_⟩
        have ex : Ex H (upd (del (upd (upd (upd H (hp.objs.size + 1) (exo (hp.objs.size + 1) (ga X.K c) none)) dx (exd dx (fs.zip av).reverse)) (hp.objs.size + 1) (exo (hp.objs.size + 1) (ga X.K c) (some dx))) (hp.objs.size + 1)) dx (.xd (fs.zip av).reverse)) := fun b o z => by
          have nb : b ≠ dx := fun w => by rw [w, n1] at z; cases z
          have nc : b ≠ hp.objs.size + 1 := fun w => by rw [w, hnew] at z; cases z
          rw [upd_ne nb, del_ne nc, upd_ne nc, upd_ne nb, upd_ne nc]
          exact z
        obtain ⟨l2, o2⟩ := lay ok n1 ex upd_same
        obtain ⟨l3, o3⟩ := lay o2 na (Ex.new na) (upd_same (o := xo (ga X.K c) (some dx) a))
        refine p _ _ (l2.tr l3) o3 _ ?_
        unfold Rp
        have ne' : dx ≠ a := fun z => by rw [← z, upd_same] at na; cases na
        refine ⟨a, some dx, av.reverse, rfl, upd_same, by rw [List.length_reverse, List.length_reverse, lav], (Rps.mono (l2.tr l3).F (l2.tr l3).mx _ rpp).rev, .inr ⟨dx, rfl, ?_⟩⟩
        rw [← zip_rev lav.symm]
        show upd (upd W.F dx _) a _ dx = _
        rw [upd_ne ne', upd_same]
      refine wpAny_call (kw_call FB hT hC (PySem.W.looks_findIn I.kIn iC) (fun self => PySem.W.bind_fn I.kIn self tI) (by rw [lus]; exact Nat.le_trans hn9 (by decide))
        (codeAny_mono (F1.run _ X.stack _ _ ⟨Value.ref (hp.objs.size + 1) :: us, ks.zip ws⟩ (Value.ref (hp.objs.size + 1) :: au) _ _ (fun _ _ _ => False) (hr.make (ga X.K c) us (ks.zip ws)) (I2.env0.make (ga X.K c) us (ks.zip ws)) (by rw [← hau]; exact hB' _ _ us ws I2.kIn lus lws) r2 (hs _ _ _ _ spx)) fun r s' hq' => ?_))
      cases r with
      | error er => exact absurd hq' fun z => by obtain ⟨_, _, _, _, _, _, _, _, _, _, _, _, hE⟩ := z; exact hE
      | ok fl =>
        cases fl with
        | ret u =>
          obtain ⟨v, H2, os2, bare2, un2, hok2, rv, ev, d, fs', ea, ed, hd1, q2⟩ := hq'
          subst ev
          obtain ⟨h2, g2, d2, t2, os'⟩ := s'
          exact ⟨rv, mk_end (raises_own Tc.exC Tc.tyC) I hsz kk un2 hok2 os2 bare2 ea ed hd1 q2⟩
        | next => exact hq'.elim
        | brk => exact hq'.elim
        | cont => exact hq'.elim
    · obtain ⟨dd, C', e1, rfl, rfl, q⟩ := q
      cases e1
      exact q a na
    · obtain ⟨dd, C', e1, _⟩ := q
      exact ⟨C', e1⟩
  · rw [if_neg hl] at p
    exact p.elim
/-! ### C() as a value -/
def wX0 (c : Str) (ds es : List D) : M D := fun h => if ds = [] ∧ es = [] then .ok (.exc c [] []) h else .no
def XQ0 (K : PySem.W.Frag) (c : Str) (Q : VK) : XK := fun cls d H' => ∃ C : Addr, cls = .ref C ∧ C = ga K c ∧ d = none ∧ ∀ a, H' a = none → Q (.ref a) (upd H' a (xo C d a))
theorem make_X0 {T : WX} {X : Cx} {c : Str} (M : Xk0 X c) : CallW T X (.ref (ga X.K c)) [] (wX0 c) := by
  intro pins s σ H W h ds es vs zs us ws Q I r rz ok rp rpz p
  unfold wX0 at p
  by_cases hl : ds = [] ∧ es = []
  · rw [if_pos hl] at p
    obtain ⟨rfl, rfl⟩ := hl
    have e1 : us = [] := List.length_eq_zero_iff.mp (by rw [← Paired.length r, ← rp.len] <;> rfl)
    subst e1
    show wpAny _ _ (call (.ref _) []) _ _ _
    obtain ⟨B, newId, initId, bmB, F, q⟩ := M.ex
    obtain ⟨bm, N, nm, qn, bs, hdct, sn, sub, ab, col, dd, k0, k1, k2, k3, k5, mN, hC, hN, hni, T⟩ := exc_obj I.kIn q
    refine wpAny_mono (show wpAny (model X.prog X.w) X.A (call (.ref (ga X.K c)) []) (MkP X pins σ (XQ0 X.K c Q)) X.xe s from ?_) (fun u s' m => made_track m (fun a C d H' na q => ?_) fun cls d H' q => ?_) fun _ _ z => z
    · refine wpAny_call_exc_subT F T hC hN hni (fun h' e hm => ?_) (by show 0 ≤ sizeLine; exact Nat.zero_le _)
      refine mk_of I hm M.r ⟨_, rfl, rfl, rfl, fun a na => ?_⟩ (I.hok.gone hm.new)
      obtain ⟨l3, o3⟩ := lay ok na (Ex.new na) (upd_same (o := xo (ga X.K c) none a))
      refine p _ _ l3 o3 _ ?_
      unfold Rp
      exact ⟨a, none, [], rfl, upd_same, rfl, Rps.nil, .inl ⟨rfl, rfl⟩⟩
    · obtain ⟨C', e1, rfl, rfl, q⟩ := q
      cases e1
      exact q a na
    · obtain ⟨C', e1, _⟩ := q
      exact ⟨C', e1⟩
  · rw [if_neg hl] at p
    exact p.elim
/-! ### at contexts -/
section
variable {P : Program} {w : World} {mg : Str → Option Value} {base : Heap} {lvl k n : Nat} {T : WX} {X : Cx} {N ps ks fs : List Str} {sc : Scope} {fb q qf : Bool} {fa : List Fz} {fn : List DefZ} {d : DefZ} {c f : Str} {sp : Sp} {π : List Nat}
theorem fx_at (Γ : Gz fa fn K mg) (C : Cz P w K mg base lvl X N sc fb q) (O : OkD qf P w K mg base k d ps sp) (hs : ∀ vs H Q E, spXs (ga K c) fs vs H Q E → sp vs H Q E) (hk : k + 1 ≤ lvl) (hqf : qf = false → q = false) (hd : d.at_ = .meth c "__init__") (kb : ∀ {fd}, FunZ K d fd → Kbi K fd ps n ks π []) (hn : ps.length = fs.length + 1) (hn9 : n ≤ 9)
    (i j : Nat) (hf : fa[i]? = some (.xc c f)) (hj : fa[j]? = some (.glo c)) (hg : glB sc c = true) : Fq T X c ks (wXc c fs n ks.length π) := by
  obtain ⟨fd, F, ok⟩ := O.ex
  obtain ⟨h, X0, G0⟩ := Γ.ex
  obtain ⟨e1, e2⟩ := fz_glo X0 G0 (Γ.says.fact j hj)
  obtain ⟨q1, q2, q3, q4⟩ := fz_xc (Γ.says.fact i hf)
  have B := kb F
  have hgl := gl_at C c hg
  obtain ⟨rfl, rfl, rfl, rfl, rfl, _, _, hr, _, _, _, _, _, _⟩ := C
  rw [hd] at ok
  exact ⟨⟨ga X.K c, make_X q1 q3 q4 ok hs hn hn9 ((hr.mono hk).as hqf) B, e1, e2⟩, hgl, nb (He.ba hg).2⟩
theorem f0_at (Γ : Gz fa fn K mg) (C : Cz P w K mg base lvl X N sc fb q) (i j : Nat) (hf : fa[i]? = some (.x0 c)) (hj : fa[j]? = some (.glo c)) (hg : glB sc c = true) : Fq T X c [] (wX0 c) := by
  have M := x0_at Γ C i j hf hj hg
  exact ⟨⟨ga X.K c, make_X0 M, M.m, M.kC⟩, M.g, M.db⟩
theorem okx2_at {self xa xb f g : Str} {p1 p2 p3 pos p4 p5 p6 pos' : Pos} (c' : SaysZ fa fn K) (i j l : Nat) (h : fn[i]? = some d) (hf : fa[j]? = some (.xc c f)) (hg : fa[l]? = some (.xc c g)) (S : FnScope [self, xa, xb] [self, xa, xb] (defScope d.st)) (hb : defBody d.st = [.Assign [.Attribute (.Name self p1) f p2] (.Name xa p3) pos, .Assign [.Attribute (.Name self p4) g p5] (.Name xb p6) pos'])
    (h0 : slB [self, xa, xb] (defScope d.st) 0 self = true) (h1 : slB [self, xa, xb] (defScope d.st) 1 xa = true) (h2 : slB [self, xa, xb] (defScope d.st) 2 xb = true)
    (hs : ∀ env : Env, swapsWith (.Name xa p3) (some (.Attribute (.Name self p1) f p2)) pos.line { env with scope := defScope d.st } = pure false) (hs' : ∀ env : Env, swapsWith (.Name xb p6) (some (.Attribute (.Name self p4) g p5)) pos'.line { env with scope := defScope d.st } = pure false) : OkD qf P w K mg base 1 d [self, xa, xb] (spXs (ga K c) [f, g]) :=
  let ⟨q1, q2, _, _⟩ := fz_xc (c'.fact j hf)
  let ⟨_, q3, _, _⟩ := fz_xc (c'.fact l hg)
  okx2_of c' i h S hb h0 h1 h2 hs hs' q1 q2 q3
end
end Z
set_option Elab.async false
set_option linter.all false
set_option maxRecDepth 100000
set_option maxHeartbeats 4000000
namespace Z
open PySem PySem.Spec PyProof.Rows L2 G
variable {K : PySem.W.Frag} {F F' H H' : Hp} {m m' : List Addr}
/-! ### {} -/
theorem se_dic0 {T : WX} {X : Cx} {pos : Pos} : SE T X (.Dict [] [] pos) (mLit (.dic [] [])) := by
  intro ε σ W h H Q r o p
  refine ge pe_dnewK ?_
  intro a na
  obtain ⟨l, o'⟩ := lay o na (Ex.new na) (upd_same (o := .dK []))
  exact p _ _ l o' _ (by unfold Rp; exact ⟨a, [], rfl, upd_same, rfl, Rps.nil⟩)
def bRepd (O : D → M D) (ds : List D) : M D := fun h => match ds with
  | [.dic [] []] => .ok (.str "{}") h
  | ds => bRepr O ds h
theorem repd_ok {T : WX} {X : Cx} {O : D → M D} (hg : X.A.guards = some []) (hu : X.A.units + 64 < cLine) (hO : OneM T X (.builtin "repr") O) : CallB T X (.builtin "repr") (bRepd O) := by
  intro pins s σ H W h ds vs us Q I r ok rb p
  unfold bRepd at p
  split at p
  · obtain ⟨v, rfl, hv⟩ := rb.one
    obtain ⟨a, vs, rfl, ea, el, _⟩ := Rb.dic hv ok
    obtain ⟨u, rfl, ru⟩ := vals1 r
    obtain rfl : u = .ref a := ru
    obtain ⟨_, hsm, zs, rk, o, es, n, ho, hc, hd, hp, hr⟩ := dk_of I.hok ea
    cases vs with
    | cons _ _ => simp at el
    | nil =>
    cases rk
    have e0 : es.toList = [] := by
      have hr := hr.1
      generalize es.toList = l at hr
      cases hr
      rfl
    have dp : (PyData.dict []).depth = 1 := by decide +kernel
    have big : X.A.units + ((PyData.dict []).depth + 1) < cLine := by rw [dp]; omega
    refine repr_of_reads' (.dict (kvs := []) ho hc.1 hd (by rw [e0]; exact .nil) (by rw [e0]; exact .nil)) (by decide) (fun _ => ?_) hg big (fun _ _ z => z) (fun h' u' tk hk => ?_) (by decide +kernel)
    · simp at hsm ⊢
      exact fun e => hsm e.symm
    · exact ⟨.str _, H, I.kept hk, ⟨u', rfl⟩, p _ _ (Le.rfl' ok.mN) ok _ (by unfold Rp; rfl)⟩
  · exact repr_ok hg hu hO pins s σ H W h _ vs us Q I r ok rb p
end Z
set_option Elab.async false
set_option linter.all false
set_option maxRecDepth 100000
set_option maxHeartbeats 4000000
namespace Z
open PySem PySem.Spec PyProof.Rows L2 G
variable {K : PySem.W.Frag} {F F' H H' : Hp} {m m' : List Addr}
/-! ### a lambda that is handed to a def: what it catches of its maker's names -/
def capD (ε : Ev) : List Nat → Option (List D)
  | [] => some []
  | i :: r => match ε[i]? with
    | some (.pu d) => (capD ε r).map (d :: ·)
    | _ => none
def capE (n : Nat) : List Nat → List D → Ev
  | i :: r, d :: ds => (capE n r ds).set i (.pu d)
  | _, _ => List.replicate n .un
def CapV (σ : L2.St) : List Nat → List V → Prop
  | [], [] => True
  | i :: r, v :: vs => σ[i]? = some (some v) ∧ CapV σ r vs
  | _, _ => False
theorem capD_ok {σ : L2.St} {ε : Ev} {O : List (Option (Addr × HO))} (r : Rel K F m σ ε O) : ∀ {cap : List Nat} {ds : List D}, capD ε cap = some ds → ∃ vs, CapV σ cap vs ∧ Rps K F m ds vs
  | [], ds, e => by
    unfold capD at e
    cases e
    exact ⟨[], trivial, Rps.nil⟩
  | i :: cap, ds, e => by
    unfold capD at e
    split at e
    · rename_i d q
      cases z : capD ε cap with
      | none => rw [z] at e; cases e
      | some ds' =>
        rw [z] at e
        cases e
        obtain ⟨vs, h1, h2⟩ := capD_ok r z
        obtain ⟨v, h3, h4⟩ := r.pure q
        exact ⟨v :: vs, ⟨h3, h1⟩, Rps.cons h4 h2⟩
    · cases e
theorem set_same {α : Type} {l : List α} {i : Nat} {a : α} (e : l[i]? = some a) : l.set i a = l := by
  apply List.ext_getElem?
  intro j
  by_cases z : i = j
  · subst z
    rw [List.getElem?_set_self (List.getElem?_eq_some_iff.mp e).1, e]
  · rw [List.getElem?_set_ne z]
theorem capRel {σ : L2.St} : ∀ {cap : List Nat} {vs : List V} {ds : List D}, CapV σ cap vs → Rps K F m ds vs → Rel K F m σ (capE σ.length cap ds) (List.replicate σ.length none)
  | [], vs, ds, _, _ => by
    have e : capE σ.length [] ds = List.replicate σ.length .un := by unfold capE; rfl
    rw [e]
    refine ⟨by simp, by simp, fun i s x o h1 h2 h3 => ?_⟩
    have z1 := List.getElem?_eq_some_iff.mp h2
    have z2 := List.getElem?_eq_some_iff.mp h3
    obtain ⟨_, z1⟩ := z1
    obtain ⟨_, z2⟩ := z2
    simp at z1 z2
    subst z1 z2
    rfl
  | i :: cap, [], _, h, _ => h.elim
  | i :: cap, v :: vs, [], _, r => by
    have := r.len
    simp at this
  | i :: cap, v :: vs, d :: ds, ⟨h1, h2⟩, r => by
    unfold Rps at r
    obtain ⟨x, xs, e, r1, r2⟩ := r
    cases e
    have q := (capRel h2 r2).set (i := i) (s := some v) (x := .pu d) (o := none) ⟨rfl, v, rfl, r1⟩
    rw [set_same h1] at q
    have e2 : (List.replicate σ.length (none : Option (Addr × HO))).set i none = List.replicate σ.length none := set_same (by rw [List.getElem?_replicate, if_pos (List.getElem?_eq_some_iff.mp h1).1])
    rw [e2] at q
    have e3 : capE σ.length (i :: cap) (d :: ds) = (capE σ.length cap ds).set i (.pu d) := by rw [capE]
    rw [e3]
    exact q
/-! ### it is made -/
theorem lam_mk {X : Cx} {pins : List (Addr × Obj)} {σ : L2.St} {s : Shared} {c P : Addr} {params : Arguments} {body : Expr} {scope : Scope} {pos : Pos} {ps : Array Value} {E : Value → Shared → Prop} {Q : Value → Shared → Prop}
    (J : Inv X pins σ H s) (B : LamX.TabB X.base X.mg c P) (hc : X.env.code = .ref c) (eP : H P = some (.tbl ps)) (tp : TriplesOk ps.toList)
    (al : ∀ (p' : Pos) (cv : Value), codeAmong p' ps.toList = some cv → ∃ c0, cv = .ref c0 ∧ F c0 = some (LamX.CodeO c0 (X.env.qual ++ "<lambda>"))) (nd : defaultsOf params X.env = ([], [])) (fr : ∀ y ∈ scope.names, y.2 = .free → ∃ c, X.env.cells.lookup y.1 = some c)
    (go : ∀ (a k : Addr) (pm ctv : Value) (H1 : Hp) (s' : Shared), Inv X pins σ H1 s' → ((H1 = H ∧ F k = some (LamX.CodeO k (X.env.qual ++ "<lambda>"))) ∨ (H k = none ∧ ∃ po : Pos, H1 = upd (upd H P (.tbl (ps ++ #[rawInt po.line, rawInt po.col, .ref k]))) k (LamX.CodeO k (X.env.qual ++ "<lambda>")))) →
      s'.heap.get? a = some (PySem.W.kla_obj "<lambda>" (X.env.qual ++ "<lambda>") params body scope (cloFrom X.env.cells scope.names []) pm k ctv) → H1 a = none → a ∉ frs X.stack → Q (.ref a) s') :
    wpAny (model X.prog X.w) X.A (eval (.Lambda params body scope pos) X.env) Q E s := by
  refine PySem.W.kla_eval nd ?_
  have bP : s.heap.BuiltinsAt X.mg P := B.bm.keeps J.bk
  have gP : s.heap.get? P = some { cls := .none, data := .fields ps } := J.hok P _ eP
  have off : ∀ b, s.heap.objs.size ≤ b → b ∉ frs X.stack := fun b hb z => by
    rcases List.mem_cons.mp (J.stkSub _ z) with q | q
    · have l := J.lt
      rw [← q] at l
      exact Nat.lt_irrefl _ (Nat.lt_of_lt_of_le l hb)
    · exact J.nofs hb q
  cases ha : codeAmong pos ps.toList with
  | some cv =>
    obtain ⟨k, rfl, fk⟩ := al pos cv ha
    refine PySem.W.kla_makeFunctionHit (mg := X.mg) (c := c) (P := P) (ps := ps) (closure_ok fr) J.ok.glob (J.mod.glob.keeps J.bk) hc (B.code.keeps J.bk) gP tp ha bP fun ctv h' tk hx hsz => ?_
    exact go h'.objs.size k ((X.mg "__name__").getD .none) ctv H _ (J.kept fun b o e => Heap.get?_push_of_some _ (hx b o e)) (.inl ⟨rfl, fk⟩) (Heap.get?_push_size _ rfl) (J.hok.fresh hsz) (off _ hsz)
  | none =>
    refine PySem.W.kla_makeFunction (mg := X.mg) (c := c) (P := P) (ps := ps) (closure_ok fr) J.ok.glob (J.mod.glob.keeps J.bk) hc (B.code.keeps J.bk) gP tp ha B.gP bP fun k ctv h' tk hx hge hlt hrec htb => ?_
    obtain ⟨k2, oc, vs, t, e2, hoc, hd, hv⟩ := hrec
    cases e2
    have le2 : s.heap.objs.size ≤ h'.objs.size := by omega
    have nk : H k = none := J.hok.fresh hge
    have n2 : h'.objs.size ≠ P := Nat.ne_of_gt (Nat.lt_of_lt_of_le (Heap.lt_size gP) le2)
    have J1 := LamX.inv_table (t' := tk) (more := #[rawInt pos.line, rawInt pos.col, .ref k]) (h' := h'.push (PySem.W.kla_obj "<lambda>" (X.env.qual ++ "<lambda>") params body scope (cloFrom X.env.cells scope.names []) ((X.mg "__name__").getD .none) k ctv)) J eP
      (fun b o nb e => Heap.get?_push_of_some _ (hx b o nb e)) (Heap.get?_push_of_some _ htb) hge ⟨oc, vs, t, Heap.get?_push_of_some _ hoc, hd, hv⟩
    refine go h'.objs.size k ((X.mg "__name__").getD .none) ctv _ _ J1 (.inr ⟨nk, pos, rfl⟩) (Heap.get?_push_size _ rfl) ?_ (off _ le2)
    rw [upd_ne (Nat.ne_of_gt hlt), upd_ne n2]
    exact J.hok.fresh le2
/-- the world behind -/
theorem lam_world {W : Wd} {h : Store} {t : Nat} {P k : Addr} {x q : Str} {ps : Array Value} {po : Pos} (ok : WOk K W h H) (mt : W.m[t]? = some P) (ht : h[t]? = some (.tab x q)) (eP : H P = some (.tbl ps)) (tp : TriplesOk ps.toList)
    (al : ∀ (p' : Pos) (cv : Value), codeAmong p' ps.toList = some cv → ∃ c0, cv = .ref c0 ∧ W.F c0 = some (LamX.CodeO c0 q)) (nk : H k = none) :
    Le W H ⟨upd W.F k (LamX.CodeO k q), W.m, W.O⟩ (upd (upd H P (.tbl (ps ++ #[rawInt po.line, rawInt po.col, .ref k]))) k (LamX.CodeO k q)) ∧ WOk K ⟨upd W.F k (LamX.CodeO k q), W.m, W.O⟩ h (upd (upd H P (.tbl (ps ++ #[rawInt po.line, rawInt po.col, .ref k]))) k (LamX.CodeO k q)) := by
  have Pm : P ∈ W.m := List.mem_of_getElem? mt
  have FP : W.F P = none := ok.mF P Pm
  have nkP : k ≠ P := fun z => by rw [z, eP] at nk; cases nk
  obtain ⟨Fk, km⟩ := ok.freshF nk
  have exF : Ex W.F (upd W.F k (LamX.CodeO k q)) := Ex.new Fk
  have old : ∀ b o, H b = some o → b ≠ P → (upd (upd H P (.tbl (ps ++ #[rawInt po.line, rawInt po.col, .ref k]))) k (LamX.CodeO k q)) b = some o := fun b o e n => by
    rw [upd_ne (ne_of_none e nk), upd_ne n]; exact e
  have atP : (upd (upd H P (.tbl (ps ++ #[rawInt po.line, rawInt po.col, .ref k]))) k (LamX.CodeO k q)) P = some (.tbl (ps ++ #[rawInt po.line, rawInt po.col, .ref k])) := by
    rw [upd_ne (Ne.symm nkP), upd_same]
  have live : ∀ a, H a ≠ none → (upd (upd H P (.tbl (ps ++ #[rawInt po.line, rawInt po.col, .ref k]))) k (LamX.CodeO k q)) a ≠ none := fun a z => by
    by_cases y : a = P
    · subst y; rw [atP]; simp
    · cases q' : H a with
      | none => exact absurd q' z
      | some u => rw [old a u q' y]; simp
  refine ⟨⟨exF, fun a o e hm => old a o e fun z => hm (z ▸ Pm), fun a o e => ?_, ⟨[], by simp, fun _ z => by cases z⟩, rfl, fun a ha => live a (ok.mN a ha)⟩,
    ⟨fun a o e => ?_, ok.len, fun i a c e1 e2 => ?_, fun a ha => ?_, fun a ha => live a (ok.mN a ha), ok.nd, fun i a u e => ?_, ok.ond⟩⟩
  · by_cases z : a = k
    · subst z; exact .inr nk
    · replace e : upd W.F k (LamX.CodeO k q) a = some o := e
      rw [upd_ne z] at e; exact .inl e
  · by_cases z : a = k
    · subst z
      replace e : upd W.F a (LamX.CodeO a q) a = some o := e
      rw [upd_same] at e
      cases e
      exact upd_same
    · replace e : upd W.F k (LamX.CodeO k q) a = some o := e
      rw [upd_ne z] at e
      exact old a o (ok.sub a o e) fun y => by rw [y, FP] at e; cases e
  · have y := ok.cel i a c e1 e2
    by_cases z : a = P
    · subst z
      have ei : i = t := (List.getElem?_inj (List.getElem?_eq_some_iff.mp e1).1 ok.nd).mp (e1.trans mt.symm)
      subst ei
      rw [ht] at e2
      cases e2
      refine ⟨y.1, _, atP, ?_, fun p' cv hcv => ?_⟩
      · rw [show (ps ++ #[rawInt po.line, rawInt po.col, .ref k]).toList = ps.toList ++ [rawInt po.line, rawInt po.col, .ref k] by simp]
        exact PySem.TriplesOk_snoc _ _ _ _ tp
      · rw [show (ps ++ #[rawInt po.line, rawInt po.col, .ref k]).toList = ps.toList ++ [rawInt po.line, rawInt po.col, .ref k] by simp] at hcv
        rcases LamX.among_app _ tp hcv with z | z
        · obtain ⟨c0, e3, e4⟩ := al p' cv z
          exact ⟨c0, e3, exF _ _ e4⟩
        · exact ⟨k, z, upd_same⟩
    · have na : a ≠ k := fun w => by
        have := ok.mN a (List.mem_of_getElem? e1)
        rw [w] at this
        exact this nk
      cases c with
      | lst ds => exact let ⟨vs, g1, g2⟩ := y; ⟨vs, old _ _ g1 z, Rps.mono exF ⟨[], by simp⟩ ds g2⟩
      | obj c ns ds => exact let ⟨dx, vs, g1, g2, g3⟩ := y; ⟨dx, vs, old _ _ g1 z, g2, Rps.mono exF ⟨[], by simp⟩ ds g3⟩
      | dic ks ds => exact let ⟨vs, g1, g2, g3⟩ := y; ⟨vs, old _ _ g1 z, g2, Rps.mono exF ⟨[], by simp⟩ ds g3⟩
      | tab x2 q2 => exact ⟨y.1, y.2.mono exF fun o e => old _ _ e z⟩
  · show upd W.F k (LamX.CodeO k q) a = none
    rw [upd_ne (show a ≠ k by rintro rfl; exact km ha)]; exact ok.mF a ha
  · obtain ⟨g1, g2, g3⟩ := ok.own i a u e
    exact ⟨old _ _ g1 fun z => g3 (z ▸ Pm), by show upd W.F k (LamX.CodeO k q) a = none; rw [upd_ne (ne_of_none g1 nk)]; exact g2, g3⟩
/-! ### it is called -/
def CallA (T : WX) (Z : Cx) (a c : Addr) (q : Str) (vs : List V) (act : List D → M D) : Prop := ∀ pins s σ H W h ds Q (pos : Pos), Inv Z pins σ H s → WOk Z.K W h H → W.F c = some (LamX.CodeO c q) → Rps Z.K W.F W.m ds vs →
  Post Z.K T W H σ (act ds h) (fun d _ W' H' => ∀ v, Rp Z.K W'.F W'.m d v → Q v H') → wpAny (model Z.prog Z.w) Z.A (callWith pos (.ref a) [] (backTo pos (starEach [] Z.env)) []) (EP Z pins σ Q) Z.xe s
open Classical in
noncomputable def mAct (i : Nat) (a c : Addr) (q : Str) (vs : List V) (act : List D → M D) : EM := fun ε h => match ε[i]? with
  | some (.pu (.clo a' c' q' vs' ds)) => if a' = a ∧ c' = c ∧ q' = q ∧ vs' = vs then act ds h else .no
  | _ => .no
theorem se_act {T : WX} {X : Cx} {i : Nat} {x : Str} {a c : Addr} {q : Str} {vs : List V} {act : List D → M D} {p1 p2 : Pos} (l : Sl X i x) (A : CallA T X a c q vs act) : SE T X (.Call (.Name x p1) [] [] p2) (mAct i a c q vs act) := by
  intro ε σ W h H Q r o p
  unfold mAct at p
  split at p
  · rename_i a' c' q' vs' ds e
    split at p
    · rename_i hh
      obtain ⟨rfl, rfl, rfl, rfl⟩ := hh
      obtain ⟨v, e1, e2⟩ := r.pure e
      unfold Rp at e2
      obtain ⟨rfl, e3, e4⟩ := e2
      intro pins s I
      refine wpAny_Call_Name_kw (thn (e_name (Q := fun v H1 => v = .ref a' ∧ H1 = H) l e1 ⟨rfl, rfl⟩ pins s I) fun u s1 ⟨v, H1, I1, r1, q1, q2⟩ => ?_)
      subst q1 q2
      obtain rfl : u = Value.ref a' := r1
      exact A pins s1 σ H1 W h ds Q p2 I1 o e3 e4 p
    · exact p.elim
  · exact p.elim
theorem act_ok {X : Cx} {pins : List (Addr × Obj)} {σ : L2.St} {s : Shared} {E0 : XK} {Ng : List Str} {qg : Str} {sg : Scope} {g f c' : Addr} {cdg pm ctv : Value} {params : Arguments} {body : Expr} {scope : Scope} {k : Nat} {pn : List (Addr × Obj)} {xe : Value → Shared → Prop} {T : WX} {ce : EM} {cap : List Nat} {vs : List V}
    (I : Inv X pins σ H s) (L : LamX.LamS X.env.scope scope) (hf : s.heap.get? f = some (PySem.W.kla_obj "<lambda>" (X.env.qual ++ "<lambda>") params body scope (cloFrom X.env.cells scope.names []) pm c' ctv)) (hfn : H f = none) (hfr : f ∉ frs X.stack)
    (hbind : bindArgs (PySem.W.kla_fn "<lambda>" (X.env.qual ++ "<lambda>") params body scope (cloFrom X.env.cells scope.names []) pm (.ref c') ctv) ⟨[], []⟩ = pure [])
    (tk : Takes ((cxT false (L2.CX X.prog X.w) X.prog X.w X.K X.mg X.base Ng qg sg g cdg X.A X.stack s H E0).tr pn xe) T) (hr : RoomG false (k + 1) (X.A.deeper (envOfC qg sg s.heap.objs.size g cdg)))
    (hbody : ∀ (A : Around) (outer : List Env) (s : Shared) (H : Hp) (E : XK), RoomG false k (A.deeper (LamX.lamEnv X scope s.heap.objs.size f c')) → SE (fun cls d _ H => E cls d H) (LamX.lamCx X A outer s H E scope f c') body ce)
    (cv : CapV σ cap vs) : CallA T ((cxT false (L2.CX X.prog X.w) X.prog X.w X.K X.mg X.base Ng qg sg g cdg X.A X.stack s H E0).tr pn xe) f c' (X.env.qual ++ "<lambda>") vs (fun ds => ce (capE X.N.length cap ds)) := by
  intro pinsZ sZ σZ HZ W h ds Q pos IZ ok hc rds p
  have of1 : sZ.heap.get? f = some (PySem.W.kla_obj "<lambda>" (X.env.qual ++ "<lambda>") params body scope (cloFrom X.env.cells scope.names []) pm c' ctv) := IZ.base.keep f _ hf hfn hfr (fun z => nomatch (show f ∈ ([] : List Addr) from z))
  refine PySem.W.callWith_F0 ⟨_, _, _, _, of1⟩ ?_
  have un : Un (frs X.stack) [] H HZ s.heap sZ.heap := IZ.base
  obtain ⟨⟨oc, ws, t, hoc, hdc, hvc⟩, _, _⟩ := IZ.hok c' _ (ok.sub _ _ hc)
  have eN : X.N.length = σ.length := I.len.symm
  have ok0 : WOk X.K ⟨W.F, W.m, List.replicate σ.length none⟩ h HZ := ⟨ok.sub, ok.len, ok.cel, ok.mF, ok.mN, ok.nd, fun i p u e => (own_rep e).elim, fun i j p u p' u' _ e _ => (own_rep e).elim⟩
  have rc : codeAny (model X.prog X.w) (X.A.deeper (envOfC qg sg s.heap.objs.size g cdg)) (.call (.ref f) ⟨[], []⟩) (CR (L2.CX X.prog X.w) (envOfC qg sg s.heap.objs.size g cdg :: X.stack) X.prog X.w HZ sZ Q (fun cls d H' => T cls d σZ H')) sZ := by
    refine PySem.W.kla_callFunE hr.depth of1 rfl L.co L.gen rfl ⟨c', oc, ws, t, rfl, hoc, hdc, hvc⟩ ?_
    rw [hbind]
    refine wpAny_pure (wpAny_newFunctionEnv (fun y hy => (L.own y hy).2) (fun y hy => absurd hy (by simp)) (fun h₁ hns hsb => ⟨IZ.nolimit.fresh _ hsb, ?_⟩) L.kind)
    show codeAny _ _ (.expr body (LamX.lamEnv X scope sZ.heap.objs.size f c')) _ _
    have kp : ∀ b o, sZ.heap.get? b = some o → h₁.get? b = some o := fun b o e => hsb.extBut b o (Nat.ne_of_lt (Heap.lt_size e)) (Heap.get?_push_of_some _ e)
    have J : Inv (LamX.lamCx X (X.A.deeper (envOfC qg sg s.heap.objs.size g cdg)) (envOfC qg sg s.heap.objs.size g cdg :: X.stack) sZ HZ (fun cls d H' => T cls d σZ H') scope f c') [] σ HZ { sZ with heap := h₁, toks := sZ.toks + ([] : List (Str × Value)).length } :=
      LamX.lam_start2 I L IZ.env0 (hr.hd rfl) un hns kp
    have rel := capRel cv rds
    have q0 := hbody (X.A.deeper (envOfC qg sg s.heap.objs.size g cdg)) (envOfC qg sg s.heap.objs.size g cdg :: X.stack) sZ HZ (fun cls d H' => T cls d σZ H') (hr.deeper _) _ _ ⟨W.F, W.m, List.replicate σ.length none⟩ h HZ Q rel ok0 (by
      rw [← eN]
      replace p : Post X.K T W HZ σZ (ce (capE X.N.length cap ds) h) (fun d _ W' H' => ∀ v, Rp X.K W'.F W'.m d v → Q v H') := p
      generalize ce (capE X.N.length cap ds) h = res at p ⊢
      cases res with
      | ok d h' => exact fun W' H' l o v rv => p ⟨W'.F, W'.m, W.O⟩ H' (l.reO W.O) (ok.reO (l.reO W.O) o) v rv
      | ex cc ns es h' => exact fun dx W' H' l o x => p dx ⟨W'.F, W'.m, W.O⟩ H' (l.reO W.O) (ok.reO (l.reO W.O) o) x
      | no => exact p.elim)
    refine PySem.W.kla_codeExpr (wpAny_mono (q0 [] _ J) (fun v s' hq => ?_) fun e s' hq => hq)
    obtain ⟨w', H', J', rv, q⟩ := hq
    exact ⟨w', H', J'.os, J'.bare, J'.base, J'.hok, rv, q⟩
  refine wpAny_call (codeAny_mono rc fun r s' hq => ?_)
  cases r with
  | error e => exact tk e s' (XE.of_call IZ (fun _ _ _ z => z) hq)
  | ok fl =>
    cases fl with
    | ret u => exact IZ.after hq
    | next => exact hq.elim
    | brk => exact hq.elim
    | cont => exact hq.elim
/-! ### the def that calls it -/
section
variable {P : Program} {w : World} {mg : Str → Option Value} {base : Heap}
theorem run_told {q : Bool} {x qual : Str} {params : Arguments} {body : List Stmt} {scope : Scope} {dvs : List V} {kws : List (Str × V)} {f : Addr} {fd : FuncData} {N ps : List Str} {CX : CXT} {k : Nat} {A : Around} {outer : List Env} {s : Shared} {args : Args} {us : List Value} {vs : List V} {Q : VK} {E : XK}
    (D : FunD K x qual params body scope dvs kws f fd) (S : FnScope N ps scope) (hl : vs.length = ps.length) (room : RoomG q (k + 1) A) (en : Env0 P w K mg base A outer s H) (bnd : BindsTo s fd args (ps.zip us)) (rv : Vals vs us)
    (hb : ∀ cdv, RoomG q k (A.deeper (envOfC qual scope s.heap.objs.size f cdv)) → Gb (cxT q CX P w K mg base N qual scope f cdv A outer s H E) body { nx := fun _ H' => Q .non H', rt := Q } (L2.start N vs) H) :
    codeAny (model P w) A (.call (.ref f) args) (CR CX outer P w H s Q E) s := by
  obtain ⟨oc, od, dV, kV, doc, pm, an, cdv, ct, osl, rfl, lk, hcd, _, _⟩ := D.ex
  have kin : K.In s.heap := en.mod.kin.keeps fun b o z => (en.bs b o z).1
  have nolim : s.heap.NoLimit := en.mod.nolimit.keeps fun b o z => (en.bs b o z).1
  have kinds : ∀ y ∈ ps.zip us, scope.names.lookup y.1 = some .local ∨ (scope.names.lookup y.1 = some .cell ∧ ((cellsFrom (s.heap.objs.size + 1) scope.names []).lookup y.1).isSome = true) := by
    rintro ⟨y1, y2⟩ hy
    exact (S.par y1 (List.of_mem_zip hy).1).imp id fun c => ⟨c, PySem.W.cellsFrom_some _ _ _ (.inl c)⟩
  refine codeAny_call_function room.depth (kin _ _ lk) rfl S.co S.gen rfl (PySem.W.codeRec_of kin hcd) (bnd _ _ _ _ ?_)
  refine wpAny_newFunctionEnv_cells S.kind kinds fun ev hev s1 x => ?_
  subst hev
  refine ⟨nolim.keeps x.toInCall.keep, codeAny_func ?_⟩
  have I0 : Inv (cxOf CX P w K mg base N qual scope f cdv { A with handled := none } outer s H E) [] (L2.start N vs) H s1 := inv_start S rfl ⟨en.frames, en.mod, en.bs, en.bsz, en.funs, en.frf, en.hok, en.bare⟩ hl rv x
  have I := inv_q (q := q) (A := A) I0 en.frames room.hd
  refine thn (hb cdv (room.deeper _) [] s1 I) fun fl s' z => ?_
  cases fl with
  | ret u =>
    obtain ⟨v, σ', h', J, r, q1⟩ := z
    exact ⟨v, h', J.os, J.bare, J.base, J.hok, r, q1⟩
  | next =>
    obtain ⟨σ', h', J, q1⟩ := z
    exact ⟨.non, h', J.os, J.bare, J.base, J.hok, rfl, q1⟩
  | brk => obtain ⟨_, _, _, q1⟩ := z; exact q1.elim
  | cont => obtain ⟨_, _, _, q1⟩ := z; exact q1.elim
/-- a def that calls what it got: it runs as g of the callee's run -/
structure OkH (P : Program) (w : World) (K : PySem.W.Frag) (mg : Str → Option Value) (base : Heap) (k : Nat) (d : DefZ) (p : Str) (g : M D → M D) : Prop where
  ex : ∃ fd, FunD K d.name d.qual (defArgs d.st) (defBody d.st) (defScope d.st) d.dfl d.kwd (d.at_.at K) fd ∧ ∀ (A : Around) (outer : List Env) (s : Shared) (H : Hp) (W : Wd) (h : Store) (a c : Addr) (q : Str) (vs : List V) (ds : List D) (act : List D → M D) (args : Args) (Q : VK) (E : XK),
    RoomG false k A → Env0 P w K mg base A outer s H → BindsTo s fd args [(p, .ref a)] → W.O = [] → WOk K W h H → W.F c = some (LamX.CodeO c q) → Rps K W.F W.m ds vs →
    (∀ (N : List Str) cdv T pn xe, Takes ((cxT false (L2.CX P w) P w K mg base N d.qual (defScope d.st) (d.at_.at K) cdv A outer s H E).tr pn xe) T → RoomG false (k - 1) (A.deeper (envOfC d.qual (defScope d.st) s.heap.objs.size (d.at_.at K) cdv)) → CallA T ((cxT false (L2.CX P w) P w K mg base N d.qual (defScope d.st) (d.at_.at K) cdv A outer s H E).tr pn xe) a c q vs act) →
    PostF K W H (g (act ds) h) Q E → codeAny (model P w) A (.call (.ref (d.at_.at K)) args) (CR (L2.CX P w) outer P w H s Q E) s
theorem okh_of {fa : List Fz} {fn : List DefZ} {d : DefZ} {N : List Str} {lvl : Nat} {p : Str} {g : M D → M D} (c : SaysZ fa fn K) (i : Nat) (hi : fn[i]? = some d) {cS : Addr → Addr → Str → List V → (List D → M D) → SC} (S : FnScope N [p] (defScope d.st)) (hl : 1 ≤ N.length)
    (par : ∀ a c q vs ds act h, runF (cS a c q vs act) N.length [.clo a c q vs ds] h = g (act ds) h)
    (hb : ∀ {T X} {a c : Addr} {q : Str} {vs : List V} {act : List D → M D}, Cz P w K mg base lvl X N (defScope d.st) true false → Takes X T → PassesOwn (model X.prog X.w) X.A X.env X.xe → (∀ T' pn xe, Takes (X.tr pn xe) T' → CallA T' (X.tr pn xe) a c q vs act) → SB T X (defBody d.st) (cS a c q vs act)) : OkH P w K mg base (lvl + 1) d p g := by
  obtain ⟨fd, F⟩ := c.def_ i hi
  refine ⟨fd, F, fun A outer s H W h a c q vs ds act args Q E room en bnd hO ok hF rps acts post => ?_⟩
  refine run_told (N := N) (vs := [V.ref a]) (us := [.ref a]) F S rfl room en bnd (.cons rfl .nil) fun cdv hr => ?_
  refine body_of (X := cxT false (L2.CX P w) P w K mg base N d.qual (defScope d.st) (d.at_.at K) cdv A outer s H E) (T := fun cls d _ H => E cls d H) (E := E) (fun _ _ _ _ h => h) rfl (by simpa using hl) (hb ⟨rfl, rfl, rfl, rfl, rfl, rfl, rfl, hr, fun z => rfl, S.nd, fun _ _ => rfl, hr.units64, hr.gd, fun _ => ⟨rfl, rfl, rfl⟩⟩ (takes_of rfl rfl rfl rfl) (passes_of rfl) fun T' pn xe tk => acts N cdv T' pn xe tk hr) ?_
  exact ⟨W, h, [.clo a c q vs ds], hO, ok, Rps.cons (by unfold Rp; exact ⟨rfl, hF, rps⟩) Rps.nil, by rw [par]; exact post⟩
end
/-! ### told(lambda: e) -/
def mLam (t : Nat) (x q : Str) (n : Nat) (cap : List Nat) (g : M D → M D) (ce : EM) : EM := fun ε h => match h[t]? with
  | some (.tab x' q') => if x' = x ∧ q' = q then (match capD ε cap with
    | some ds => g (ce (capE n cap ds)) h
    | none => .no) else .no
  | _ => .no
theorem se_lam {P : Program} {w : World} {mg : Str → Option Value} {base : Heap} {T : WX} {X : Cx} {lvl k t n : Nat} {x q told p : Str} {cap : List Nat} {g : M D → M D} {ce : EM} {d : DefZ} {fa : List Fz} {fn : List DefZ} {N : List Str} {sc scope : Scope} {fb : Bool} {params : Arguments} {body : Expr} {p1 lpos pos : Pos}
    (Γ : Gz fa fn K mg) (TB : LamX.TabB base mg (codeAd K (ga K x)) (tabAd K x)) (C : Cz P w K mg base lvl X N sc fb false) (tk : Takes X T) (hcode : X.env.code = .ref (codeAd K (ga K x))) (hq : X.env.qual ++ "<lambda>" = q) (hn : N.length = n)
    (O : OkH P w K mg base k d p g) (hk : k ≤ lvl) (hd : d.at_ = .glo told) (kb : ∀ {fd}, FunZ K d fd → Binds K fd [p] []) (i : Nat) (hf : fa[i]? = some (.glo told)) (hg : glB sc told = true)
    (L : LamX.lamSB sc scope = true) (hdef : defaultsOf params X.env = ([], [])) (hbind : ∀ (qq : Str) (cl : List (Str × Addr)) (pm cv ctv : Value), bindArgs (PySem.W.kla_fn "<lambda>" qq params body scope cl pm cv ctv) ⟨[], []⟩ = pure []) {j : Nat} (hj : j + 1 = k)
    (hbody : ∀ {T' Y}, Cz P w K mg base (j - 1) Y N scope false false → Takes Y T' → PassesOwn (model Y.prog Y.w) Y.A Y.env Y.xe → SE T' Y body ce) (hj1 : 1 ≤ j) : SE T X (.Call (.Name told p1) [.Lambda params body scope lpos] [] pos) (mLam t x q n cap g ce) := by
  obtain ⟨fd, F, run⟩ := O.ex
  obtain ⟨h0, X0, G0⟩ := Γ.ex
  obtain ⟨e1, e2⟩ := fz_glo X0 G0 (Γ.says.fact i hf)
  have B := kb F
  have hgl := gl_at C told hg
  obtain ⟨rfl, rfl, rfl, rfl, rfl, rfl, rfl, hr, hcm, hnd, _, _, _, _⟩ := C
  intro ε σ W h H Q r o pp
  unfold mLam at pp
  split at pp
  · rename_i x' q' et
    split at pp
    · rename_i hxq
      obtain ⟨rfl, rfl⟩ := hxq
      split at pp
      · rename_i ds ecap
        have ht : t < W.m.length := by rw [o.len]; exact (List.getElem?_eq_some_iff.mp et).1
        have em : W.m[t]? = some W.m[t] := List.getElem?_eq_getElem ht
        obtain ⟨eP, ps, hP, tp, al⟩ := o.cel t _ _ em et
        obtain ⟨vs, cv, rds⟩ := capD_ok r ecap
        rw [eP] at em hP
        have LS := LamX.lamS_by L
        subst hq
        intro pins s I
        refine wpAny_Call_Name_kw (ld_glob I hgl e1 ?_ (nb (He.ba hg).2))
        refine PySem.W.callWith_K (h₀ := X.base) I.ok.mod.kin e2 ?_ (by rfl) (by rfl)
        show wpAny _ _ (spliced ((false, eval (.Lambda params body scope lpos) X.env) :: backTo pos (starEach [] X.env))) _ _ s
        refine Calls.spliced_cons (lam_mk (F := W.F) I TB hcode hP tp al hdef (LS.has I.ok) fun f c' pm ctv H1 s' I1 ch hf1 hfn hfr => Calls.spliced_nil ⟨I1.kIn, ?_⟩)
        have key : ∃ W1, Le W H W1 H1 ∧ WOk X.K W1 h H1 ∧ W1.F c' = some (LamX.CodeO c' (X.env.qual ++ "<lambda>")) := by
          rcases ch with ⟨rfl, hc⟩ | ⟨nk, po, rfl⟩
          · exact ⟨W, Le.rfl' o.mN, o, hc⟩
          · obtain ⟨l, o2⟩ := lam_world (po := po) o em et hP tp al nk
            exact ⟨_, l, o2, upd_same⟩
        obtain ⟨W1, l1, o1, hc1⟩ := key
        have l0 : ∀ {W' : Wd} {H' : Hp}, Le ⟨W1.F, W1.m, []⟩ H1 W' H' → Le W1 H1 ⟨W'.F, W'.m, W1.O⟩ H' := fun {W' H'} l => l.reO W1.O
        have ok0 : WOk X.K ⟨W1.F, W1.m, []⟩ h H1 := ⟨o1.sub, o1.len, o1.cel, o1.mF, o1.mN, o1.nd, fun i p u e => by simp at e, fun i j p u p' u' _ e _ => by simp at e⟩
        have rds1 := Rps.mono l1.F l1.mx ds rds
        subst hn
        have rc := run X.A X.stack s' H1 ⟨W1.F, W1.m, []⟩ h f c' (X.env.qual ++ "<lambda>") vs ds (fun ds => ce (capE X.N.length cap ds)) ⟨[.ref f], []⟩ Q (fun cls d H' => T cls d σ H') (hr.mono hk) I1.env0 (B s' [.ref f] I1.kIn rfl) rfl ok0 hc1 rds1
          (fun N' cdv T' pn xe tk' hr' => act_ok (k := j - 1) I1 LS hf1 hfn hfr (hbind _ _ _ _ _) tk' (by
            have e : j - 1 + 1 = k - 1 := by omega
            rw [e]; exact hr') (fun A outer s2 H2 E hrA => hbody ⟨rfl, rfl, rfl, rfl, rfl, rfl, rfl, hrA, fun _ => rfl, hnd, fun z => (by cases z), hrA.units64, hrA.gd, fun z => (by cases z)⟩ (takes_of rfl rfl rfl rfl) (passes_of rfl)) cv) (by
          generalize g (ce (capE X.N.length cap ds)) h = res at pp ⊢
          cases res with
          | ok d' h' => exact fun v W' H' l ow rv => pp ⟨W'.F, W'.m, W.O⟩ H' (l1.tr (l0 l) |> fun z => by rw [l1.O] at z; exact z) (o.reO (l1.tr (l0 l) |> fun z => by rw [l1.O] at z; exact z) ow) v rv
          | ex cc ns es h' => exact fun dx W' H' l ow x => pp dx ⟨W'.F, W'.m, W.O⟩ H' (l1.tr (l0 l) |> fun z => by rw [l1.O] at z; exact z) (o.reO (l1.tr (l0 l) |> fun z => by rw [l1.O] at z; exact z) ow) (x.back fun _ => l1.fresh)
          | no => exact pp.elim)
        rw [hd] at rc
        refine wpAny_call (codeAny_mono rc fun r s2 hq => ?_)
        cases r with
        | error e => exact tk e s2 (XE.of_call I1 (fun _ _ _ z => z) hq)
        | ok fl =>
          cases fl with
          | ret u => exact I1.after hq
          | next => exact hq.elim
          | brk => exact hq.elim
          | cont => exact hq.elim
      · exact pp.elim
    · exact pp.elim
  · exact pp.elim
end Z
set_option Elab.async false
set_option linter.all false
set_option maxRecDepth 100000
set_option maxHeartbeats 4000000
namespace Z
open PySem PySem.Spec PyProof.Rows L2 G
variable {K : PySem.W.Frag} {F F' H H' : Hp} {m m' : List Addr}
/-! ### a def that makes lambdas: its code object is known -/
theorem codeAd_of {x qual : Str} {params : Arguments} {body : List Stmt} {scope : Scope} {dvs : List V} {kws : List (Str × V)} {f : Addr} {fd : FuncData} (D : FunD K x qual params body scope dvs kws f fd) : fd.code = .ref (codeAd K f) := by
  obtain ⟨oc, od, dV, kV, doc, pm, an, cdv, ct, osl, rfl, lk, hcd, _, _⟩ := D.ex
  obtain ⟨c, rfl⟩ := He.codeIn_ref hcd
  unfold codeAd
  rw [lk]
section
variable {P : Program} {w : World} {mg : Str → Option Value} {base : Heap} {lvl : Nat} {fa : List Fz} {fn : List DefZ} {d : DefZ} {N ps : List Str}
theorem okl_of {x qs : Str} (c : SaysZ fa fn K) (i : Nat) (h : fn[i]? = some d) {cS : SC} (S : FnScope N ps (defScope d.st)) (hl : ps.length ≤ N.length) (hx : d.at_ = .glo x) (hqs : d.qual ++ ".<locals>." ++ "<lambda>" = qs)
    (hb : ∀ {T X}, Cz P w K mg base lvl X N (defScope d.st) true false → Takes X T → PassesOwn (model X.prog X.w) X.A X.env X.xe → X.env.code = .ref (codeAd K (ga K x)) → X.env.qual ++ "<lambda>" = qs → SB T X (defBody d.st) cS) : OkD false P w K mg base (lvl + 1) d ps (spM K ps.length (runF cS N.length)) := by
  obtain ⟨fd, F⟩ := c.def_ i h
  have F0 := F
  have hc := codeAd_of F
  obtain ⟨oc, od, dV, kV, doc, pm, an, cdv, ct, osl, rfl, lk, hcd, _, _⟩ := F.ex
  refine ⟨_, F0, ⟨fun vs H Q E h => h.1, fun A outer s H args us vs Q E room en bnd rv hp => ?_⟩⟩
  have hc2 : cdv = .ref (codeAd K (d.at_.at K)) := hc
  have kin : K.In s.heap := en.mod.kin.keeps fun b o z => (en.bs b o z).1
  have nolim : s.heap.NoLimit := en.mod.nolimit.keeps fun b o z => (en.bs b o z).1
  have kinds : ∀ y ∈ ps.zip us, (defScope d.st).names.lookup y.1 = some .local ∨ ((defScope d.st).names.lookup y.1 = some .cell ∧ ((cellsFrom (s.heap.objs.size + 1) (defScope d.st).names []).lookup y.1).isSome = true) := by
    rintro ⟨y1, y2⟩ hy
    exact (S.par y1 (List.of_mem_zip hy).1).imp id fun c => ⟨c, PySem.W.cellsFrom_some _ _ _ (.inl c)⟩
  refine codeAny_call_function room.depth (kin _ _ lk) rfl S.co S.gen rfl (PySem.W.codeRec_of kin hcd) (bnd _ _ _ _ ?_)
  refine wpAny_newFunctionEnv_cells S.kind kinds fun ev hev s1 x => ?_
  subst hev
  refine ⟨nolim.keeps x.toInCall.keep, codeAny_func ?_⟩
  have I0 : Inv (cxOf (L2.CX P w) P w K mg base N d.qual (defScope d.st) (d.at_.at K) cdv { A with handled := none } outer s H E) [] (L2.start N vs) H s1 := inv_start S rfl ⟨en.frames, en.mod, en.bs, en.bsz, en.funs, en.frf, en.hok, en.bare⟩ (by rw [hp.1]) rv x
  have I := inv_q (q := false) (A := A) I0 en.frames room.hd
  have hr := room.deeper (envOfC d.qual (defScope d.st) s.heap.objs.size (d.at_.at K) cdv)
  have go := body_of (X := cxT false (L2.CX P w) P w K mg base N d.qual (defScope d.st) (d.at_.at K) cdv A outer s H E) (T := fun cls d _ H => E cls d H) (E := E) (vs := vs) (fun _ _ _ _ h => h) rfl (by rw [hp.1]; exact hl)
    (hb ⟨rfl, rfl, rfl, rfl, rfl, rfl, rfl, hr, fun z => rfl, S.nd, fun _ _ => rfl, hr.units64, hr.gd, fun _ => ⟨rfl, rfl, rfl⟩⟩ (takes_of rfl rfl rfl rfl) (passes_of rfl) (by rw [hx] at hc2; exact hc2) hqs) hp.2
  refine thn (go [] s1 I) fun fl s' z => ?_
  cases fl with
  | ret u =>
    obtain ⟨v, σ', h', J, r, q1⟩ := z
    exact ⟨v, h', J.os, J.bare, J.base, J.hok, r, q1⟩
  | next =>
    obtain ⟨σ', h', J, q1⟩ := z
    exact ⟨.non, h', J.os, J.bare, J.base, J.hok, rfl, q1⟩
  | brk => obtain ⟨_, _, _, q1⟩ := z; exact q1.elim
  | cont => obtain ⟨_, _, _, q1⟩ := z; exact q1.elim
end
/-! ### the head, with tables -/
def csK (tl : List Str) (K : PySem.W.Frag) : List (Addr × Addr) := tl.map fun x => (codeAd K (ga K x), tabAd K x)
def tabsZ (g : Addr → Option Obj) (tl : List Str) (K : PySem.W.Frag) : Bool := ((csK tl K).all fun p => PySem.W.codeHdIn K p.1 p.2 && (match g p.2 with
  | some o => He.emptyTab o
  | none => false)) && decide ((csK tl K).map (·.2)).Nodup
def asZ (g : Addr → Option Obj) (n : Nat) : List Addr := He.asD g n ++ [cStatics]
abbrev AlT : Type := AlZ × Bool
def obsTG (n : Nat) (fa : List Fz) (fn : List DefZ) (tl : List Str) (g : Addr → Option Obj) : AlT := (obsZ fa fn (He.frT g (asZ g n)), tabsZ g tl (He.frT g (asZ g n)))
structure SaysT (fa : List Fz) (fn : List DefZ) (tl : List Str) (h : Heap) (K : PySem.W.Frag) : Prop where
  z : SaysZ fa fn K
  hd : ∀ p ∈ csK tl K, PySem.W.codeHdIn K p.1 p.2 = true
  tb : ∀ p ∈ csK tl K, h.get? p.2 = some { cls := .none, data := .fields #[] }
  out : ∀ p ∈ csK tl K, K.lookup p.2 = none
  nd : ((csK tl K).map (·.2)).Nodup
theorem saysT_of {n : Nat} {fa : List Fz} {fn : List DefZ} {tl : List Str} {h : Heap} (e : obsTG n fa fn tl h.get? = (valZ fn, true)) : SaysT fa fn tl h (He.frT h.get? (asZ h.get? n)) := by
  have e1 : obsZ fa fn (He.frT h.get? (asZ h.get? n)) = valZ fn := congrArg (fun z : AlT => z.1) e
  have e2 : tabsZ h.get? tl (He.frT h.get? (asZ h.get? n)) = true := congrArg (fun z : AlT => z.2) e
  obtain ⟨h1, h2⟩ := He.ba e2
  have key : ∀ p ∈ csK tl (He.frT h.get? (asZ h.get? n)), PySem.W.codeHdIn (He.frT h.get? (asZ h.get? n)) p.1 p.2 = true ∧ ∃ o, h.get? p.2 = some o ∧ He.emptyTab o = true := fun p hp => by
    obtain ⟨h3, h4⟩ := He.ba (List.all_eq_true.mp h1 p hp)
    refine ⟨h3, ?_⟩
    split at h4
    · rename_i o q
      exact ⟨o, q, h4⟩
    · cases h4
  refine ⟨e1, fun p hp => (key p hp).1, fun p hp => ?_, fun p hp => ?_, of_decide_eq_true h2⟩
  · obtain ⟨_, o, q, z⟩ := key p hp
    rw [q, He.emptyTab_eq z]
  · obtain ⟨_, o, q, z⟩ := key p hp
    exact He.frT_none q z
def hookT (n : Nat) (fa : List Fz) (fn : List DefZ) (tl : List Str) : PySem.W.Hook where
  α := AlT
  obs := fun s => obsTG n fa fn tl s.heap.get?
  val := fun _ => (valZ fn, true)
  says := fun _ h => ∃ K : PySem.W.Frag, K.In h ∧ SaysT fa fn tl h K
  of := fun _ _ e => ⟨_, He.frT_in, saysT_of e⟩
  keeps := fun _ _ _ ⟨K, hK, c⟩ k => ⟨K, PySem.W.Frag.In.keeps hK k, ⟨c.z, c.hd, fun p hp => k _ _ (c.tb p hp), c.out, c.nd⟩⟩
theorem obsTG_eq {n : Nat} {fa : List Fz} {fn : List DefZ} {tl : List Str} {g : Addr → Option Obj} {s : Shared} (h : ∀ a, g a = s.heap.get? a) : obsTG n fa fn tl g = (hookT n fa fn tl).obs s := by
  have e : g = s.heap.get? := funext h
  rw [e] <;> rfl
/-- the tables' base facts -/
def TbsZ (tl : List Str) (K : PySem.W.Frag) (mg : Str → Option Value) (base : Heap) : Prop := ∀ x ∈ tl, LamX.TabB base mg (codeAd K (ga K x)) (tabAd K x)
theorem tb_at {tl : List Str} {mg : Str → Option Value} {base : Heap} {x : Str} (TB : TbsZ tl K mg base) (i : Nat) (h : tl[i]? = some x) : LamX.TabB base mg (codeAd K (ga K x)) (tabAd K x) := TB x (List.mem_of_getElem? h)
/-! ### the end, with tables -/
theorem att_lawT {Pg : Program} {Wd : World} {Kf : PySem.W.Frag} {gl bl' : Str → Option Value} {T : CXT} {lvl : Nat} {at' ls : Addr} {cs : List (Addr × Addr)} {code : FuncData} {par : Str} {pr : Sp} {s0 : Shared} {vals : List Value} {nums : List Int}
    (kin : Kf.In s0.heap) (nsm : s0.heap.Ns mainGlobals gl) (nsb : s0.heap.Ns builtinsNs bl') (same : ∀ y : Str, y ≠ "__name__" → bl' y = bootBuiltins y) (nolim : s0.heap.NoLimit) (nogen : s0.gens = #[])
    (tbs : ∀ p ∈ cs, s0.heap.get? p.2 = some { cls := .none, data := .fields #[] }) (outT : ∀ p ∈ cs, Kf.lookup p.2 = none) (heads : ∀ p ∈ cs, PySem.W.CodeHd s0.heap p.1 p.2)
    (bmod : ∃ (bm : Addr) (ob : Obj), gl "__builtins__" = some (.ref bm) ∧ bm ≠ builtinsNs ∧ s0.heap.get? bm = some ob ∧ ob.cls = .type "module" ∧ ob.dict = some builtinsNs ∧ ob.data = .plain)
    (obj : s0.heap.get? ls = some { cls := .type "list", data := .seq vals.toArray }) (iv : IntsAre vals nums) (small : nums.length ≤ sizeLine) (room : Room lvl callerA)
    (Fn : ∀ b : Heap, Kf.In b → b.Ns mainGlobals gl → (∀ p ∈ cs, LamX.TabB b gl p.1 p.2) → FnG Pg Wd Kf gl b T lvl at' code [par] pr) (bnd : ∀ (s : Shared) (u : Value), BindsTo s code ⟨[u], []⟩ [(par, u)])
    (holds : ∀ H G : Hp, (∀ p ∈ cs, H p.2 = some (.tbl #[])) → Ex G H → (∀ p ∈ cs, G p.2 = none) → SqL Kf G ls (nums.map V.int) → pr [.ref ls] H (fun v _ => v = .bl true) fun _ _ _ => False)
    (quiet : ∀ H e s', T [] H s0 (fun _ _ _ => False) e s' → False) :
    codeAny (model Pg Wd) callerA (.call (.ref at') ⟨[.ref ls], []⟩) (fun r s' => r = .ok (.ret (.bool true)) ∧ OldK s0.heap s'.heap ∧ s'.os = s0.os ∧ AllBare s'.gens) s0 := by
  have rel := vals_ints iv
  have size := iv.length
  have tabAt : ∀ {b : Addr}, b ∈ cs.map (·.2) → s0.heap.get? b = some { cls := .none, data := .fields #[] } := fun {b} hb => by
    obtain ⟨p, hp, rfl⟩ := List.mem_map.mp hb
    exact tbs p hp
  have lsT : ls ∉ cs.map (·.2) := fun z => by
    have q := tabAt z
    rw [obj] at q
    have q2 : Data.seq vals.toArray _ = Data.fields #[] := congrArg Obj.data (Option.some.inj q)
    cases q2
  have main : ∀ H G : Hp, (∀ p ∈ cs, H p.2 = some (.tbl #[])) → Ex G H → (∀ p ∈ cs, G p.2 = none) → (∀ b, H b = none ∨ b ∈ cs.map (·.2) ∨ ∃ o xs, H b = some (.frz o (.lst xs))) → SqL Kf G ls (nums.map V.int) → HOk Pg Wd H s0.heap → (∀ b, H b ≠ none → b = ls ∨ b ∈ cs.map (·.2)) → (H ls ≠ none → Kf.lookup ls = none) →
      codeAny (model Pg Wd) callerA (.call (.ref at') ⟨[.ref ls], []⟩) (fun r s' => r = .ok (.ret (.bool true)) ∧ OldK s0.heap s'.heap ∧ s'.os = s0.os ∧ AllBare s'.gens) s0 := by
    intro H G hT exG gT only sq hok one out
    have hid : ∀ {b : Addr} {o : Obj}, s0.heap.get? b = some o → H b = none → (hidT s0.heap H).get? b = some o := fun e n => hidT_get e n
    have loose : ∀ {b : Addr} {o : Obj}, s0.heap.get? b = some o → (∀ vs n, o.data ≠ .seq vs n) → o.data ≠ .fields #[] → H b = none := by
      intro b o e h1 h2
      cases q : H b with
      | none => rfl
      | some u =>
        rcases one b (by rw [q]; simp) with rfl | e'
        · rw [obj] at e
          cases e
          exact (h1 _ _ rfl).elim
        · rw [tabAt e'] at e
          cases e
          exact (h2 rfl).elim
    have nsHid : ∀ {b : Addr} {m : Str → Option Value}, s0.heap.Ns b m → (hidT s0.heap H).Ns b m := by
      rintro b m ⟨o, es, ep, e, d, r⟩
      refine ⟨o, es, ep, hid e (loose e (fun vs n z => ?_) fun z => ?_), d, r⟩
      · rw [d] at z; cases z
      · rw [d] at z; cases z
    have kHid : Kf.In (hidT s0.heap H) := by
      intro b o e
      refine hid (kin b o e) ?_
      cases q : H b with
      | none => rfl
      | some u =>
        rcases one b (by rw [q]; simp) with rfl | e'
        · rw [out (by rw [q]; simp)] at e
          cases e
        · obtain ⟨p, hp, rfl⟩ := List.mem_map.mp e'
          have z := outT p hp
          replace e : Kf.lookup p.2 = some o := e
          rw [z] at e
          cases e
    have md : Mod Kf gl (hidT s0.heap H) := by
      obtain ⟨mc, l1, l2⟩ := nolim
      exact ⟨kHid, nsHid nsm, ⟨bl', nsHid nsb, same⟩, mc, nsHid l1, l2⟩
    have TB : ∀ p ∈ cs, LamX.TabB (hidT s0.heap H) gl p.1 p.2 := fun p hp => by
      have tp := tbs p hp
      refine ⟨?_, ?_, fun z => ?_⟩
      · obtain ⟨o, us, fi, tf, fl, tg, nF, tx, tt, e1, r1, r2, r3, rr⟩ := heads p hp
        refine ⟨o, us, fi, tf, fl, tg, nF, tx, tt, hid e1 (loose e1 (fun vs n z => ?_) fun z => ?_), r1, r2, r3, rr⟩
        · rw [r2] at z; cases z
        · rw [r2] at z
          cases z
          simp at r3
      · obtain ⟨bm, ob, b1, b2, b3, b4, b5, b6⟩ := bmod
        refine ⟨bm, ob, b1, b2, fun q => ?_, fun q => ?_, hid b3 (loose b3 (fun vs n z => ?_) fun z => ?_), b4, b5, b6⟩
        · obtain ⟨o, es, ep, e, hd, _⟩ := nsm
          rw [q, e] at b3
          cases b3
          rw [hd] at b6
          cases b6
        · rw [q, tp] at b3
          cases b3
          cases b6
        · rw [b6] at z; cases z
        · rw [b6] at z; cases z
      · obtain ⟨o, es, ep, e, hd, _⟩ := nsm
        rw [z, tp] at e
        cases e
        cases hd
    have env : Env0 Pg Wd Kf gl (hidT s0.heap H) callerA [] s0 H := ⟨rfl, md, fun b o e => of_hidT e, Nat.le_of_eq (hidT_size _ _), trivial, fun b hb => absurd (show b ∈ ([] : List Addr) from hb) (by simp), hok, .of_eq nogen⟩
    refine codeAny_mono ((Fn _ kHid (nsHid nsm) TB).go callerA [] s0 H ⟨[.ref ls], []⟩ [.ref ls] [.ref ls] _ _ rfl room env (bnd s0 (.ref ls)) (.cons rfl .nil) (holds H G hT exG gT sq)) fun res s' h => ?_
    match res, h with
    | .error e, h => exact (quiet H e s' h).elim
    | .ok .next, h => exact h.elim
    | .ok .brk, h => exact h.elim
    | .ok .cont, h => exact h.elim
    | .ok (.ret u), ⟨v, H', os, bare, un, hok', r', q⟩ =>
      have q' : v = .bl true := q
      subst q'
      obtain rfl : u = Value.bool true := r'
      have stays : ∀ b o, b ∉ cs.map (·.2) → s0.heap.get? b = some o → s'.heap.get? b = some o := fun b o nb e => by
        rcases only b with z | z | ⟨ob, xs, z⟩
        · exact un.keep b o e z (by intro y; exact absurd (show b ∈ ([] : List Addr) from y) (by simp)) (by simp)
        · exact absurd z nb
        · obtain ⟨e1, _⟩ := hok b _ z
          obtain ⟨e2, _⟩ := hok' b _ (un.frzs b ob _ z)
          rw [e] at e1
          cases e1
          exact e2
      have grown : ∀ p ∈ cs, ∃ more : Array Value, s'.heap.get? p.2 = some { cls := .none, data := .fields more } := fun p hp => by
        obtain ⟨more, z⟩ := un.tbls p.2 #[] (hT p hp)
        exact ⟨_, hok' p.2 _ z⟩
      refine ⟨rfl, ⟨fun b o e => ?_, fun b o e => ?_⟩, os, bare⟩
      all_goals by_cases hb : b ∈ cs.map (·.2)
      · obtain ⟨p, hp, rfl⟩ := List.mem_map.mp hb
        obtain ⟨more, hm⟩ := grown p hp
        replace e : s0.heap.get? p.2 = some o := e
        rw [tbs p hp] at e
        cases e
        exact .inr (.inl ⟨((heads p hp).tab (tbs p hp)).isCodeTable, rfl, #[], more, rfl, by rw [Array.empty_append]; exact hm⟩)
      · exact .inl (stays b o hb e)
      · obtain ⟨p, hp, rfl⟩ := List.mem_map.mp hb
        obtain ⟨more, hm⟩ := grown p hp
        exact ⟨_, hm⟩
      · exact ⟨o, stays b o hb e⟩
  have inT : ∀ p ∈ cs, p.2 ∈ cs.map (·.2) := fun p hp => List.mem_map.mpr ⟨p, hp, rfl⟩
  cases look : Kf.lookup ls with
  | some o =>
    have e := kin ls o look
    rw [obj] at e
    cases e
    refine main (fun b => if b ∈ cs.map (·.2) then some (.tbl #[]) else none) (fun _ => none) (fun p hp => if_pos (inT p hp)) (fun _ _ z => nomatch z) (fun _ _ => rfl) (fun b => ?_) (.inr ⟨_, vals.toArray, _, look, rfl, rfl, rfl, by rw [List.size_toArray, size]; exact small, by simpa using rel⟩) (fun b u z => ?_) (fun b z => ?_) fun z => absurd (if_neg lsT) z
    all_goals by_cases hb : b ∈ cs.map (·.2)
    · exact .inr (.inl hb)
    · exact .inl (if_neg hb)
    · have z' := (if_pos hb).symm.trans z
      cases z'
      exact tabAt hb
    · exact nomatch ((if_neg hb).symm.trans z)
    · exact .inr hb
    · exact absurd (if_neg hb) z
  | none =>
    have nl : ∀ p ∈ cs, ¬ p.2 = ls := fun p hp z => lsT (z ▸ inT p hp)
    refine main (fun b => if b = ls then some (.frz { cls := .type "list", data := .seq vals.toArray } (.lst (nums.map V.int))) else if b ∈ cs.map (·.2) then some (.tbl #[]) else none) (fun b => if b = ls then some (.frz { cls := .type "list", data := .seq vals.toArray } (.lst (nums.map V.int))) else none)
      (fun p hp => (if_neg (nl p hp)).trans (if_pos (inT p hp))) (fun b u z => ?_) (fun p hp => if_neg (nl p hp)) (fun b => ?_) (.inl (.inr ⟨{ cls := .type "list", data := .seq vals.toArray }, if_pos rfl⟩)) (fun b u z => ?_) (fun b z => ?_) fun _ => look
    all_goals by_cases hb : b = ls
    · exact (if_pos hb).trans ((if_pos hb).symm.trans z)
    · exact nomatch ((if_neg hb).symm.trans z)
    · exact .inr (.inr ⟨_, _, if_pos hb⟩)
    · by_cases hb2 : b ∈ cs.map (·.2)
      · exact .inr (.inl hb2)
      · exact .inl ((if_neg hb).trans (if_neg hb2))
    · have z' := (if_pos hb).symm.trans z
      cases z'
      subst hb
      exact ⟨obj, by rw [List.length_map]; exact small, vals, _, rel, obj⟩
    · have z1 := (if_neg hb).symm.trans z
      by_cases hb2 : b ∈ cs.map (·.2)
      · have z' := (if_pos hb2).symm.trans z1
        cases z'
        exact tabAt hb2
      · exact nomatch ((if_neg hb2).symm.trans z1)
    · exact .inl hb
    · by_cases hb2 : b ∈ cs.map (·.2)
      · exact .inr hb2
      · exact absurd ((if_neg hb).trans (if_neg hb2)) z
theorem walk_ofT {l : PySem.W.OpenLaw} {most lvl : Nat} {q : Program} {loose : List Str} {xp : (Str → Option Value) → Heap → Prop} {yp : World → Heap → Prop} {d : DefRec} {cx : World → CXT} {par : Str} (h1 : l.most = some most) (h2 : most ≤ sizeLine) (h3 : d.params.defaults = []) (h4 : Room lvl callerA)
    (h5 : ∀ (w : World) (gl : Str → Option Value) (at' : Addr) (hp : Heap), yp w hp → hp.Ns mainGlobals gl → gl d.name = some (.ref at') → ∃ (Kf : PySem.W.Frag) (cs : List (Addr × Addr)) (code : FuncData) (pr : Sp), Kf.In hp ∧ (∀ p ∈ cs, hp.get? p.2 = some { cls := .none, data := .fields #[] }) ∧ (∀ p ∈ cs, Kf.lookup p.2 = none) ∧ (∀ p ∈ cs, PySem.W.CodeHd hp p.1 p.2) ∧ (∀ (s : Shared) (u : Value), BindsTo s code ⟨[u], []⟩ [(par, u)]) ∧
      (∀ (H G : Hp) (ls : Addr) (nums : List Int), nums.length ≤ most → (∀ p ∈ cs, H p.2 = some (.tbl #[])) → Ex G H → (∀ p ∈ cs, G p.2 = none) → SqL Kf G ls (nums.map V.int) → pr [.ref ls] H (fun v _ => v = .bl true) fun _ _ _ => False) ∧
      ∀ b : Heap, Kf.In b → b.Ns mainGlobals gl → (∀ p ∈ cs, LamX.TabB b gl p.1 p.2) → FnT false l.prog w Kf gl b (cx w) lvl at' code [par] pr)
    (h6 : ∀ (w : World) (H : Hp) (s : Shared) (e : Value) (s' : Shared), cx w [] H s (fun _ _ _ => False) e s' → False) : PySem.W.WalkO q loose xp yp l.row.toRowW d [] (fun f vs => PySem.call f vs) := by
  refine Att.attach_call h1 h3 fun w s₀ s₁ gl bl' at' o pm cd doc ls vals nums G Y ho hd hcd hmg hobj hints hlen hg => ?_
  obtain ⟨Kf, cs, code, pr, kin, tbs, outT, heads, bnd, hpr, hF⟩ := h5 w gl at' _ Y G.T.g hmg
  exact att_lawT kin G.T.g G.T.b G.T.builtins G.T.nolimit hg tbs outT heads G.T.bmain hobj hints (Nat.le_trans hlen h2) h4 (fun b k1 k2 k3 => (hF b k1 k2 k3).g) bnd (fun H G0 a1 a2 a3 hS => hpr H G0 ls nums hlen a1 a2 a3 hS) fun H e s' => h6 w H s₁ e s'
/-- the store at the law's start -/
def tabs0 (tl : List Str) : Store := tl.map fun x => .tab x (x ++ ".<locals>." ++ "<lambda>")
theorem law_startT {tl : List Str} {H G : Hp} {a : Addr} {ns : List Int} {f : List D → M D} (nd : ((csK tl K).map (·.2)).Nodup) (hT : ∀ p ∈ csK tl K, H p.2 = some (.tbl #[])) (exG : Ex G H) (gT : ∀ p ∈ csK tl K, G p.2 = none) (hS : SqL K G a (ns.map V.int)) (e : ∃ h', f [.scr ns] (tabs0 tl) = .ok (.bl true) h') :
    spM K 1 f [.ref a] H (fun v _ => v = .bl true) (fun _ _ _ => False) := by
  have em : (csK tl K).map (·.2) = tl.map (tabAd K) := by unfold csK; rw [List.map_map]; rfl
  have hm : ∀ b ∈ tl.map (tabAd K), H b = some (.tbl #[]) ∧ G b = none := fun b hb => by
    rw [← em] at hb
    obtain ⟨p, hp, rfl⟩ := List.mem_map.mp hb
    exact ⟨hT p hp, gT p hp⟩
  refine ⟨rfl, ⟨G, tl.map (tabAd K), []⟩, tabs0 tl, [.scr ns], rfl, ⟨exG, by simp [tabs0], fun i b c e1 e2 => ?_, fun b hb => (hm b hb).2, fun b hb => by rw [(hm b hb).1]; simp, by rw [← em]; exact nd, fun i p o e => by simp at e, fun i j p o p' o' _ e _ => by simp at e⟩, Rps.cons (by unfold Rp; exact ⟨a, rfl, hS⟩) Rps.nil, ?_⟩
  · have hb := (hm b (List.mem_of_getElem? e1)).1
    replace e1 : (tl.map (tabAd K))[i]? = some b := e1
    unfold tabs0 at e2
    rw [List.getElem?_map] at e1 e2
    cases q : tl[i]? with
    | none => rw [q] at e1; cases e1
    | some x =>
      rw [q] at e1 e2
      cases e1
      cases e2
      exact ⟨rfl, #[], hb, True.intro, fun p' cv hc => by
        have z : codeAmong p' [] = some cv := hc
        simp [codeAmong] at z⟩
  · obtain ⟨h', e⟩ := e
    rw [e]
    intro v W' H' l o r
    unfold Rp at r
    exact r
end Z
set_option Elab.async false
set_option linter.all false
set_option maxRecDepth 100000
set_option maxHeartbeats 4000000
namespace Z
open PySem PySem.Spec PyProof.Rows L2 G
variable {K : PySem.W.Frag} {F F' H H' : Hp} {m m' : List Addr}
/-! ### own operators, any value on the other side -/
section
variable {Pr0 : Program} {W0 : World} {A0 : Around} {Er : Value → Shared → Prop} {sh : Shared} {Kf : PySem.W.Frag} {ax Cx' fq f0 : Addr} {oX : Obj} {oD : Option Obj}
open PySem.W in
theorem fwd_any {op : Operator} {b : Value} {T : String} {fo ro rc : Option Value} {R : Value → Shared → Prop} (kin : Kf.In sh.heap) (inst : InstAt sh.heap ax oX Cx' oD) (tyb : Looks (model Pr0 W0) sh.heap (typeOf b) (.type T)) (first : selfFirst Kf Cx' = true)
    (own : findIn Kf (.ref Cx') (PySem.dunder op.info.2) = some (some (.ref fq))) (isf : isFn Kf (.ref fq) = true) (rr : findIn Kf (.ref Cx') (PySem.dunderR op.info.2) = some rc) (rp : rc = none ∨ ∃ g : Addr, rc = some (.ref g))
    (t1 : findIn Kf (.type T) (PySem.dunder op.info.2) = some fo) (t2 : findIn Kf (.type T) (PySem.dunderR op.info.2) = some ro) (apart : subIn Kf (.type T) (.ref Cx') = some false)
    (k : wpAny (model Pr0 W0) A0 (call (.ref fq) [.ref ax, b]) (PySem.W.CmpBack R) Er sh) : wpAny (model Pr0 W0) A0 (binaryOp op (.ref ax) b) R Er sh := by
  obtain ⟨cd, rest, hcd, hm⟩ := ksp_first first
  rcases hi : op.info with ⟨sg, nm⟩
  rw [hi] at own rr t1 t2
  dsimp only at own rr t1 t2
  have two := ksp_try kin inst own isf k
  have M1 : Looks (model Pr0 W0) sh.heap (typeOf (.ref ax)) (.ref Cx') := inst.type
  have M3 : Looks (model Pr0 W0) sh.heap (fillsNumberSlot (.ref Cx') nm) true := fills_K kin hcd hm own
  have M4 := ksp_fillsT (M := model Pr0 W0) kin t1 t2
  have M5 : Looks (model Pr0 W0) sh.heap (isSubtype (.type T) (.ref Cx')) false := looks_subIn kin apart
  have M6 : Looks (model Pr0 W0) sh.heap (numberSlotInPython (.ref Cx') nm) true := ksp_inPy kin own rr rp
  have M7 : Looks (model Pr0 W0) sh.heap (numberSlotInPython (.type T) nm) false := Looks.of_pure rfl
  have M8 : Looks (model Pr0 W0) sh.heap (typeLookup (.type T) (PySem.dunderR nm)) ro := looks_findIn kin t2
  have ne : (Value.ref Cx' == Value.type T) = false := Bool.eq_false_iff.mpr fun q => by cases beq_iff_eq.mp q
  generalize ((fo.isSome && !isSeqSlot fo) || (ro.isSome && !isSeqSlot ro)) = rgt at M4
  simp only [binaryOp, hi]
  refine wpAny_holding (wpAny_bind ?_)
  unfold binaryOp1
  refine wpAny_bind (M1.here (wpAny_bind (tyb.here (wpAny_bind (M3.here ?_)))))
  simp only [ne, Bool.false_eq_true, if_false]
  refine wpAny_bind (M4.here ?_)
  cases rgt with
  | false =>
    simp only [Bool.and_false, Bool.false_and, Bool.false_eq_true, if_false, pure_bind, if_true]
    refine wpAny_bind (thn two fun r s' z => ?_)
    obtain ⟨v, rfl, q⟩ := z
    exact wpAny_pure (wpAny_pure q)
  | true =>
    simp only [Bool.and_self, if_true]
    refine wpAny_bind (M5.here ?_)
    simp only [Bool.false_eq_true, if_false, pure_bind, Bool.not_false, Bool.and_self, if_true]
    refine wpAny_bind (M6.here ?_)
    simp only [if_true]
    refine wpAny_bind (M7.here ?_)
    simp only [Bool.not_false, if_true]
    refine wpAny_bind (M8.here ?_)
    refine wpAny_bind (thn two fun r s' z => ?_)
    obtain ⟨v, rfl, q⟩ := z
    exact wpAny_pure (wpAny_pure q)
open PySem.W in
/-- the left operand has no such slot; the own class's reflected def answers -/
theorem rev_any {op : Operator} {b : Value} {T : String} {fo ro : Option Value} {R : Value → Shared → Prop} (kin : Kf.In sh.heap) (inst : InstAt sh.heap ax oX Cx' oD) (tyb : Looks (model Pr0 W0) sh.heap (typeOf b) (.type T)) (first : selfFirst Kf Cx' = true)
    (own0 : findIn Kf (.ref Cx') (PySem.dunder op.info.2) = some (some (.ref f0))) (own : findIn Kf (.ref Cx') (PySem.dunderR op.info.2) = some (some (.ref fq))) (isf : isFn Kf (.ref fq) = true)
    (t1 : findIn Kf (.type T) (PySem.dunder op.info.2) = some fo) (t2 : findIn Kf (.type T) (PySem.dunderR op.info.2) = some ro) (nof : ((fo.isSome && !isSeqSlot fo) || (ro.isSome && !isSeqSlot ro)) = false)
    (k : wpAny (model Pr0 W0) A0 (call (.ref fq) [.ref ax, b]) (PySem.W.CmpBack R) Er sh) : wpAny (model Pr0 W0) A0 (binaryOp op b (.ref ax)) R Er sh := by
  obtain ⟨cd, rest, hcd, hm⟩ := ksp_first first
  rcases hi : op.info with ⟨sg, nm⟩
  rw [hi] at own0 own t1 t2
  dsimp only at own0 own t1 t2
  have two := ksp_try kin inst own isf k
  have M1 : Looks (model Pr0 W0) sh.heap (typeOf (.ref ax)) (.ref Cx') := inst.type
  have M3 : Looks (model Pr0 W0) sh.heap (fillsNumberSlot (.ref Cx') nm) true := fills_K kin hcd hm own0
  have M4 := ksp_fillsT (M := model Pr0 W0) kin t1 t2
  rw [nof] at M4
  have ne : (Value.type T == Value.ref Cx') = false := Bool.eq_false_iff.mpr fun q => by cases beq_iff_eq.mp q
  simp only [binaryOp, hi]
  refine wpAny_holding (wpAny_bind ?_)
  unfold binaryOp1
  refine wpAny_bind (tyb.here (wpAny_bind (M1.here (wpAny_bind (M4.here ?_)))))
  simp only [ne, Bool.false_eq_true, if_false]
  refine wpAny_bind (M3.here ?_)
  simp only [Bool.false_and, Bool.false_eq_true, if_false, pure_bind, Bool.not_false, Bool.and_self, if_true]
  refine wpAny_bind (thn two fun r s' z => ?_)
  obtain ⟨v, rfl, q⟩ := z
  exact wpAny_bind (wpAny_rule (wpAny_pure (wpAny_pure q)))
end
section
variable {Pr0 : Program} {W0 : World} {A0 : Around} {Er : Value → Shared → Prop} {sh : Shared} {Kf : PySem.W.Frag} {ax Cx' fq f0 : Addr} {oX : Obj} {oD : Option Obj} {dA : Addr} {tb : Bool}
open PySem.W in
/-- .. it has the slot, and declines -/
theorem rev_dec {op : Operator} {b : Value} {T : String} {R : Value → Shared → Prop} (kin : Kf.In sh.heap) (inst : InstAt sh.heap ax oX Cx' oD) (tyb : typeOf b = pure (.type T)) (first : selfFirst Kf Cx' = true) (own0 : findIn Kf (.ref Cx') (PySem.dunder op.info.2) = some (some (.ref f0)))
    (own : findIn Kf (.ref Cx') (PySem.dunderR op.info.2) = some (some (.ref fq))) (isf : isFn Kf (.ref fq) = true) (apart : mroIn Kf Cx' (.type T) = some false) (fills : fillsNumberSlot (.type T) op.info.2 = pure true) (inP : numberSlotInPython (.type T) op.info.2 = pure false)
    (dec : wpAny (model Pr0 W0) A0 (tryMethod b (PySem.dunder op.info.2) (.ref ax)) (fun r s' => r = none ∧ s' = sh) Er sh) (k : wpAny (model Pr0 W0) A0 (call (.ref fq) [.ref ax, b]) (PySem.W.CmpBack R) Er sh) : wpAny (model Pr0 W0) A0 (binaryOp op b (.ref ax)) R Er sh := by
  obtain ⟨cd, rest, hcd, hm⟩ := ksp_first first
  rcases hi : op.info with ⟨sg, nm⟩
  rw [hi] at own0 own fills dec inP
  dsimp only at own0 own fills dec inP
  have two := ksp_try kin inst own isf k
  have M1 : Looks (model Pr0 W0) sh.heap (typeOf b) (.type T) := Looks.of_pure tyb
  have M2 : Looks (model Pr0 W0) sh.heap (typeOf (.ref ax)) (.ref Cx') := inst.type
  have M3 : Looks (model Pr0 W0) sh.heap (fillsNumberSlot (.type T) nm) true := Looks.of_pure fills
  have M4 : Looks (model Pr0 W0) sh.heap (fillsNumberSlot (.ref Cx') nm) true := fills_K kin hcd hm own0
  have M5 : Looks (model Pr0 W0) sh.heap (isSubtype (.ref Cx') (.type T)) false := looks_mroIn kin apart
  have M6 : Looks (model Pr0 W0) sh.heap (numberSlotInPython (.type T) nm) false := Looks.of_pure inP
  have ne : (Value.type T == Value.ref Cx') = false := Bool.eq_false_iff.mpr fun q => by cases beq_iff_eq.mp q
  simp only [binaryOp, hi]
  refine wpAny_holding (wpAny_bind ?_)
  unfold binaryOp1
  refine wpAny_bind (M1.here (wpAny_bind (M2.here (wpAny_bind (M3.here ?_)))))
  simp only [ne, Bool.false_eq_true, if_false]
  refine wpAny_bind (M4.here ?_)
  simp only [Bool.and_self, if_true]
  refine wpAny_bind (M5.here ?_)
  simp only [Bool.false_eq_true, if_false, pure_bind, Bool.not_false, Bool.and_self, if_true]
  refine wpAny_bind (M6.here ?_)
  simp only [Bool.false_eq_true, if_false, pure_bind, Bool.not_false, Bool.and_self, if_true]
  refine wpAny_bind (thn dec fun r s' z => ?_)
  obtain ⟨rfl, rfl⟩ := z
  refine wpAny_bind (thn two fun r s' z => ?_)
  obtain ⟨v, rfl, q⟩ := z
  exact wpAny_bind (wpAny_rule (wpAny_pure (wpAny_pure q)))
open PySem.W Builtin in
theorem bool_no_add {C : Addr} : Meets (Builtin.«int.__add__» ⟨[.bool tb, .ref ax], []⟩) (fun _ R s => s.heap.get? ax = some (instObj C dA) ∧ R (.ok (.ret Value.notImplemented)) s) :=
  .of_wp fun prog w A R s h => by obtain ⟨hp, g, d, tk, os⟩ := s; obtain ⟨hl, h⟩ := h; wp_walk; exact ⟨_, rfl, h⟩
open PySem.W Builtin in
theorem bool_no_sub {C : Addr} : Meets (Builtin.«int.__sub__» ⟨[.bool tb, .ref ax], []⟩) (fun _ R s => s.heap.get? ax = some (instObj C dA) ∧ R (.ok (.ret Value.notImplemented)) s) :=
  .of_wp fun prog w A R s h => by obtain ⟨hp, g, d, tk, os⟩ := s; obtain ⟨hl, h⟩ := h; wp_walk; exact ⟨_, rfl, h⟩
open PySem.W Builtin in
theorem bool_no_mul {C : Addr} : Meets (Builtin.«int.__mul__» ⟨[.bool tb, .ref ax], []⟩) (fun _ R s => s.heap.get? ax = some (instObj C dA) ∧ R (.ok (.ret Value.notImplemented)) s) :=
  .of_wp fun prog w A R s h => by obtain ⟨hp, g, d, tk, os⟩ := s; obtain ⟨hl, h⟩ := h; wp_walk; exact ⟨_, rfl, h⟩
theorem decb_add {C' : Addr} (h : sh.heap.get? ax = some (PySem.W.instObj C' dA)) : wpAny (model Pr0 W0) A0 (tryMethod (.bool tb) (PySem.dunder Operator.Add.info.2) (.ref ax)) (fun r s' => r = none ∧ s' = sh) Er sh := by
  rw [show PySem.dunder Operator.Add.info.2 = PySem.dunder "add" from by decide +kernel]
  apply wpAny_tryMethod_declines
  case h => exact PySem.F.slot_bool_add
  case hT => exact typeIs_bool' sh tb
  case hc => exact call_meets PySem.F.slot_bool_add (typeIs_bool' sh tb) PySem.F.entry_int_add (PySem.F.args_int_add_2 _ _) (bool_no_add (C := C') (dA := dA)) ⟨h, rfl, rfl, rfl⟩
theorem decb_sub {C' : Addr} (h : sh.heap.get? ax = some (PySem.W.instObj C' dA)) : wpAny (model Pr0 W0) A0 (tryMethod (.bool tb) (PySem.dunder Operator.Sub.info.2) (.ref ax)) (fun r s' => r = none ∧ s' = sh) Er sh := by
  rw [show PySem.dunder Operator.Sub.info.2 = PySem.dunder "sub" from by decide +kernel]
  apply wpAny_tryMethod_declines
  case h => exact PySem.F.slot_bool_sub
  case hT => exact typeIs_bool' sh tb
  case hc => exact call_meets PySem.F.slot_bool_sub (typeIs_bool' sh tb) PySem.F.entry_int_sub (PySem.F.args_int_sub_2 _ _) (bool_no_sub (C := C') (dA := dA)) ⟨h, rfl, rfl, rfl⟩
theorem decb_mul {C' : Addr} (h : sh.heap.get? ax = some (PySem.W.instObj C' dA)) : wpAny (model Pr0 W0) A0 (tryMethod (.bool tb) (PySem.dunder Operator.Mult.info.2) (.ref ax)) (fun r s' => r = none ∧ s' = sh) Er sh := by
  rw [show PySem.dunder Operator.Mult.info.2 = PySem.dunder "mul" from by decide +kernel]
  apply wpAny_tryMethod_declines
  case h => exact PySem.F.slot_bool_mul
  case hT => exact typeIs_bool' sh tb
  case hc => exact call_meets PySem.F.slot_bool_mul (typeIs_bool' sh tb) PySem.F.entry_int_mul (PySem.F.args_int_mul_2 _ _) (bool_no_mul (C := C') (dA := dA)) ⟨h, rfl, rfl, rfl⟩
end
/-- two values of their own (no name owns them) -/
def OpP (T : WX) (X : Cx) (f : Value → Value → Sem Value) (g : D → D → M D) : Prop := ∀ pins s σ H W h x y v w u1 u2 Q, Inv X pins σ H s → RelV v u1 → RelV w u2 → WOk X.K W h H → Rp X.K W.F W.m x v → Rp X.K W.F W.m y w →
  Post X.K T W H σ (g x y h) (fun d _ W' H' => ∀ v, Rp X.K W'.F W'.m d v → Q v H') → wpAny (model X.prog X.w) X.A (f u1 u2) (EP X pins σ Q) X.xe s
/-- what the type T has of the operator -/
structure Nt (K : PySem.W.Frag) (C : Addr) (op : Operator) (T : String) : Prop where
  fi : ∃ fo, PySem.W.findIn K (.type T) (PySem.dunder op.info.2) = some fo
  ri : ∃ ro, PySem.W.findIn K (.type T) (PySem.dunderR op.info.2) = some ro
  sub : PySem.W.subIn K (.type T) (.ref C) = some false
/-- .. and it has none such -/
structure Nf (K : PySem.W.Frag) (op : Operator) (T : String) : Prop where
  f : slotF (PySem.W.findIn K (.type T) (PySem.dunder op.info.2)) = false
  r : slotF (PySem.W.findIn K (.type T) (PySem.dunderR op.info.2)) = false
def tyN : D → Option String
  | .non => some "NoneType"
  | .bl _ => some "bool"
  | .int _ => some "int"
  | .str _ => some "str"
  | .tup _ => some "tuple"
  | .lst _ => some "list"
  | .dic _ _ => some "dict"
  | _ => none
def ownF (c : Str) (f : List D → M D) (x y : D) : M D := fun h => match x with
  | .obj c1 n1 d1 => if c1 = c then (match y with
    | .obj c2 n2 d2 => if c2 = c then f [.obj c1 n1 d1, .obj c2 n2 d2] h else .no
    | y => (match tyN y with
      | some _ => f [.obj c1 n1 d1, y] h
      | none => .no)) else .no
  | _ => .no
/-- .. on both sides -/
def ownA (c : Str) (f g : List D → M D) (x y : D) : M D := fun h => match y with
  | .obj c2 n2 d2 => (match x with
    | .non => if c2 = c then g [.obj c2 n2 d2, .non] h else .no
    | .bl b => if c2 = c then g [.obj c2 n2 d2, .bl b] h else .no
    | .dic ks ds => if c2 = c then g [.obj c2 n2 d2, .dic ks ds] h else .no
    | .int i => if c2 = c then g [.obj c2 n2 d2, .int i] h else .no
    | x => ownF c f x y h)
  | y => ownF c f x y h
def tyK : D → TK
  | .non => .b "NoneType"
  | .bl _ => .b "bool"
  | .int _ => .b "int"
  | .str _ => .b "str"
  | .tup _ => .b "tuple"
  | .lst _ => .b "list"
  | _ => .b "dict"
section
variable {T : WX} {X : Cx} {c : Str} {f g : List D → M D} {op : Operator}
theorem ownF_ok (D1 : DmM T X c (PySem.dunder op.info.2) 2 f) (N : Nu X.K (ga X.K c) op) (N2 : ∀ t ∈ ["NoneType", "bool", "int", "str", "tuple", "list", "dict"], Nt X.K (ga X.K c) op t) : OpP T X (binaryOp op) (ownF c f) := by
  intro pins s σ H W h x y v w u1 u2 Q I r1 r2 ok rx ry p
  obtain ⟨_, fA, h1, h2, _, run⟩ := D1.run
  obtain ⟨m, hF⟩ := I.fr
  unfold ownF at p
  split at p
  · rename_i c1 n1 d1
    split at p
    · rename_i e
      subst e
      have rx0 := rx
      unfold Rp at rx0
      obtain ⟨a, dx, vs, rfl, ha, _⟩ := rx0
      obtain ⟨ox, od, J⟩ := ins_at I (ok.sub _ _ ha)
      cases r1
      split at p
      · rename_i c2 n2 d2
        split at p
        · rename_i e2
          subst e2
          have ry0 := ry
          unfold Rp at ry0
          obtain ⟨b, dy, ws, rfl, hb, _⟩ := ry0
          cases r2
          obtain ⟨oy, ody, Jy⟩ := ins_at I (ok.sub _ _ hb)
          exact PySem.W.binop_K hF I.ok.mod.kin J Jy.type N.first h1 h2 (wpAny_mono (run X.A pins s σ H W h _ _ [.ref a, .ref b] Q (.inl rfl) I (.cons (vR _) (.cons (vR _) .nil)) ok (Rps.cons rx (Rps.cons ry Rps.nil)) rfl p) (fun _ _ z => cmpBk z) fun _ _ z => z)
        · exact p.elim
      · split at p
        · rename_i t et
          have go := wpAny_mono (run X.A pins s σ H W h _ _ [.ref a, u2] Q (.inl rfl) I (.cons (vR _) (.cons r2 .nil)) ok (Rps.cons rx (Rps.cons ry Rps.nil)) rfl p) (fun _ _ z => cmpBk z) fun _ _ z => z
          have hm : t ∈ ["NoneType", "bool", "int", "str", "tuple", "list", "dict"] := by
            cases y <;> unfold tyN at et <;> first | (cases et; done) | (cases et; decide)
          have ty : TyX X.K H w (.type t) := by
            have hk : tkD y = some (.b t) := by
              cases y <;> unfold tyN at et <;> first | (cases et; done) | (cases et; rfl)
            exact tk_ty (k := .b t) ok (.inl ry) hk (fun c' ns ds e => by subst e; unfold tyN at et; cases et)
          obtain ⟨P, kx, hP, _⟩ := kit_of I r2 ty
          obtain ⟨⟨fo, f1⟩, ⟨ro, o1⟩, sb⟩ := N2 t hm
          obtain ⟨rc, k1, k2⟩ := N.rr
          exact fwd_any I.kIn J (kx.ty _ _ I.kIn hP) N.first h1 h2 k1 k2 f1 o1 sb go
        · exact p.elim
    · exact p.elim
  · exact p.elim
theorem slotF_no {o : Option (Option Value)} (h : slotF o = false) : ∃ fo, o = some fo ∧ (fo.isSome && !isSeqSlot fo) = false := by
  cases o with
  | none => cases h
  | some fo => exact ⟨fo, rfl, h⟩
theorem ownA_ok (D1 : DmM T X c (PySem.dunder op.info.2) 2 f) (N : Nu X.K (ga X.K c) op) (N2 : ∀ t ∈ ["NoneType", "bool", "int", "str", "tuple", "list", "dict"], Nt X.K (ga X.K c) op t) (D2 : DmM T X c (PySem.dunderR op.info.2) 2 g) (N3 : ∀ t ∈ ["NoneType", "dict"], Nf X.K op t)
    (ap : PySem.W.mroIn X.K (ga X.K c) (.type "bool") = some false) (ho : op = .Add ∨ op = .Sub ∨ op = .Mult) : OpP T X (binaryOp op) (ownA c f g) := by
  intro pins s σ H W h x y v w u1 u2 Q I r1 r2 ok rx ry p
  unfold ownA at p
  split at p
  · rename_i c2 n2 d2
    obtain ⟨_, fA, h1, h2, _, _⟩ := D1.run
    obtain ⟨_, gA, k1, k2, _, run⟩ := D2.run
    have ry0 := ry
    unfold Rp at ry0
    obtain ⟨b, dy, ws, rfl, hb, _⟩ := ry0
    cases r2
    obtain ⟨ox, od, J⟩ := ins_at I (ok.sub _ _ hb)
    obtain ⟨mA, O, _⟩ := ins_get I.hok (ok.sub _ _ hb)
    split at p
    · split at p
      · rename_i e
        subst e
        have go := wpAny_mono (run X.A pins s σ H W h _ _ [.ref b, u1] Q (.inl rfl) I (.cons (vR _) (.cons r1 .nil)) ok (Rps.cons ry (Rps.cons rx Rps.nil)) rfl p) (fun _ _ z => cmpBk z) fun _ _ z => z
        obtain ⟨P, kx, hP, _⟩ := kit_of I r1 (tk_ty (k := .b "NoneType") ok (.inl rx) rfl (fun c' ns ds e => by cases e))
        obtain ⟨nf1, nf2⟩ := N3 "NoneType" (by decide)
        obtain ⟨fo, f1, f2⟩ := slotF_no nf1
        obtain ⟨ro, o1, o2⟩ := slotF_no nf2
        exact rev_any I.kIn J (kx.ty _ _ I.kIn hP) N.first h1 k1 k2 f1 o1 (by rw [f2, o2]; rfl) go
      · exact p.elim
    · rename_i tb
      split at p
      · rename_i e
        subst e
        have rx0 := rx
        unfold Rp at rx0
        subst rx0
        obtain rfl : u1 = Value.bool tb := r1
        have go := wpAny_mono (run X.A pins s σ H W h _ _ [.ref b, .bool tb] Q (.inl rfl) I (.cons (vR _) (.cons (show RelV (.bl tb) (.bool tb) from rfl) .nil)) ok (Rps.cons ry (Rps.cons rx Rps.nil)) rfl p) (fun _ _ z => cmpBk z) fun _ _ z => z
        rcases ho with rfl | rfl | rfl
        · exact rev_dec (T := "bool") I.kIn J rfl N.first h1 k1 k2 ap PySem.F.fills_bool_add rfl (decb_add O.obj) go
        · exact rev_dec (T := "bool") I.kIn J rfl N.first h1 k1 k2 ap PySem.F.fills_bool_sub rfl (decb_sub O.obj) go
        · exact rev_dec (T := "bool") I.kIn J rfl N.first h1 k1 k2 ap PySem.F.fills_bool_mul rfl (decb_mul O.obj) go
      · exact p.elim
    · split at p
      · rename_i e
        subst e
        have go := wpAny_mono (run X.A pins s σ H W h _ _ [.ref b, u1] Q (.inl rfl) I (.cons (vR _) (.cons r1 .nil)) ok (Rps.cons ry (Rps.cons rx Rps.nil)) rfl p) (fun _ _ z => cmpBk z) fun _ _ z => z
        obtain ⟨P, kx, hP, _⟩ := kit_of I r1 (tk_ty (k := .b "dict") ok (.inl rx) rfl (fun c' ns ds e => by cases e))
        obtain ⟨nf1, nf2⟩ := N3 "dict" (by decide)
        obtain ⟨fo, f1, f2⟩ := slotF_no nf1
        obtain ⟨ro, o1, o2⟩ := slotF_no nf2
        exact rev_any I.kIn J (kx.ty _ _ I.kIn hP) N.first h1 k1 k2 f1 o1 (by rw [f2, o2]; rfl) go
      · exact p.elim
    · rename_i i
      split at p
      · rename_i e
        subst e
        have rx0 := rx
        unfold Rp at rx0
        subst rx0
        obtain ⟨t, rfl⟩ := r1
        have go := wpAny_mono (run X.A pins s σ H W h _ _ [.ref b, .int i t] Q (.inl rfl) I (.cons (vR _) (.cons (vI _ t) .nil)) ok (Rps.cons ry (Rps.cons rx Rps.nil)) rfl p) (fun _ _ z => cmpBk z) fun _ _ z => z
        rcases ho with rfl | rfl | rfl
        · exact refl_own I.kIn J N.first h1 k1 k2 N.ap PySem.F.fills_int_add (decl_add O.obj) go
        · exact refl_own I.kIn J N.first h1 k1 k2 N.ap PySem.F.fills_int_sub (decl_sub O.obj) go
        · exact refl_own I.kIn J N.first h1 k1 k2 N.ap PySem.F.fills_int_mul (decl_mul O.obj) go
      · exact p.elim
    · exact ownF_ok D1 N N2 pins s σ H W h x _ v _ u1 _ Q I r1 (show RelV (.ref b) (.ref b) from rfl) ok rx ry p
  · exact ownF_ok D1 N N2 pins s σ H W h x y v w u1 u2 Q I r1 r2 ok rx ry p
theorem bopP_ok {O : D → D → M D} (hO : OpP T X (binaryOp op) O) : OpP T X (binaryOp op) (bop O op) := by
  intro pins s σ H W h x y v w u1 u2 Q I r1 r2 ok rx ry p
  have key : bop O op x y h = O x y h ∨ bop O op x y h = bop noO op x y h := by
    unfold bop
    split <;> first | exact .inl rfl | exact .inr rfl
  rcases key with e | e
  · rw [e] at p
    exact hO pins s σ H W h x y v w u1 u2 Q I r1 r2 ok rx ry p
  · rw [e] at p
    exact bop_ok noO_ok pins s σ H W h x y v w u1 u2 Q I r1 r2 ok (.inl rx) (.inl ry) p
theorem se_binP {e1 e2 : Expr} {ca cb : EM} {pos : Pos} {q : D → D → M D} (hg : OpP T X (binaryOp op) q) (ha : SE T X e1 ca) (hb : SE T X e2 cb) : SE T X (.BinOp e1 op e2 pos) (mBin q ca cb) := by
  intro ε σ W h H Q r o p
  have g1 : Go X e1 σ H fun v H1 => Go X e2 σ H1 fun w H2 => ∃ x y W2 h2, WOk X.K W2 h2 H2 ∧ Rp X.K W2.F W2.m x v ∧ Rp X.K W2.F W2.m y w ∧ Post X.K T W2 H2 σ (q x y h2) (fun d _ W' H' => ∀ v, Rp X.K W'.F W'.m d v → Q v H') :=
    ha ε σ W h H _ r o (Post.mono (Post.bnd p) (Le.rfl' o.mN) fun x h1 W1 H1 l1 o1 p1 v hv => hb ε σ W1 h1 H1 _ (r.le l1) o1 (Post.mono (Post.bnd p1) (Le.rfl' o1.mN) fun y h2 W2 H2 l2 o2 p2 w hw => ⟨x, y, W2, h2, o2, Rp.mono l2.F l2.mx x hv, hw, p2⟩))
  intro pins s I
  exact wpAny_BinOp (thn (g1 pins s I) fun v s1 ⟨x, H1, I1, r1, q1⟩ => thn (q1 pins s1 I1) fun u s2 ⟨y, H2, I2, r2, x', y', W2, h2, o2, hx, hy, p2⟩ => hg pins s2 σ H2 W2 h2 x' y' x y v u Q I2 r1 r2 o2 hx hy p2)
end
section
variable {fa : List Fz} {fn : List DefZ} {mg : Str → Option Value} {P : Program} {w : World} {base : Heap} {lvl : Nat} {X : Cx} {N : List Str} {sc : Scope} {fb q : Bool} {c : Str} {op : Operator}
theorem nta_at (Γ : Gz fa fn K mg) (C : Cz P w K mg base lvl X N sc fb q) (i : Nat) (hf : fa[i]? = some (.nta c op)) : ∀ t ∈ ["NoneType", "bool", "int", "str", "tuple", "list", "dict"], Nt X.K (ga X.K c) op t := by
  rw [C.eK]
  intro t ht
  have q := List.all_eq_true.mp (show (["NoneType", "bool", "int", "str", "tuple", "list", "dict"].all fun t => isoO (PySem.W.findIn K (.type t) (PySem.dunder op.info.2)) && (isoO (PySem.W.findIn K (.type t) (PySem.dunderR op.info.2)) && decide (PySem.W.subIn K (.type t) (.ref (ga K c)) = some false))) = true from Γ.says.fact i hf) t ht
  obtain ⟨c1, q⟩ := He.ba q
  obtain ⟨c2, c3⟩ := He.ba q
  refine ⟨?_, ?_, of_decide_eq_true c3⟩
  · cases e : PySem.W.findIn K (.type t) (PySem.dunder op.info.2) with
    | none => rw [e] at c1; cases c1
    | some v => exact ⟨v, rfl⟩
  · cases e : PySem.W.findIn K (.type t) (PySem.dunderR op.info.2) with
    | none => rw [e] at c2; cases c2
    | some v => exact ⟨v, rfl⟩
theorem nfa_at (Γ : Gz fa fn K mg) (C : Cz P w K mg base lvl X N sc fb q) (i : Nat) (hf : fa[i]? = some (.nfa c op)) : (∀ t ∈ ["NoneType", "dict"], Nf X.K op t) ∧ PySem.W.mroIn X.K (ga X.K c) (.type "bool") = some false := by
  rw [C.eK]
  obtain ⟨q1, q2⟩ := He.ba (show ((["NoneType", "dict"].all fun t => !slotF (PySem.W.findIn K (.type t) (PySem.dunder op.info.2)) && !slotF (PySem.W.findIn K (.type t) (PySem.dunderR op.info.2))) && decide (PySem.W.mroIn K (ga K c) (.type "bool") = some false)) = true from Γ.says.fact i hf)
  refine ⟨fun t ht => ?_, of_decide_eq_true q2⟩
  obtain ⟨c1, c2⟩ := He.ba (List.all_eq_true.mp q1 t ht)
  exact ⟨nb c1, nb c2⟩
end
end Z
set_option Elab.async false
set_option linter.all false
set_option maxRecDepth 100000
set_option maxHeartbeats 4000000
namespace Z
open PySem PySem.Spec PyProof.Rows L2 G
variable {K : PySem.W.Frag} {F F' H H' : Hp} {m m' : List Addr}
/-! ### small things for the walks with lambdas -/
def mActP (act : M D) : EM := fun _ h => act h
theorem fmo_at {T : WX} {X : Cx} {P : Program} {w : World} {mg : Str → Option Value} {base : Heap} {lvl : Nat} {N : List Str} {sc : Scope} {fb q : Bool} {fa : List Fz} {fn : List DefZ} {cc : Str} {f : List D → M D} (Γ : Gz fa fn K mg) (C : Cz P w K mg base lvl X N sc fb q) (D1 : DmM T X cc "__str__" 1 f)
    (i j : Nat) (hf : fa[i]? = some (.dflt cc "__format__" "object.__format__")) (hj : fa[j]? = some (.cls cc)) : FmM T X (own1S cc f) := by
  have h1 := fz_dflt (Γ.says.fact i hf)
  have h2 := fz_mro (Γ.says.fact j hj)
  rw [← C.eK] at h1 h2
  exact fm_own D1 h1 h2
/-! ### runs that do not look at slot 0 -/
def IndX {α : Type} (e : Ev → M α) : Prop := ∀ s s' r h, e (s :: r) h = e (s' :: r) h
inductive Sim (s s' : Slt) : R Fw → R Fw → Prop
  | nx (r : Ev) (h : Store) : Sim s s' (.ok (.nx (s :: r)) h) (.ok (.nx (s' :: r)) h)
  | bk (r : Ev) (h : Store) : Sim s s' (.ok (.bk (s :: r)) h) (.ok (.bk (s' :: r)) h)
  | ct (r : Ev) (h : Store) : Sim s s' (.ok (.ct (s :: r)) h) (.ok (.ct (s' :: r)) h)
  | rt (d : D) (h : Store) : Sim s s' (.ok (.rt d) h) (.ok (.rt d) h)
  | rs (c : Str) (ns : List Str) (ds : List D) (r : Ev) (h : Store) : Sim s s' (.ok (.rs c ns ds (s :: r)) h) (.ok (.rs c ns ds (s' :: r)) h)
  | ex (c : Str) (ns : List Str) (ds : List D) (h : Store) : Sim s s' (.ex c ns ds h) (.ex c ns ds h)
  | no : Sim s s' .no .no
def IndS (b : SC) : Prop := ∀ s s' r h, Sim s s' (b (s :: r) h) (b (s' :: r) h)
def IndH (b : HdC) : Prop := ∀ c ns ds, IndS (b c ns ds)
section
variable {a b e : EM} {t : Ev → M Bool} {as : Ev → M (List D)} {p q : SC} {hd : HdC}
theorem ix_lit {d : D} : IndX (mLit d) := fun _ _ _ _ => rfl
theorem ix_var {i : Nat} : IndX (mVar (i + 1)) := fun _ _ _ _ => rfl
theorem ix_act {act : M D} : IndX (mActP act) := fun _ _ _ _ => rfl
theorem ix_nil : IndX mNilA := fun _ _ _ _ => rfl
theorem ix_cons (ha : IndX a) (hb : IndX as) : IndX (mConsA a as) := fun s s' r h => by
  unfold mConsA
  rw [ha s s' r h]
  cases a (s' :: r) h with
  | ok d h1 => show R.bnd (as (s :: r) h1) _ = R.bnd (as (s' :: r) h1) _; rw [hb s s' r h1]
  | _ => rfl
theorem ix_call {f : List D → M D} (ha : IndX as) : IndX (mCall f as) := fun s s' r h => by
  unfold mCall; rw [ha s s' r h]
theorem ix_fz (ha : IndX as) : IndX (mFz as) := fun s s' r h => by
  unfold mFz; rw [ha s s' r h]
theorem ix_lst (ha : IndX as) : IndX (mLst as) := fun s s' r h => by
  unfold mLst; rw [ha s s' r h]
theorem ix_tup (ha : IndX as) : IndX (mTup as) := fun s s' r h => by
  unfold mTup; rw [ha s s' r h]
theorem ix_atx {cl : List Str} {f : Str} (ha : IndX a) : IndX (mAtx cl f a) := fun s s' r h => by
  unfold mAtx; rw [ha s s' r h]
theorem ix_tb (ha : IndX a) : IndX (tB a) := fun s s' r h => by
  unfold tB; rw [ha s s' r h]
theorem ix_bin {f : D → D → M D} (ha : IndX a) (hb : IndX b) : IndX (mBin f a b) := fun s s' r h => by
  unfold mBin
  rw [ha s s' r h]
  cases a (s' :: r) h with
  | ok d h1 => show R.bnd (b (s :: r) h1) _ = R.bnd (b (s' :: r) h1) _; rw [hb s s' r h1]
  | _ => rfl
theorem ix_and (ha : IndX a) (hb : IndX b) : IndX (mAnd a b) := fun s s' r h => by
  unfold mAnd
  rw [ha s s' r h]
  cases a (s' :: r) h with
  | ok d h1 =>
    show (match d with | .bl true => b (s :: r) h1 | .bl false => _ | _ => _) = (match d with | .bl true => b (s' :: r) h1 | .bl false => _ | _ => _)
    rw [hb s s' r h1]
  | _ => rfl
theorem ix_or (ha : IndX a) (hb : IndX b) : IndX (mOr a b) := fun s s' r h => by
  unfold mOr
  rw [ha s s' r h]
  cases a (s' :: r) h with
  | ok d h1 =>
    show (match d with | .bl true => _ | .bl false => b (s :: r) h1 | _ => _) = (match d with | .bl true => _ | .bl false => b (s' :: r) h1 | _ => _)
    rw [hb s s' r h1]
  | _ => rfl
theorem ix_not (ha : IndX a) : IndX (mNot a) := fun s s' r h => by
  unfold mNot; rw [ha s s' r h]
theorem is_pass : IndS mPass := fun _ _ r h => .nx r h
theorem is_ret (ha : IndX a) : IndS (mRet a) := fun s s' r h => by
  unfold mRet
  rw [ha s s' r h]
  cases a (s' :: r) h with
  | ok d h1 => exact .rt d h1
  | ex c ns ds h1 => exact .rs c ns ds r h1
  | no => exact .no
theorem is_exp (ha : IndX a) : IndS (mExp a) := fun s s' r h => by
  unfold mExp
  rw [ha s s' r h]
  cases a (s' :: r) h with
  | ok d h1 => exact .nx r h1
  | ex c ns ds h1 => exact .rs c ns ds r h1
  | no => exact .no
theorem is_asg {i : Nat} (ha : IndX a) : IndS (mAsg (i + 1) a) := fun s s' r h => by
  unfold mAsg
  rw [ha s s' r h]
  cases a (s' :: r) h with
  | ok d h1 => exact .nx (r.set i (.pu d)) h1
  | ex c ns ds h1 => exact .rs c ns ds r h1
  | no => exact .no
theorem is_if (ht : IndX t) (hp : IndS p) (hq : IndS q) : IndS (mIfS t p q) := fun s s' r h => by
  unfold mIfS
  rw [ht s s' r h]
  cases t (s' :: r) h with
  | ok d h1 =>
    show Sim s s' (if d = true then p (s :: r) h1 else q (s :: r) h1) (if d = true then p (s' :: r) h1 else q (s' :: r) h1)
    cases d with
    | true => exact hp s s' r h1
    | false => exact hq s s' r h1
  | ex c ns ds h1 => exact .rs c ns ds r h1
  | no => exact .no
theorem is_seq (hp : IndS p) (hq : IndS q) : IndS (mSeq p q) := fun s s' r h => by
  unfold mSeq
  have z := hp s s' r h
  generalize p (s :: r) h = x at z ⊢
  generalize p (s' :: r) h = y at z ⊢
  cases z with
  | nx r h1 => exact hq s s' r h1
  | bk r h1 => exact .bk r h1
  | ct r h1 => exact .ct r h1
  | rt d h1 => exact .rt d h1
  | rs c ns ds r h1 => exact .rs c ns ds r h1
  | ex c ns ds h1 => exact .ex c ns ds h1
  | no => exact .no
theorem is_unb {s s' : Slt} {x y : R Fw} {i : Nat} (z : Sim s s' x y) : Sim s s' (unb (i + 1) x) (unb (i + 1) y) := by
  cases z with
  | nx r h1 => exact .nx (r.set i .un) h1
  | bk r h1 => exact .bk (r.set i .un) h1
  | ct r h1 => exact .ct (r.set i .un) h1
  | rt d h1 => exact .rt d h1
  | rs c ns ds r h1 => exact .no
  | ex c ns ds h1 => exact .no
  | no => exact .no
theorem is_unq {s s' : Slt} {x y : R Fw} (z : Sim s s' x y) : Sim s s' (unq x) (unq y) := by
  cases z with
  | nx r h1 => exact .nx r h1
  | bk r h1 => exact .bk r h1
  | ct r h1 => exact .ct r h1
  | rt d h1 => exact .rt d h1
  | rs c ns ds r h1 => exact .no
  | ex c ns ds h1 => exact .ex c ns ds h1
  | no => exact .no
theorem ih_nil : IndH mHdN := fun c ns ds _ _ r h => .rs c ns ds r h
theorem ih_as {tc : Str → Option Bool} {i : Nat} (hp : IndS p) (hr : IndH hd) : IndH (mHdA tc (i + 1) p hd) := fun c ns ds s s' r h => by
  unfold mHdA
  cases tc c with
  | none => exact .no
  | some b =>
    cases b with
    | true => exact is_unb (hp s s' (r.set i (.pu (.exc c ns ds))) h)
    | false => exact hr c ns ds s s' r h
theorem ih_no {tc : Str → Option Bool} (hp : IndS p) (hr : IndH hd) : IndH (mHd0 tc p hd) := fun c ns ds s s' r h => by
  unfold mHd0
  cases tc c with
  | none => exact .no
  | some b =>
    cases b with
    | true => exact is_unq (hp s s' r h)
    | false => exact hr c ns ds s s' r h
theorem is_try (hp : IndS p) (hh : IndH hd) : IndS (mTry p hd) := fun s s' r h => by
  unfold mTry
  have z := hp s s' r h
  generalize p (s :: r) h = x at z ⊢
  generalize p (s' :: r) h = y at z ⊢
  cases z with
  | nx r h1 => exact .nx r h1
  | bk r h1 => exact .bk r h1
  | ct r h1 => exact .ct r h1
  | rt d h1 => exact .rt d h1
  | rs c ns ds r h1 => exact hh c ns ds s s' r h1
  | ex c ns ds h1 => exact .ex c ns ds h1
  | no => exact .no
theorem run_ind (hp : IndS p) (n : Nat) (d d' : D) (h : Store) : runF p n [d] h = runF p n [d'] h := by
  unfold runF
  have z := hp (.pu d) (.pu d') (List.replicate (n - 1) .un) h
  show (match p ((.pu d) :: List.replicate (n - 1) .un) h with | .ok (.nx _) h' => _ | .ok (.rt d) h' => _ | .ok (.rs c ns ds _) h' => _ | _ => _) = (match p ((.pu d') :: List.replicate (n - 1) .un) h with | .ok (.nx _) h' => _ | .ok (.rt d) h' => _ | .ok (.rs c ns ds _) h' => _ | _ => _)
  generalize p ((.pu d) :: List.replicate (n - 1) .un) h = x at z ⊢
  generalize p ((.pu d') :: List.replicate (n - 1) .un) h = y at z ⊢
  cases z <;> rfl
end
theorem act_at {a c : Addr} {q : Str} {vs : List V} {act : List D → M D} {ε : Ev} {ds : List D} (e : ε[0]? = some (.pu (.clo a c q vs ds))) (h : Store) : mAct 0 a c q vs act ε h = act ds h := by
  unfold mAct
  rw [e]
  simp
end Z
set_option Elab.async false
set_option linter.all false
set_option maxRecDepth 100000
set_option maxHeartbeats 4000000
namespace Z
open PySem PySem.Spec PyProof.Rows L2 G
def top (i : Nat) : Stmt := PySem.Challenge.pw_delaynets_k04_numbers_refused.main.body.getD i (.Pass ⟨0, 0, 0, 0⟩)
def tl : List Str := ["_law_right"]
def fa : List Fz := [.flds ["Number"] "__zz__",
  .kits [(.b "NoneType",
  .b "int", false), (.b "bool",
  .b "int", true), (.b "int",
  .b "int", true), (.b "str",
  .b "int", false), (.b "tuple",
  .b "int", false), (.b "list",
  .b "int", false), (.b "dict",
  .b "int", false), (.c "Number",
  .b "int", false)],
  .kits [(.c "InvalidCount",
  .b "int", false), (.c "NotANumber",
  .b "int", false), (.c "DividedByZero",
  .b "int", false)],
  .xv ["InvalidCount", "NotANumber", "DividedByZero"] "__zz__",
  .free "int",
  .free "isinstance",
  .kits [(.b "NoneType",
  .b "bool", false), (.b "bool",
  .b "bool", true), (.b "int",
  .b "bool", false), (.b "str",
  .b "bool", false), (.b "tuple",
  .b "bool", false), (.b "list",
  .b "bool", false), (.b "dict",
  .b "bool", false), (.c "Number",
  .b "bool", false)],
  .kits [(.c "InvalidCount",
  .b "bool", false), (.c "NotANumber",
  .b "bool", false), (.c "DividedByZero",
  .b "bool", false)],
  .free "bool",
  .glo "is_integer",
  .xc "InvalidCount" "value",
  .glo "InvalidCount",
  .x0 "DividedByZero",
  .glo "DividedByZero",
  .free "abs",
  .glo "common_divisor",
  .flds ["Number"] "top",
  .flds ["Number"] "bottom",
  .kits [(.b "NoneType",
  .c "Number", false), (.b "bool",
  .c "Number", false), (.b "int",
  .c "Number", false), (.b "str",
  .c "Number", false), (.b "tuple",
  .c "Number", false), (.b "list",
  .c "Number", false), (.b "dict",
  .c "Number", false), (.c "Number",
  .c "Number", true)],
  .kits [(.c "InvalidCount",
  .c "Number", false), (.c "NotANumber",
  .c "Number", false), (.c "DividedByZero",
  .c "Number", false)],
  .glo "Number",
  .glo "is_number",
  .xc "NotANumber" "value",
  .glo "NotANumber",
  .mk "Number",
  .glo "number_of",
  .nta "Number" .Add,
  .meth "Number" "__add__",
  .nu "Number" .Add,
  .meth "Number" "__sub__",
  .nu "Number" .Sub,
  .meth "Number" "__mul__",
  .nu "Number" .Mult,
  .int "MAX_POWER" 20,
  .free "range",
  .meth "Number" "__rmul__",
  .meth "Number" "__str__",
  .dflt "Number" "__format__" "object.__format__",
  .cls "Number",
  .free "len",
  .free "min",
  .glo "_law_next",
  .exm "DividedByZero" [("InvalidCount", false), ("NotANumber", false), ("DividedByZero", true)],
  .kits [(.b "NoneType",
  .c "StateError", false), (.b "bool",
  .c "StateError", false), (.b "int",
  .c "StateError", false), (.b "str",
  .c "StateError", false), (.b "tuple",
  .c "StateError", false), (.b "list",
  .c "StateError", false), (.b "dict",
  .c "StateError", false), (.c "Number",
  .c "StateError", false)],
  .kits [(.c "InvalidCount",
  .c "StateError", false), (.c "NotANumber",
  .c "StateError", false), (.c "DividedByZero",
  .c "StateError", true)],
  .glo "StateError",
  .kits [(.b "NoneType",
  .b "RuntimeError", false), (.b "bool",
  .b "RuntimeError", false), (.b "int",
  .b "RuntimeError", false), (.b "str",
  .b "RuntimeError", false), (.b "tuple",
  .b "RuntimeError", false), (.b "list",
  .b "RuntimeError", false), (.b "dict",
  .b "RuntimeError", false), (.c "Number",
  .b "RuntimeError", false)],
  .kits [(.c "InvalidCount",
  .b "RuntimeError", false), (.c "NotANumber",
  .b "RuntimeError", false), (.c "DividedByZero",
  .b "RuntimeError", true)],
  .free "RuntimeError",
  .glo "InputError",
  .exm "InputError" [("InvalidCount", true), ("NotANumber", true), ("DividedByZero", false)],
  .kits [(.b "NoneType",
  .c "InvalidCount", false), (.b "bool",
  .c "InvalidCount", false), (.b "int",
  .c "InvalidCount", false), (.b "str",
  .c "InvalidCount", false), (.b "tuple",
  .c "InvalidCount", false), (.b "list",
  .c "InvalidCount", false), (.b "dict",
  .c "InvalidCount", false), (.c "Number",
  .c "InvalidCount", false)],
  .kits [(.c "InvalidCount",
  .c "InvalidCount", true), (.c "NotANumber",
  .c "InvalidCount", false), (.c "DividedByZero",
  .c "InvalidCount", false)],
  .kits [(.b "NoneType",
  .b "ValueError", false), (.b "bool",
  .b "ValueError", false), (.b "int",
  .b "ValueError", false), (.b "str",
  .b "ValueError", false), (.b "tuple",
  .b "ValueError", false), (.b "list",
  .b "ValueError", false), (.b "dict",
  .b "ValueError", false), (.c "Number",
  .b "ValueError", false)],
  .kits [(.c "InvalidCount",
  .b "ValueError", true), (.c "NotANumber",
  .b "ValueError", true), (.c "DividedByZero",
  .b "ValueError", false)],
  .free "ValueError",
  .meth "Number" "__repr__",
  .xv ["InvalidCount", "NotANumber"] "value",
  .free "repr",
  .kits [(.b "NoneType",
  .c "NotANumber", false), (.b "bool",
  .c "NotANumber", false), (.b "int",
  .c "NotANumber", false), (.b "str",
  .c "NotANumber", false), (.b "tuple",
  .c "NotANumber", false), (.b "list",
  .c "NotANumber", false), (.b "dict",
  .c "NotANumber", false), (.c "Number",
  .c "NotANumber", false)],
  .kits [(.c "InvalidCount",
  .c "NotANumber", false), (.c "NotANumber",
  .c "NotANumber", true), (.c "DividedByZero",
  .c "NotANumber", false)],
  .nfa "Number" .Add,
  .meth "Number" "__radd__",
  .nta "Number" .Sub,
  .nfa "Number" .Sub,
  .meth "Number" "__rsub__",
  .nta "Number" .Mult,
  .nfa "Number" .Mult,
  .meth "Number" "over",
  .glo "_law_one",
  .glo "_law_joined",
  .glo "_law_told",
  .glo "_law_zero",
  .meth "Number" "__pow__",
  .nu "Number" .Pow,
  .free "str",
  .free "max",
  .glo "_law_spring",
  .glo "_law_right",
  .free "all",
  .glo "law"]
abbrev s_InvalidCount_init : Stmt := inClass (top 4) 0
theorem sc_InvalidCount_init : FnScope ["self", "value"] ["self", "value"] (defScope s_InvalidCount_init) := ⟨rfl, rfl, rfl, by decide +kernel, rfl, by decide +kernel, by decide +kernel⟩
def d_InvalidCount_init : DefZ := { at_ := .meth "InvalidCount" "__init__", name := "__init__", qual := "InvalidCount.__init__", st := s_InvalidCount_init, dfl := [] }
abbrev s_NotANumber_init : Stmt := inClass (top 5) 0
theorem sc_NotANumber_init : FnScope ["self", "value"] ["self", "value"] (defScope s_NotANumber_init) := ⟨rfl, rfl, rfl, by decide +kernel, rfl, by decide +kernel, by decide +kernel⟩
def d_NotANumber_init : DefZ := { at_ := .meth "NotANumber" "__init__", name := "__init__", qual := "NotANumber.__init__", st := s_NotANumber_init, dfl := [] }
abbrev s_is_integer : Stmt := top 9
theorem sc_is_integer : FnScope ["value"] ["value"] (defScope s_is_integer) := ⟨rfl, rfl, rfl, by decide +kernel, rfl, by decide +kernel, by decide +kernel⟩
def d_is_integer : DefZ := { at_ := .glo "is_integer", name := "is_integer", qual := "is_integer", st := s_is_integer, dfl := [] }
abbrev s_common_divisor : Stmt := top 10
theorem sc_common_divisor : FnScope ["one", "other"] ["one", "other"] (defScope s_common_divisor) := ⟨rfl, rfl, rfl, by decide +kernel, rfl, by decide +kernel, by decide +kernel⟩
def d_common_divisor : DefZ := { at_ := .glo "common_divisor", name := "common_divisor", qual := "common_divisor", st := s_common_divisor, dfl := [] }
abbrev s_Number_init : Stmt := inClass (top 11) 0
theorem sc_Number_init : FnScope ["self", "top", "bottom", "divisor"] ["self", "top", "bottom"] (defScope s_Number_init) := ⟨rfl, rfl, rfl, by decide +kernel, rfl, by decide +kernel, by decide +kernel⟩
def d_Number_init : DefZ := { at_ := .meth "Number" "__init__", name := "__init__", qual := "Number.__init__", st := s_Number_init, dfl := [.int 1] }
abbrev s_is_number : Stmt := top 13
theorem sc_is_number : FnScope ["value"] ["value"] (defScope s_is_number) := ⟨rfl, rfl, rfl, by decide +kernel, rfl, by decide +kernel, by decide +kernel⟩
def d_is_number : DefZ := { at_ := .glo "is_number", name := "is_number", qual := "is_number", st := s_is_number, dfl := [] }
abbrev s_number_of : Stmt := top 14
theorem sc_number_of : FnScope ["value"] ["value"] (defScope s_number_of) := ⟨rfl, rfl, rfl, by decide +kernel, rfl, by decide +kernel, by decide +kernel⟩
def d_number_of : DefZ := { at_ := .glo "number_of", name := "number_of", qual := "number_of", st := s_number_of, dfl := [] }
abbrev s_Number_over : Stmt := inClass (top 11) 3
theorem sc_Number_over : FnScope ["self", "other", "divisor"] ["self", "other"] (defScope s_Number_over) := ⟨rfl, rfl, rfl, by decide +kernel, rfl, by decide +kernel, by decide +kernel⟩
def d_Number_over : DefZ := { at_ := .meth "Number" "over", name := "over", qual := "Number.over", st := s_Number_over, dfl := [] }
abbrev s_Number_add : Stmt := inClass (top 11) 4
theorem sc_Number_add : FnScope ["self", "other", "second"] ["self", "other"] (defScope s_Number_add) := ⟨rfl, rfl, rfl, by decide +kernel, rfl, by decide +kernel, by decide +kernel⟩
def d_Number_add : DefZ := { at_ := .meth "Number" "__add__", name := "__add__", qual := "Number.__add__", st := s_Number_add, dfl := [] }
abbrev s_Number_radd : Stmt := inClass (top 11) 5
theorem sc_Number_radd : FnScope ["self", "other"] ["self", "other"] (defScope s_Number_radd) := ⟨rfl, rfl, rfl, by decide +kernel, rfl, by decide +kernel, by decide +kernel⟩
def d_Number_radd : DefZ := { at_ := .meth "Number" "__radd__", name := "__radd__", qual := "Number.__radd__", st := s_Number_radd, dfl := [] }
abbrev s_Number_sub : Stmt := inClass (top 11) 6
theorem sc_Number_sub : FnScope ["self", "other", "second"] ["self", "other"] (defScope s_Number_sub) := ⟨rfl, rfl, rfl, by decide +kernel, rfl, by decide +kernel, by decide +kernel⟩
def d_Number_sub : DefZ := { at_ := .meth "Number" "__sub__", name := "__sub__", qual := "Number.__sub__", st := s_Number_sub, dfl := [] }
abbrev s_Number_rsub : Stmt := inClass (top 11) 7
theorem sc_Number_rsub : FnScope ["self", "other"] ["self", "other"] (defScope s_Number_rsub) := ⟨rfl, rfl, rfl, by decide +kernel, rfl, by decide +kernel, by decide +kernel⟩
def d_Number_rsub : DefZ := { at_ := .meth "Number" "__rsub__", name := "__rsub__", qual := "Number.__rsub__", st := s_Number_rsub, dfl := [] }
abbrev s_Number_mul : Stmt := inClass (top 11) 8
theorem sc_Number_mul : FnScope ["self", "other", "second"] ["self", "other"] (defScope s_Number_mul) := ⟨rfl, rfl, rfl, by decide +kernel, rfl, by decide +kernel, by decide +kernel⟩
def d_Number_mul : DefZ := { at_ := .meth "Number" "__mul__", name := "__mul__", qual := "Number.__mul__", st := s_Number_mul, dfl := [] }
abbrev s_Number_rmul : Stmt := inClass (top 11) 9
theorem sc_Number_rmul : FnScope ["self", "other"] ["self", "other"] (defScope s_Number_rmul) := ⟨rfl, rfl, rfl, by decide +kernel, rfl, by decide +kernel, by decide +kernel⟩
def d_Number_rmul : DefZ := { at_ := .meth "Number" "__rmul__", name := "__rmul__", qual := "Number.__rmul__", st := s_Number_rmul, dfl := [] }
abbrev s_Number_pow : Stmt := inClass (top 11) 12
theorem sc_Number_pow : FnScope ["self", "count", "found", "turn"] ["self", "count"] (defScope s_Number_pow) := ⟨rfl, rfl, rfl, by decide +kernel, rfl, by decide +kernel, by decide +kernel⟩
def d_Number_pow : DefZ := { at_ := .meth "Number" "__pow__", name := "__pow__", qual := "Number.__pow__", st := s_Number_pow, dfl := [] }
abbrev s_Number_str : Stmt := inClass (top 11) 14
theorem sc_Number_str : FnScope ["self"] ["self"] (defScope s_Number_str) := ⟨rfl, rfl, rfl, by decide +kernel, rfl, by decide +kernel, by decide +kernel⟩
def d_Number_str : DefZ := { at_ := .meth "Number" "__str__", name := "__str__", qual := "Number.__str__", st := s_Number_str, dfl := [] }
abbrev s_Number_repr : Stmt := inClass (top 11) 15
theorem sc_Number_repr : FnScope ["self"] ["self"] (defScope s_Number_repr) := ⟨rfl, rfl, rfl, by decide +kernel, rfl, by decide +kernel, by decide +kernel⟩
def d_Number_repr : DefZ := { at_ := .meth "Number" "__repr__", name := "__repr__", qual := "Number.__repr__", st := s_Number_repr, dfl := [] }
abbrev s_l_spring : Stmt := top 16
theorem sc_l_spring : FnScope ["_law_script", "_law_spot", "_law_mixed", "_law_at", "_law_own", "_law_digits"] ["_law_script", "_law_spot"] (defScope s_l_spring) := ⟨rfl, rfl, rfl, by decide +kernel, rfl, by decide +kernel, by decide +kernel⟩
def d_l_spring : DefZ := { at_ := .glo "_law_spring", name := "_law_spring", qual := "_law_spring", st := s_l_spring, dfl := [] }
abbrev s_l_next : Stmt := top 17
theorem sc_l_next : FnScope ["_law_spring_here", "_law_many", "_law_digit", "_law_state"] ["_law_spring_here", "_law_many"] (defScope s_l_next) := ⟨rfl, rfl, rfl, by decide +kernel, rfl, by decide +kernel, by decide +kernel⟩
def d_l_next : DefZ := { at_ := .glo "_law_next", name := "_law_next", qual := "_law_next", st := s_l_next, dfl := [] }
abbrev s_l_one : Stmt := top 18
theorem sc_l_one : FnScope ["_law_spring_here", "_law_things"] ["_law_spring_here", "_law_things"] (defScope s_l_one) := ⟨rfl, rfl, rfl, by decide +kernel, rfl, by decide +kernel, by decide +kernel⟩
def d_l_one : DefZ := { at_ := .glo "_law_one", name := "_law_one", qual := "_law_one", st := s_l_one, dfl := [] }
abbrev s_l_told : Stmt := top 19
theorem sc_l_told : FnScope ["_law_act", "e"] ["_law_act"] (defScope s_l_told) := ⟨rfl, rfl, rfl, by decide +kernel, rfl, by decide +kernel, by decide +kernel⟩
def d_l_told : DefZ := { at_ := .glo "_law_told", name := "_law_told", qual := "_law_told", st := s_l_told, dfl := [] }
abbrev s_l_joined : Stmt := top 20
theorem sc_l_joined : FnScope ["_law_way", "_law_number", "_law_odd"] ["_law_way", "_law_number", "_law_odd"] (defScope s_l_joined) := ⟨rfl, rfl, rfl, by decide +kernel, rfl, by decide +kernel, by decide +kernel⟩
def d_l_joined : DefZ := { at_ := .glo "_law_joined", name := "_law_joined", qual := "_law_joined", st := s_l_joined, dfl := [] }
abbrev s_l_zero : Stmt := top 22
theorem sc_l_zero : FnScope ["_law_spring_here"] ["_law_spring_here"] (defScope s_l_zero) := ⟨rfl, rfl, rfl, by decide +kernel, rfl, by decide +kernel, by decide +kernel⟩
def d_l_zero : DefZ := { at_ := .glo "_law_zero", name := "_law_zero", qual := "_law_zero", st := s_l_zero, dfl := [] }
abbrev s_l_right : Stmt := top 21
theorem sc_l_right : FnScope ["_law_spring_here", "_law_number", "_law_odd", "_law_way", "_law_line", "_law_bad", "_law_told_here"] ["_law_spring_here"] (defScope s_l_right) := ⟨rfl, rfl, rfl, by decide +kernel, rfl, by decide +kernel, by decide +kernel⟩
def d_l_right : DefZ := { at_ := .glo "_law_right", name := "_law_right", qual := "_law_right", st := s_l_right, dfl := [] }
abbrev s_law : Stmt := top 23
theorem sc_law : FnScope ["_law_script", "_law_spot", "_law_spring_here", "_law_turn"] ["_law_script"] (defScope s_law) := ⟨rfl, rfl, rfl, by decide +kernel, rfl, by decide +kernel, by decide +kernel⟩
def d_law : DefZ := { at_ := .glo "law", name := "law", qual := "law", st := s_law, dfl := [] }
def fn : List DefZ := [d_is_integer, d_common_divisor, d_Number_init, d_InvalidCount_init, d_is_number, d_number_of, d_NotANumber_init, d_Number_over, d_Number_add, d_Number_radd, d_Number_sub, d_Number_rsub, d_Number_mul, d_Number_rmul, d_Number_pow, d_Number_str, d_Number_repr, d_l_spring, d_l_next, d_l_one, d_l_told, d_l_joined, d_l_zero, d_l_right, d_law]
section
variable {P : Program} {w : World} {K : PySem.W.Frag} {mg : Str → Option Value} {base : Heap} {T : WX} {X : Cx}
theorem kn_InvalidCount_init {fd : FuncData} (F : FunZ K d_InvalidCount_init fd) : Binds K fd ["self", "value"] [] := F.bindsN fun _ _ _ _ _ _ us hl => match us, hl with | [_, _], _ => rfl
theorem ox_InvalidCount_init (Γ : Gz fa fn K mg) : OkD true P w K mg base 1 d_InvalidCount_init ["self", "value"] (spX (ga K "InvalidCount") "value") := okx_at Γ.says 3 10 rfl rfl sc_InvalidCount_init rfl (by decide +kernel) (by decide +kernel) (fun _ => rfl)
theorem kn_NotANumber_init {fd : FuncData} (F : FunZ K d_NotANumber_init fd) : Binds K fd ["self", "value"] [] := F.bindsN fun _ _ _ _ _ _ us hl => match us, hl with | [_, _], _ => rfl
theorem ox_NotANumber_init (Γ : Gz fa fn K mg) : OkD true P w K mg base 1 d_NotANumber_init ["self", "value"] (spX (ga K "NotANumber") "value") := okx_at Γ.says 6 22 rfl rfl sc_NotANumber_init rfl (by decide +kernel) (by decide +kernel) (fun _ => rfl)
def ti_0 : List (TK × TK × Bool) := [(.b "NoneType", .b "int", false), (.b "bool", .b "int", true), (.b "int", .b "int", true), (.b "str", .b "int", false), (.b "tuple", .b "int", false), (.b "list", .b "int", false), (.b "dict", .b "int", false), (.c "Number", .b "int", false)]
def te_0 : List (TK × TK × Bool) := [(.c "InvalidCount", .b "int", false), (.c "NotANumber", .b "int", false), (.c "DividedByZero", .b "int", false)]
@[simp] theorem ti_0_0 {b : Bool} {n : Int} {z : Str} {ds : List D} {k : List Key} {ns : List Str} {h : Store} : bIsx te_0 ti_0 [.non, .ty "int"] h = .ok (.bl false) h := rfl
@[simp] theorem ti_0_1 {b : Bool} {n : Int} {z : Str} {ds : List D} {k : List Key} {ns : List Str} {h : Store} : bIsx te_0 ti_0 [.bl b, .ty "int"] h = .ok (.bl true) h := rfl
@[simp] theorem ti_0_2 {b : Bool} {n : Int} {z : Str} {ds : List D} {k : List Key} {ns : List Str} {h : Store} : bIsx te_0 ti_0 [.int n, .ty "int"] h = .ok (.bl true) h := rfl
@[simp] theorem ti_0_3 {b : Bool} {n : Int} {z : Str} {ds : List D} {k : List Key} {ns : List Str} {h : Store} : bIsx te_0 ti_0 [.str z, .ty "int"] h = .ok (.bl false) h := rfl
@[simp] theorem ti_0_4 {b : Bool} {n : Int} {z : Str} {ds : List D} {k : List Key} {ns : List Str} {h : Store} : bIsx te_0 ti_0 [.tup ds, .ty "int"] h = .ok (.bl false) h := rfl
@[simp] theorem ti_0_5 {b : Bool} {n : Int} {z : Str} {ds : List D} {k : List Key} {ns : List Str} {h : Store} : bIsx te_0 ti_0 [.lst ds, .ty "int"] h = .ok (.bl false) h := rfl
@[simp] theorem ti_0_6 {b : Bool} {n : Int} {z : Str} {ds : List D} {k : List Key} {ns : List Str} {h : Store} : bIsx te_0 ti_0 [.dic k ds, .ty "int"] h = .ok (.bl false) h := rfl
@[simp] theorem ti_0_7 {b : Bool} {n : Int} {z : Str} {ds : List D} {k : List Key} {ns : List Str} {h : Store} : bIsx te_0 ti_0 [.obj "Number" ns ds, .ty "int"] h = .ok (.bl false) h := rfl
@[simp] theorem te_0_0 {b : Bool} {n : Int} {z : Str} {ds : List D} {k : List Key} {ns : List Str} {h : Store} : bIsx te_0 ti_0 [.exc "InvalidCount" ns ds, .ty "int"] h = .ok (.bl false) h := rfl
@[simp] theorem te_0_1 {b : Bool} {n : Int} {z : Str} {ds : List D} {k : List Key} {ns : List Str} {h : Store} : bIsx te_0 ti_0 [.exc "NotANumber" ns ds, .ty "int"] h = .ok (.bl false) h := rfl
@[simp] theorem te_0_2 {b : Bool} {n : Int} {z : Str} {ds : List D} {k : List Key} {ns : List Str} {h : Store} : bIsx te_0 ti_0 [.exc "DividedByZero" ns ds, .ty "int"] h = .ok (.bl false) h := rfl
def ti_1 : List (TK × TK × Bool) := [(.b "NoneType", .b "bool", false), (.b "bool", .b "bool", true), (.b "int", .b "bool", false), (.b "str", .b "bool", false), (.b "tuple", .b "bool", false), (.b "list", .b "bool", false), (.b "dict", .b "bool", false), (.c "Number", .b "bool", false)]
def te_1 : List (TK × TK × Bool) := [(.c "InvalidCount", .b "bool", false), (.c "NotANumber", .b "bool", false), (.c "DividedByZero", .b "bool", false)]
@[simp] theorem ti_1_0 {b : Bool} {n : Int} {z : Str} {ds : List D} {k : List Key} {ns : List Str} {h : Store} : bIsx te_1 ti_1 [.non, .ty "bool"] h = .ok (.bl false) h := rfl
@[simp] theorem ti_1_1 {b : Bool} {n : Int} {z : Str} {ds : List D} {k : List Key} {ns : List Str} {h : Store} : bIsx te_1 ti_1 [.bl b, .ty "bool"] h = .ok (.bl true) h := rfl
@[simp] theorem ti_1_2 {b : Bool} {n : Int} {z : Str} {ds : List D} {k : List Key} {ns : List Str} {h : Store} : bIsx te_1 ti_1 [.int n, .ty "bool"] h = .ok (.bl false) h := rfl
@[simp] theorem ti_1_3 {b : Bool} {n : Int} {z : Str} {ds : List D} {k : List Key} {ns : List Str} {h : Store} : bIsx te_1 ti_1 [.str z, .ty "bool"] h = .ok (.bl false) h := rfl
@[simp] theorem ti_1_4 {b : Bool} {n : Int} {z : Str} {ds : List D} {k : List Key} {ns : List Str} {h : Store} : bIsx te_1 ti_1 [.tup ds, .ty "bool"] h = .ok (.bl false) h := rfl
@[simp] theorem ti_1_5 {b : Bool} {n : Int} {z : Str} {ds : List D} {k : List Key} {ns : List Str} {h : Store} : bIsx te_1 ti_1 [.lst ds, .ty "bool"] h = .ok (.bl false) h := rfl
@[simp] theorem ti_1_6 {b : Bool} {n : Int} {z : Str} {ds : List D} {k : List Key} {ns : List Str} {h : Store} : bIsx te_1 ti_1 [.dic k ds, .ty "bool"] h = .ok (.bl false) h := rfl
@[simp] theorem ti_1_7 {b : Bool} {n : Int} {z : Str} {ds : List D} {k : List Key} {ns : List Str} {h : Store} : bIsx te_1 ti_1 [.obj "Number" ns ds, .ty "bool"] h = .ok (.bl false) h := rfl
@[simp] theorem te_1_0 {b : Bool} {n : Int} {z : Str} {ds : List D} {k : List Key} {ns : List Str} {h : Store} : bIsx te_1 ti_1 [.exc "InvalidCount" ns ds, .ty "bool"] h = .ok (.bl false) h := rfl
@[simp] theorem te_1_1 {b : Bool} {n : Int} {z : Str} {ds : List D} {k : List Key} {ns : List Str} {h : Store} : bIsx te_1 ti_1 [.exc "NotANumber" ns ds, .ty "bool"] h = .ok (.bl false) h := rfl
@[simp] theorem te_1_2 {b : Bool} {n : Int} {z : Str} {ds : List D} {k : List Key} {ns : List Str} {h : Store} : bIsx te_1 ti_1 [.exc "DividedByZero" ns ds, .ty "bool"] h = .ok (.bl false) h := rfl
def c_is_integer : SC := (mRet (mAnd (mCall (bIsx te_0 ti_0) (mConsA (mVar 0) (mConsA (mLit (.ty "int")) mNilA))) (mNot (mCall (bIsx te_1 ti_1) (mConsA (mVar 0) (mConsA (mLit (.ty "bool")) mNilA))))))
def f_is_integer : List D → M D := runF c_is_integer 1
theorem sb_is_integer (Γ : Gz fa fn K mg) (TB : TbsZ tl K mg base) (C : Cz P w K mg base 1 X ["value"] (defScope s_is_integer) true true) (tk : Takes X T) (po : PassesOwn (model X.prog X.w) X.A X.env X.xe) : SB T X (defBody s_is_integer) c_is_integer := by
  exact (sb_one (ss_ret (se_and (se_callB (fb_b (isx_at (t := ti_0) (te := te_0) Γ C 1 0 2 3 rfl rfl (by decide +kernel) rfl rfl (by decide +kernel)) (bn_at Γ C 5 rfl (by decide +kernel) (by decide) (by decide +kernel))) rfl rfl (sla_cons (SE.sl (se_var (sl_at C 0 "value" (by decide +kernel)))) (sla_cons (SE.sl (se_ty (bn_at Γ C 4 rfl (by decide +kernel) (by decide) (by decide +kernel)))) sla_nil rfl) rfl)) (se_one (se_not (se_callB (fb_b (isx_at (t := ti_1) (te := te_1) Γ C 6 0 7 3 rfl rfl (by decide +kernel) rfl rfl (by decide +kernel)) (bn_at Γ C 5 rfl (by decide +kernel) (by decide) (by decide +kernel))) rfl rfl (sla_cons (SE.sl (se_var (sl_at C 0 "value" (by decide +kernel)))) (sla_cons (SE.sl (se_ty (bn_at Γ C 8 rfl (by decide +kernel) (by decide) (by decide +kernel)))) sla_nil rfl) rfl)))))))
theorem ok_is_integer (Γ : Gz fa fn K mg) (TB : TbsZ tl K mg base) : OkD true P w K mg base 2 d_is_integer ["value"] (spM K 1 f_is_integer) := okd_of Γ.says 0 rfl sc_is_integer (by decide) fun C tk po => sb_is_integer Γ TB C tk po
def w_common_divisor_1 : SC := (mParS [0, 1] (mPv (mVar 1) (mPv (mBin (bop noO .Mod) (mVar 0) (mVar 1)) mPn)))
def c_common_divisor : SC := (mSeq (loopW (tB (mBin (cmpD noO .NotEq) (mVar 1) (mLit (.int 0)))) w_common_divisor_1 (400000)) (mRet (mVar 0)))
def f_common_divisor : List D → M D := runF c_common_divisor 2
theorem sb_common_divisor (Γ : Gz fa fn K mg) (TB : TbsZ tl K mg base) (C : Cz P w K mg base 1 X ["one", "other"] (defScope s_common_divisor) true false) (tk : Takes X T) (po : PassesOwn (model X.prog X.w) X.A X.env X.xe) : SB T X (defBody s_common_divisor) c_common_divisor := by
  exact (sb_cons (ss_while po (st_cmp (cmp_ok (ru_at C) noO_ok) rfl (SE.sl (se_var (sl_at C 1 "other" (by decide +kernel)))) (SE.sl se_lit)) (sb_one (ss_parS2 (C.calm rfl) (sw_at C 0 "one" (by decide +kernel)) (sw_at C 1 "other" (by decide +kernel)) (by decide) (lc_at C "one" (by decide +kernel)) (lc_at C "other" (by decide +kernel)) (sws_at C (fun _ => rfl)) rfl (sp_v (se_var (sl_at C 1 "other" (by decide +kernel))) (sp_v (se_bin (bop_ok noO_ok) (SE.sl (se_var (sl_at C 0 "one" (by decide +kernel)))) (SE.sl (se_var (sl_at C 1 "other" (by decide +kernel))))) sp_nil rfl) rfl)))) (sb_one (ss_ret (se_var (sl_at C 0 "one" (by decide +kernel))))))
theorem ok_common_divisor (Γ : Gz fa fn K mg) (TB : TbsZ tl K mg base) : OkD false P w K mg base 2 d_common_divisor ["one", "other"] (spM K 2 f_common_divisor) := okd_of Γ.says 1 rfl sc_common_divisor (by decide) fun C tk po => sb_common_divisor Γ TB C tk po
theorem kb_is_integer_1 {fd : FuncData} (F : FunZ K d_is_integer fd) : Kbz K fd ["value"] 1 [] [0] [] := kbz0 F fun _ _ _ _ _ _ us ws h1 h2 => match us, ws, h1, h2 with | [_], [], _, _ => rfl
theorem kb_common_divisor_2 {fd : FuncData} (F : FunZ K d_common_divisor fd) : Kbz K fd ["one", "other"] 2 [] [0, 1] [] := kbz0 F fun _ _ _ _ _ _ us ws h1 h2 => match us, ws, h1, h2 with | [_, _], [], _, _ => rfl
def c_Number_init : SC := (mSeq (mIfS (notB (tB (mArgs (mConsA (mVar 1) mNilA) mNilA (wArg 1 0 [0] [] f_is_integer)))) (mRs1 "InvalidCount" "value" (mVar 1)) mPass) (mSeq (mIfS (notB (tB (mArgs (mConsA (mVar 2) mNilA) mNilA (wArg 1 0 [0] [] f_is_integer)))) (mRs1 "InvalidCount" "value" (mVar 2)) mPass) (mSeq (mIfS (tB (mBin (cmpD noO .Eq) (mVar 2) (mLit (.int 0)))) (mRs0 "DividedByZero") mPass) (mSeq (mAsg 3 (mArgs (mConsA (mCall (bAbs no1) (mConsA (mVar 1) mNilA)) (mConsA (mCall (bAbs no1) (mConsA (mVar 2) mNilA)) mNilA)) mNilA (wArg 2 0 [0, 1] [] f_common_divisor))) (mSeq (mIfS (tB (mBin (cmpD noO .Lt) (mVar 2) (mLit (.int 0)))) (mAsg 3 (mBin (bop noO .Sub) (mLit (.int 0)) (mVar 3))) mPass) (mSeq (mSetF ["Number"] 0 "top" (mBin (bop noO .FloorDiv) (mVar 1) (mVar 3))) (mSetF ["Number"] 0 "bottom" (mBin (bop noO .FloorDiv) (mVar 2) (mVar 3)))))))))
def f_Number_init : List D → M (List Str × List D) := runI "Number" c_Number_init 4
theorem sb_Number_init (Γ : Gz fa fn K mg) (TB : TbsZ tl K mg base) (C : Cz P w K mg base 2 X ["self", "top", "bottom", "divisor"] (defScope s_Number_init) true false) (tk : Takes X T) (po : PassesOwn (model X.prog X.w) X.A X.env X.xe) : SB T X (defBody s_Number_init) c_Number_init := by
  exact (sb_cons (ss_if (st_not (st_val (fun _ => rfl) (se_callW (fq_at Γ C tk (ok_is_integer Γ TB) (by decide) (by decide) rfl kb_is_integer_1 rfl (fun _ _ => Rps.nil) 9 rfl (by decide +kernel)) ⟨rfl, rfl, rfl, .inr ⟨_, _, rfl, rfl⟩⟩ (sa_cons (se_var (sl_at C 1 "top" (by decide +kernel))) sa_nil rfl) sk_nil))) (sb_one (ss_rs1 (C.calm rfl) tk (xk_at Γ C (ox_InvalidCount_init Γ) (by decide) (by decide) rfl (kn_InvalidCount_init) rfl 10 11 rfl rfl (by decide +kernel)) (se_var (sl_at C 1 "top" (by decide +kernel))) rfl)) sb_nil) (sb_cons (ss_if (st_not (st_val (fun _ => rfl) (se_callW (fq_at Γ C tk (ok_is_integer Γ TB) (by decide) (by decide) rfl kb_is_integer_1 rfl (fun _ _ => Rps.nil) 9 rfl (by decide +kernel)) ⟨rfl, rfl, rfl, .inr ⟨_, _, rfl, rfl⟩⟩ (sa_cons (se_var (sl_at C 2 "bottom" (by decide +kernel))) sa_nil rfl) sk_nil))) (sb_one (ss_rs1 (C.calm rfl) tk (xk_at Γ C (ox_InvalidCount_init Γ) (by decide) (by decide) rfl (kn_InvalidCount_init) rfl 10 11 rfl rfl (by decide +kernel)) (se_var (sl_at C 2 "bottom" (by decide +kernel))) rfl)) sb_nil) (sb_cons (ss_if (st_cmp (cmp_ok (ru_at C) noO_ok) rfl (SE.sl (se_var (sl_at C 2 "bottom" (by decide +kernel)))) (SE.sl se_lit)) (sb_one (ss_rs0 (C.calm rfl) tk (x0_at Γ C 12 13 rfl rfl (by decide +kernel)) rfl)) sb_nil) (sb_cons (ss_asg (sw_at C 3 "divisor" (by decide +kernel)) rfl (se_callW (fq_at Γ C tk (ok_common_divisor Γ TB) (by decide) (by decide) rfl kb_common_divisor_2 rfl (fun _ _ => Rps.nil) 15 rfl (by decide +kernel)) ⟨rfl, rfl, rfl, .inr ⟨_, _, rfl, rfl⟩⟩ (sa_cons (se_callB (fb_b (abs_ok no1_ok) (bn_at Γ C 14 rfl (by decide +kernel) (by decide) (by decide +kernel))) rfl rfl (sla_cons (SE.sl (se_var (sl_at C 1 "top" (by decide +kernel)))) sla_nil rfl)) (sa_cons (se_callB (fb_b (abs_ok no1_ok) (bn_at Γ C 14 rfl (by decide +kernel) (by decide) (by decide +kernel))) rfl rfl (sla_cons (SE.sl (se_var (sl_at C 2 "bottom" (by decide +kernel)))) sla_nil rfl)) sa_nil rfl) rfl) sk_nil)) (sb_cons (ss_if (st_cmp (cmp_ok (ru_at C) noO_ok) rfl (SE.sl (se_var (sl_at C 2 "bottom" (by decide +kernel)))) (SE.sl se_lit)) (sb_one (ss_asg (sw_at C 3 "divisor" (by decide +kernel)) rfl (se_bin (bop_ok noO_ok) (SE.sl se_lit) (SE.sl (se_var (sl_at C 3 "divisor" (by decide +kernel))))))) sb_nil) (sb_cons (ss_setf (sl_at C 0 "self" (by decide +kernel)) (hcl_at Γ C 16 rfl) rfl (se_bin (bop_ok noO_ok) (SE.sl (se_var (sl_at C 1 "top" (by decide +kernel)))) (SE.sl (se_var (sl_at C 3 "divisor" (by decide +kernel)))))) (sb_one (ss_setf (sl_at C 0 "self" (by decide +kernel)) (hcl_at Γ C 17 rfl) rfl (se_bin (bop_ok noO_ok) (SE.sl (se_var (sl_at C 2 "bottom" (by decide +kernel)))) (SE.sl (se_var (sl_at C 3 "divisor" (by decide +kernel)))))))))))))
theorem ok_Number_init (Γ : Gz fa fn K mg) (TB : TbsZ tl K mg base) : OkD false P w K mg base 3 d_Number_init ["self", "top", "bottom"] (spI K "Number" 3 f_Number_init) := oki_of Γ.says 2 rfl sc_Number_init (by decide) fun C tk po => sb_Number_init Γ TB C tk po
def ti_2 : List (TK × TK × Bool) := [(.b "NoneType", .c "Number", false), (.b "bool", .c "Number", false), (.b "int", .c "Number", false), (.b "str", .c "Number", false), (.b "tuple", .c "Number", false), (.b "list", .c "Number", false), (.b "dict", .c "Number", false), (.c "Number", .c "Number", true)]
def te_2 : List (TK × TK × Bool) := [(.c "InvalidCount", .c "Number", false), (.c "NotANumber", .c "Number", false), (.c "DividedByZero", .c "Number", false)]
@[simp] theorem ti_2_0 {b : Bool} {n : Int} {z : Str} {ds : List D} {k : List Key} {ns : List Str} {h : Store} : bIsx te_2 ti_2 [.non, .cls "Number"] h = .ok (.bl false) h := rfl
@[simp] theorem ti_2_1 {b : Bool} {n : Int} {z : Str} {ds : List D} {k : List Key} {ns : List Str} {h : Store} : bIsx te_2 ti_2 [.bl b, .cls "Number"] h = .ok (.bl false) h := rfl
@[simp] theorem ti_2_2 {b : Bool} {n : Int} {z : Str} {ds : List D} {k : List Key} {ns : List Str} {h : Store} : bIsx te_2 ti_2 [.int n, .cls "Number"] h = .ok (.bl false) h := rfl
@[simp] theorem ti_2_3 {b : Bool} {n : Int} {z : Str} {ds : List D} {k : List Key} {ns : List Str} {h : Store} : bIsx te_2 ti_2 [.str z, .cls "Number"] h = .ok (.bl false) h := rfl
@[simp] theorem ti_2_4 {b : Bool} {n : Int} {z : Str} {ds : List D} {k : List Key} {ns : List Str} {h : Store} : bIsx te_2 ti_2 [.tup ds, .cls "Number"] h = .ok (.bl false) h := rfl
@[simp] theorem ti_2_5 {b : Bool} {n : Int} {z : Str} {ds : List D} {k : List Key} {ns : List Str} {h : Store} : bIsx te_2 ti_2 [.lst ds, .cls "Number"] h = .ok (.bl false) h := rfl
@[simp] theorem ti_2_6 {b : Bool} {n : Int} {z : Str} {ds : List D} {k : List Key} {ns : List Str} {h : Store} : bIsx te_2 ti_2 [.dic k ds, .cls "Number"] h = .ok (.bl false) h := rfl
@[simp] theorem ti_2_7 {b : Bool} {n : Int} {z : Str} {ds : List D} {k : List Key} {ns : List Str} {h : Store} : bIsx te_2 ti_2 [.obj "Number" ns ds, .cls "Number"] h = .ok (.bl true) h := rfl
@[simp] theorem te_2_0 {b : Bool} {n : Int} {z : Str} {ds : List D} {k : List Key} {ns : List Str} {h : Store} : bIsx te_2 ti_2 [.exc "InvalidCount" ns ds, .cls "Number"] h = .ok (.bl false) h := rfl
@[simp] theorem te_2_1 {b : Bool} {n : Int} {z : Str} {ds : List D} {k : List Key} {ns : List Str} {h : Store} : bIsx te_2 ti_2 [.exc "NotANumber" ns ds, .cls "Number"] h = .ok (.bl false) h := rfl
@[simp] theorem te_2_2 {b : Bool} {n : Int} {z : Str} {ds : List D} {k : List Key} {ns : List Str} {h : Store} : bIsx te_2 ti_2 [.exc "DividedByZero" ns ds, .cls "Number"] h = .ok (.bl false) h := rfl
def c_is_number : SC := (mRet (mOr (mCall (bIsx te_2 ti_2) (mConsA (mVar 0) (mConsA (mLit (.cls "Number")) mNilA))) (mArgs (mConsA (mVar 0) mNilA) mNilA (wArg 1 0 [0] [] f_is_integer))))
def f_is_number : List D → M D := runF c_is_number 1
theorem sb_is_number (Γ : Gz fa fn K mg) (TB : TbsZ tl K mg base) (C : Cz P w K mg base 2 X ["value"] (defScope s_is_number) true true) (tk : Takes X T) (po : PassesOwn (model X.prog X.w) X.A X.env X.xe) : SB T X (defBody s_is_number) c_is_number := by
  exact (sb_one (ss_ret (se_or (se_callB (fb_b (isx_at (t := ti_2) (te := te_2) Γ C 18 0 19 3 rfl rfl (by decide +kernel) rfl rfl (by decide +kernel)) (bn_at Γ C 5 rfl (by decide +kernel) (by decide) (by decide +kernel))) rfl rfl (sla_cons (SE.sl (se_var (sl_at C 0 "value" (by decide +kernel)))) (sla_cons (SE.sl (se_cls C (gc_at Γ C 20 rfl (by decide +kernel)))) sla_nil rfl) rfl)) (se_one (se_callW (fq_at Γ C tk (ok_is_integer Γ TB) (by decide) (by decide) rfl kb_is_integer_1 rfl (fun _ _ => Rps.nil) 9 rfl (by decide +kernel)) ⟨rfl, rfl, rfl, .inr ⟨_, _, rfl, rfl⟩⟩ (sa_cons (se_var (sl_at C 0 "value" (by decide +kernel))) sa_nil rfl) sk_nil)))))
theorem ok_is_number (Γ : Gz fa fn K mg) (TB : TbsZ tl K mg base) : OkD true P w K mg base 3 d_is_number ["value"] (spM K 1 f_is_number) := okd_of Γ.says 4 rfl sc_is_number (by decide) fun C tk po => sb_is_number Γ TB C tk po
theorem kb_is_number_1 {fd : FuncData} (F : FunZ K d_is_number fd) : Kbz K fd ["value"] 1 [] [0] [] := kbz0 F fun _ _ _ _ _ _ us ws h1 h2 => match us, ws, h1, h2 with | [_], [], _, _ => rfl
theorem kb_Number_init_1 {fd : FuncData} (F : FunZ K d_Number_init fd) : Kbi K fd ["self", "top", "bottom"] 1 [] [0, 1] [.int 1] := kbi1 F (by intro h; cases h) fun _ _ _ _ _ _ _ _ us its ws h1 h2 h3 => match us, its, ws, h1, h2, h3 with | [_], [_], [], _, _, _ => ⟨_, rfl, rfl⟩
def c_number_of : SC := (mSeq (mIfS (notB (tB (mArgs (mConsA (mVar 0) mNilA) mNilA (wArg 1 0 [0] [] f_is_number)))) (mRs1 "NotANumber" "value" (mVar 0)) mPass) (mRet (mIf (tB (mCall (bIsx te_2 ti_2) (mConsA (mVar 0) (mConsA (mLit (.cls "Number")) mNilA)))) (mVar 0) (mArgs (mConsA (mVar 0) mNilA) mNilA (wMk "Number" 1 0 [0, 1] [.int 1] f_Number_init)))))
def f_number_of : List D → M D := runF c_number_of 1
theorem sb_number_of (Γ : Gz fa fn K mg) (TB : TbsZ tl K mg base) (C : Cz P w K mg base 4 X ["value"] (defScope s_number_of) true false) (tk : Takes X T) (po : PassesOwn (model X.prog X.w) X.A X.env X.xe) : SB T X (defBody s_number_of) c_number_of := by
  exact (sb_cons (ss_if (st_not (st_val (fun _ => rfl) (se_callW (fq_at Γ C tk (ok_is_number Γ TB) (by decide) (by decide) rfl kb_is_number_1 rfl (fun _ _ => Rps.nil) 21 rfl (by decide +kernel)) ⟨rfl, rfl, rfl, .inr ⟨_, _, rfl, rfl⟩⟩ (sa_cons (se_var (sl_at C 0 "value" (by decide +kernel))) sa_nil rfl) sk_nil))) (sb_one (ss_rs1 (C.calm rfl) tk (xk_at Γ C (ox_NotANumber_init Γ) (by decide) (by decide) rfl (kn_NotANumber_init) rfl 22 23 rfl rfl (by decide +kernel)) (se_var (sl_at C 0 "value" (by decide +kernel))) rfl)) sb_nil) (sb_one (ss_ret (se_if (st_val (fun _ => rfl) (se_callB (fb_b (isx_at (t := ti_2) (te := te_2) Γ C 18 0 19 3 rfl rfl (by decide +kernel) rfl rfl (by decide +kernel)) (bn_at Γ C 5 rfl (by decide +kernel) (by decide) (by decide +kernel))) rfl rfl (sla_cons (SE.sl (se_var (sl_at C 0 "value" (by decide +kernel)))) (sla_cons (SE.sl (se_cls C (gc_at Γ C 20 rfl (by decide +kernel)))) sla_nil rfl) rfl))) (se_var (sl_at C 0 "value" (by decide +kernel))) (se_callW (fk_at Γ C tk (ok_Number_init Γ TB) (by decide) (by decide) rfl kb_Number_init_1 rfl (fun _ _ => Rps.cons (by unfold Rp; rfl) (Rps.nil)) 20 24 rfl rfl (by decide +kernel)) ⟨rfl, rfl, rfl, .inr ⟨_, _, rfl, rfl⟩⟩ (sa_cons (se_var (sl_at C 0 "value" (by decide +kernel))) sa_nil rfl) sk_nil)))))
theorem ok_number_of (Γ : Gz fa fn K mg) (TB : TbsZ tl K mg base) : OkD false P w K mg base 5 d_number_of ["value"] (spM K 1 f_number_of) := okd_of Γ.says 5 rfl sc_number_of (by decide) fun C tk po => sb_number_of Γ TB C tk po
theorem kb_number_of_1 {fd : FuncData} (F : FunZ K d_number_of fd) : Kbz K fd ["value"] 1 [] [0] [] := kbz0 F fun _ _ _ _ _ _ us ws h1 h2 => match us, ws, h1, h2 with | [_], [], _, _ => rfl
theorem kb_Number_init_2 {fd : FuncData} (F : FunZ K d_Number_init fd) : Kbi K fd ["self", "top", "bottom"] 2 [] [0, 1] [.int 1] := kbi1 F (by intro h; cases h) fun _ _ _ _ _ _ _ _ us its ws h1 h2 h3 => match us, its, ws, h1, h2, h3 with | [_, _], [_], [], _, _, _ => ⟨_, rfl, rfl⟩
def c_Number_over : SC := (mSeq (mAsg 2 (mArgs (mConsA (mVar 1) mNilA) mNilA (wArg 1 0 [0] [] f_number_of))) (mRet (mArgs (mConsA (mBin (bop noO .Mult) (mAtt ["Number"] "top" no1 (mVar 0)) (mAtt ["Number"] "bottom" no1 (mVar 2))) (mConsA (mBin (bop noO .Mult) (mAtt ["Number"] "bottom" no1 (mVar 0)) (mAtt ["Number"] "top" no1 (mVar 2))) mNilA)) mNilA (wMk "Number" 2 0 [0, 1] [.int 1] f_Number_init))))
def f_Number_over : List D → M D := runF c_Number_over 3
theorem sb_Number_over (Γ : Gz fa fn K mg) (TB : TbsZ tl K mg base) (C : Cz P w K mg base 5 X ["self", "other", "divisor"] (defScope s_Number_over) true false) (tk : Takes X T) (po : PassesOwn (model X.prog X.w) X.A X.env X.xe) : SB T X (defBody s_Number_over) c_Number_over := by
  exact (sb_cons (ss_asg (sw_at C 2 "divisor" (by decide +kernel)) rfl (se_callW (fq_at Γ C tk (ok_number_of Γ TB) (by decide) (by decide) rfl kb_number_of_1 rfl (fun _ _ => Rps.nil) 25 rfl (by decide +kernel)) ⟨rfl, rfl, rfl, .inr ⟨_, _, rfl, rfl⟩⟩ (sa_cons (se_var (sl_at C 1 "other" (by decide +kernel))) sa_nil rfl) sk_nil)) (sb_one (ss_ret (se_callW (fk_at Γ C tk (ok_Number_init Γ TB) (by decide) (by decide) rfl kb_Number_init_2 rfl (fun _ _ => Rps.cons (by unfold Rp; rfl) (Rps.nil)) 20 24 rfl rfl (by decide +kernel)) ⟨rfl, rfl, rfl, .inr ⟨_, _, rfl, rfl⟩⟩ (sa_cons (se_bin (bop_ok noO_ok) (SE.sl (se_att (hcl_at Γ C 16 rfl) noA_ok rfl (se_var (sl_at C 0 "self" (by decide +kernel))))) (SE.sl (se_att (hcl_at Γ C 17 rfl) noA_ok rfl (se_var (sl_at C 2 "divisor" (by decide +kernel)))))) (sa_cons (se_bin (bop_ok noO_ok) (SE.sl (se_att (hcl_at Γ C 17 rfl) noA_ok rfl (se_var (sl_at C 0 "self" (by decide +kernel))))) (SE.sl (se_att (hcl_at Γ C 16 rfl) noA_ok rfl (se_var (sl_at C 2 "divisor" (by decide +kernel)))))) sa_nil rfl) rfl) sk_nil))))
theorem ok_Number_over (Γ : Gz fa fn K mg) (TB : TbsZ tl K mg base) : OkD false P w K mg base 6 d_Number_over ["self", "other"] (spM K 2 f_Number_over) := okd_of Γ.says 7 rfl sc_Number_over (by decide) fun C tk po => sb_Number_over Γ TB C tk po
def c_Number_add : SC := (mSeq (mAsg 2 (mArgs (mConsA (mVar 1) mNilA) mNilA (wArg 1 0 [0] [] f_number_of))) (mRet (mArgs (mConsA (mBin (bop noO .Add) (mBin (bop noO .Mult) (mAtt ["Number"] "top" no1 (mVar 0)) (mAtt ["Number"] "bottom" no1 (mVar 2))) (mBin (bop noO .Mult) (mAtt ["Number"] "top" no1 (mVar 2)) (mAtt ["Number"] "bottom" no1 (mVar 0)))) (mConsA (mBin (bop noO .Mult) (mAtt ["Number"] "bottom" no1 (mVar 0)) (mAtt ["Number"] "bottom" no1 (mVar 2))) mNilA)) mNilA (wMk "Number" 2 0 [0, 1] [.int 1] f_Number_init))))
def f_Number_add : List D → M D := runF c_Number_add 3
theorem sb_Number_add (Γ : Gz fa fn K mg) (TB : TbsZ tl K mg base) (C : Cz P w K mg base 5 X ["self", "other", "second"] (defScope s_Number_add) true false) (tk : Takes X T) (po : PassesOwn (model X.prog X.w) X.A X.env X.xe) : SB T X (defBody s_Number_add) c_Number_add := by
  exact (sb_cons (ss_asg (sw_at C 2 "second" (by decide +kernel)) rfl (se_callW (fq_at Γ C tk (ok_number_of Γ TB) (by decide) (by decide) rfl kb_number_of_1 rfl (fun _ _ => Rps.nil) 25 rfl (by decide +kernel)) ⟨rfl, rfl, rfl, .inr ⟨_, _, rfl, rfl⟩⟩ (sa_cons (se_var (sl_at C 1 "other" (by decide +kernel))) sa_nil rfl) sk_nil)) (sb_one (ss_ret (se_callW (fk_at Γ C tk (ok_Number_init Γ TB) (by decide) (by decide) rfl kb_Number_init_2 rfl (fun _ _ => Rps.cons (by unfold Rp; rfl) (Rps.nil)) 20 24 rfl rfl (by decide +kernel)) ⟨rfl, rfl, rfl, .inr ⟨_, _, rfl, rfl⟩⟩ (sa_cons (se_bin (bop_ok noO_ok) (SE.sl (se_bin (bop_ok noO_ok) (SE.sl (se_att (hcl_at Γ C 16 rfl) noA_ok rfl (se_var (sl_at C 0 "self" (by decide +kernel))))) (SE.sl (se_att (hcl_at Γ C 17 rfl) noA_ok rfl (se_var (sl_at C 2 "second" (by decide +kernel))))))) (SE.sl (se_bin (bop_ok noO_ok) (SE.sl (se_att (hcl_at Γ C 16 rfl) noA_ok rfl (se_var (sl_at C 2 "second" (by decide +kernel))))) (SE.sl (se_att (hcl_at Γ C 17 rfl) noA_ok rfl (se_var (sl_at C 0 "self" (by decide +kernel)))))))) (sa_cons (se_bin (bop_ok noO_ok) (SE.sl (se_att (hcl_at Γ C 17 rfl) noA_ok rfl (se_var (sl_at C 0 "self" (by decide +kernel))))) (SE.sl (se_att (hcl_at Γ C 17 rfl) noA_ok rfl (se_var (sl_at C 2 "second" (by decide +kernel)))))) sa_nil rfl) rfl) sk_nil))))
theorem ok_Number_add (Γ : Gz fa fn K mg) (TB : TbsZ tl K mg base) : OkD false P w K mg base 6 d_Number_add ["self", "other"] (spM K 2 f_Number_add) := okd_of Γ.says 8 rfl sc_Number_add (by decide) fun C tk po => sb_Number_add Γ TB C tk po
theorem kn_Number_add {fd : FuncData} (F : FunZ K d_Number_add fd) : Binds K fd ["self", "other"] [] := F.bindsN fun _ _ _ _ _ _ us hl => match us, hl with | [_, _], _ => rfl
def c_Number_radd : SC := (mRet (mBin (bop (ownF "Number" f_Number_add) .Add) (mVar 0) (mVar 1)))
def f_Number_radd : List D → M D := runF c_Number_radd 2
theorem sb_Number_radd (Γ : Gz fa fn K mg) (TB : TbsZ tl K mg base) (C : Cz P w K mg base 10 X ["self", "other"] (defScope s_Number_radd) true false) (tk : Takes X T) (po : PassesOwn (model X.prog X.w) X.A X.env X.xe) : SB T X (defBody s_Number_radd) c_Number_radd := by
  exact (sb_one (ss_ret (se_binP (bopP_ok (ownF_ok (dm_at Γ C tk (ok_Number_add Γ TB) (by decide) (by decide) rfl kn_Number_add rfl 27 rfl) (nu_at Γ C 28 rfl) (nta_at Γ C 26 rfl))) (se_var (sl_at C 0 "self" (by decide +kernel))) (se_var (sl_at C 1 "other" (by decide +kernel))))))
theorem ok_Number_radd (Γ : Gz fa fn K mg) (TB : TbsZ tl K mg base) : OkD false P w K mg base 11 d_Number_radd ["self", "other"] (spM K 2 f_Number_radd) := okd_of Γ.says 9 rfl sc_Number_radd (by decide) fun C tk po => sb_Number_radd Γ TB C tk po
def c_Number_sub : SC := (mSeq (mAsg 2 (mArgs (mConsA (mVar 1) mNilA) mNilA (wArg 1 0 [0] [] f_number_of))) (mRet (mArgs (mConsA (mBin (bop noO .Sub) (mBin (bop noO .Mult) (mAtt ["Number"] "top" no1 (mVar 0)) (mAtt ["Number"] "bottom" no1 (mVar 2))) (mBin (bop noO .Mult) (mAtt ["Number"] "top" no1 (mVar 2)) (mAtt ["Number"] "bottom" no1 (mVar 0)))) (mConsA (mBin (bop noO .Mult) (mAtt ["Number"] "bottom" no1 (mVar 0)) (mAtt ["Number"] "bottom" no1 (mVar 2))) mNilA)) mNilA (wMk "Number" 2 0 [0, 1] [.int 1] f_Number_init))))
def f_Number_sub : List D → M D := runF c_Number_sub 3
theorem sb_Number_sub (Γ : Gz fa fn K mg) (TB : TbsZ tl K mg base) (C : Cz P w K mg base 5 X ["self", "other", "second"] (defScope s_Number_sub) true false) (tk : Takes X T) (po : PassesOwn (model X.prog X.w) X.A X.env X.xe) : SB T X (defBody s_Number_sub) c_Number_sub := by
  exact (sb_cons (ss_asg (sw_at C 2 "second" (by decide +kernel)) rfl (se_callW (fq_at Γ C tk (ok_number_of Γ TB) (by decide) (by decide) rfl kb_number_of_1 rfl (fun _ _ => Rps.nil) 25 rfl (by decide +kernel)) ⟨rfl, rfl, rfl, .inr ⟨_, _, rfl, rfl⟩⟩ (sa_cons (se_var (sl_at C 1 "other" (by decide +kernel))) sa_nil rfl) sk_nil)) (sb_one (ss_ret (se_callW (fk_at Γ C tk (ok_Number_init Γ TB) (by decide) (by decide) rfl kb_Number_init_2 rfl (fun _ _ => Rps.cons (by unfold Rp; rfl) (Rps.nil)) 20 24 rfl rfl (by decide +kernel)) ⟨rfl, rfl, rfl, .inr ⟨_, _, rfl, rfl⟩⟩ (sa_cons (se_bin (bop_ok noO_ok) (SE.sl (se_bin (bop_ok noO_ok) (SE.sl (se_att (hcl_at Γ C 16 rfl) noA_ok rfl (se_var (sl_at C 0 "self" (by decide +kernel))))) (SE.sl (se_att (hcl_at Γ C 17 rfl) noA_ok rfl (se_var (sl_at C 2 "second" (by decide +kernel))))))) (SE.sl (se_bin (bop_ok noO_ok) (SE.sl (se_att (hcl_at Γ C 16 rfl) noA_ok rfl (se_var (sl_at C 2 "second" (by decide +kernel))))) (SE.sl (se_att (hcl_at Γ C 17 rfl) noA_ok rfl (se_var (sl_at C 0 "self" (by decide +kernel)))))))) (sa_cons (se_bin (bop_ok noO_ok) (SE.sl (se_att (hcl_at Γ C 17 rfl) noA_ok rfl (se_var (sl_at C 0 "self" (by decide +kernel))))) (SE.sl (se_att (hcl_at Γ C 17 rfl) noA_ok rfl (se_var (sl_at C 2 "second" (by decide +kernel)))))) sa_nil rfl) rfl) sk_nil))))
theorem ok_Number_sub (Γ : Gz fa fn K mg) (TB : TbsZ tl K mg base) : OkD false P w K mg base 6 d_Number_sub ["self", "other"] (spM K 2 f_Number_sub) := okd_of Γ.says 10 rfl sc_Number_sub (by decide) fun C tk po => sb_Number_sub Γ TB C tk po
theorem kn_Number_sub {fd : FuncData} (F : FunZ K d_Number_sub fd) : Binds K fd ["self", "other"] [] := F.bindsN fun _ _ _ _ _ _ us hl => match us, hl with | [_, _], _ => rfl
def c_Number_rsub : SC := (mRet (mBin (bop (ownL "Number" f_Number_sub) .Sub) (mArgs (mConsA (mVar 1) mNilA) mNilA (wArg 1 0 [0] [] f_number_of)) (mVar 0)))
def f_Number_rsub : List D → M D := runF c_Number_rsub 2
theorem sb_Number_rsub (Γ : Gz fa fn K mg) (TB : TbsZ tl K mg base) (C : Cz P w K mg base 10 X ["self", "other"] (defScope s_Number_rsub) true false) (tk : Takes X T) (po : PassesOwn (model X.prog X.w) X.A X.env X.xe) : SB T X (defBody s_Number_rsub) c_Number_rsub := by
  exact (sb_one (ss_ret (se_bin (bop_ok (ownL_ok (dm_at Γ C tk (ok_Number_sub Γ TB) (by decide) (by decide) rfl kn_Number_sub rfl 29 rfl) (nu_at Γ C 30 rfl))) (SE.sl (se_callW (fq_at Γ C tk (ok_number_of Γ TB) (by decide) (by decide) rfl kb_number_of_1 rfl (fun _ _ => Rps.nil) 25 rfl (by decide +kernel)) ⟨rfl, rfl, rfl, .inr ⟨_, _, rfl, rfl⟩⟩ (sa_cons (se_var (sl_at C 1 "other" (by decide +kernel))) sa_nil rfl) sk_nil)) (SE.sl (se_var (sl_at C 0 "self" (by decide +kernel)))))))
theorem ok_Number_rsub (Γ : Gz fa fn K mg) (TB : TbsZ tl K mg base) : OkD false P w K mg base 11 d_Number_rsub ["self", "other"] (spM K 2 f_Number_rsub) := okd_of Γ.says 11 rfl sc_Number_rsub (by decide) fun C tk po => sb_Number_rsub Γ TB C tk po
def c_Number_mul : SC := (mSeq (mAsg 2 (mArgs (mConsA (mVar 1) mNilA) mNilA (wArg 1 0 [0] [] f_number_of))) (mRet (mArgs (mConsA (mBin (bop noO .Mult) (mAtt ["Number"] "top" no1 (mVar 0)) (mAtt ["Number"] "top" no1 (mVar 2))) (mConsA (mBin (bop noO .Mult) (mAtt ["Number"] "bottom" no1 (mVar 0)) (mAtt ["Number"] "bottom" no1 (mVar 2))) mNilA)) mNilA (wMk "Number" 2 0 [0, 1] [.int 1] f_Number_init))))
def f_Number_mul : List D → M D := runF c_Number_mul 3
theorem sb_Number_mul (Γ : Gz fa fn K mg) (TB : TbsZ tl K mg base) (C : Cz P w K mg base 5 X ["self", "other", "second"] (defScope s_Number_mul) true false) (tk : Takes X T) (po : PassesOwn (model X.prog X.w) X.A X.env X.xe) : SB T X (defBody s_Number_mul) c_Number_mul := by
  exact (sb_cons (ss_asg (sw_at C 2 "second" (by decide +kernel)) rfl (se_callW (fq_at Γ C tk (ok_number_of Γ TB) (by decide) (by decide) rfl kb_number_of_1 rfl (fun _ _ => Rps.nil) 25 rfl (by decide +kernel)) ⟨rfl, rfl, rfl, .inr ⟨_, _, rfl, rfl⟩⟩ (sa_cons (se_var (sl_at C 1 "other" (by decide +kernel))) sa_nil rfl) sk_nil)) (sb_one (ss_ret (se_callW (fk_at Γ C tk (ok_Number_init Γ TB) (by decide) (by decide) rfl kb_Number_init_2 rfl (fun _ _ => Rps.cons (by unfold Rp; rfl) (Rps.nil)) 20 24 rfl rfl (by decide +kernel)) ⟨rfl, rfl, rfl, .inr ⟨_, _, rfl, rfl⟩⟩ (sa_cons (se_bin (bop_ok noO_ok) (SE.sl (se_att (hcl_at Γ C 16 rfl) noA_ok rfl (se_var (sl_at C 0 "self" (by decide +kernel))))) (SE.sl (se_att (hcl_at Γ C 16 rfl) noA_ok rfl (se_var (sl_at C 2 "second" (by decide +kernel)))))) (sa_cons (se_bin (bop_ok noO_ok) (SE.sl (se_att (hcl_at Γ C 17 rfl) noA_ok rfl (se_var (sl_at C 0 "self" (by decide +kernel))))) (SE.sl (se_att (hcl_at Γ C 17 rfl) noA_ok rfl (se_var (sl_at C 2 "second" (by decide +kernel)))))) sa_nil rfl) rfl) sk_nil))))
theorem ok_Number_mul (Γ : Gz fa fn K mg) (TB : TbsZ tl K mg base) : OkD false P w K mg base 6 d_Number_mul ["self", "other"] (spM K 2 f_Number_mul) := okd_of Γ.says 12 rfl sc_Number_mul (by decide) fun C tk po => sb_Number_mul Γ TB C tk po
theorem kn_Number_mul {fd : FuncData} (F : FunZ K d_Number_mul fd) : Binds K fd ["self", "other"] [] := F.bindsN fun _ _ _ _ _ _ us hl => match us, hl with | [_, _], _ => rfl
def c_Number_rmul : SC := (mRet (mBin (bop (ownL "Number" f_Number_mul) .Mult) (mVar 0) (mVar 1)))
def f_Number_rmul : List D → M D := runF c_Number_rmul 2
theorem sb_Number_rmul (Γ : Gz fa fn K mg) (TB : TbsZ tl K mg base) (C : Cz P w K mg base 10 X ["self", "other"] (defScope s_Number_rmul) true false) (tk : Takes X T) (po : PassesOwn (model X.prog X.w) X.A X.env X.xe) : SB T X (defBody s_Number_rmul) c_Number_rmul := by
  exact (sb_one (ss_ret (se_bin (bop_ok (ownL_ok (dm_at Γ C tk (ok_Number_mul Γ TB) (by decide) (by decide) rfl kn_Number_mul rfl 31 rfl) (nu_at Γ C 32 rfl))) (SE.sl (se_var (sl_at C 0 "self" (by decide +kernel)))) (SE.sl (se_var (sl_at C 1 "other" (by decide +kernel)))))))
theorem ok_Number_rmul (Γ : Gz fa fn K mg) (TB : TbsZ tl K mg base) : OkD false P w K mg base 11 d_Number_rmul ["self", "other"] (spM K 2 f_Number_rmul) := okd_of Γ.says 13 rfl sc_Number_rmul (by decide) fun C tk po => sb_Number_rmul Γ TB C tk po
theorem kn_Number_rmul {fd : FuncData} (F : FunZ K d_Number_rmul fd) : Binds K fd ["self", "other"] [] := F.bindsN fun _ _ _ _ _ _ us hl => match us, hl with | [_, _], _ => rfl
def w_Number_pow_1 : SC := (mAsg 2 (mBin (bop (ownB "Number" f_Number_mul f_Number_rmul) .Mult) (mVar 2) (mVar 0)))
def c_Number_pow : SC := (mSeq (mIfS (orB (notB (tB (mArgs (mConsA (mVar 1) mNilA) mNilA (wArg 1 0 [0] [] f_is_integer)))) (notB (mChn (cmpD noO .LtE) (cmpD noO .LtE) (mLit (.int 0)) (mVar 1) (mLit (.int 20))))) (mRs1 "InvalidCount" "value" (mVar 1)) mPass) (mSeq (mAsg 2 (mArgs (mConsA (mLit (.int 1)) mNilA) mNilA (wMk "Number" 1 0 [0, 1] [.int 1] f_Number_init))) (mSeq (mFor (.n 3) (itR1 (mVar 1)) w_Number_pow_1) (mRet (mVar 2)))))
def f_Number_pow : List D → M D := runF c_Number_pow 4
theorem sb_Number_pow (Γ : Gz fa fn K mg) (TB : TbsZ tl K mg base) (C : Cz P w K mg base 15 X ["self", "count", "found", "turn"] (defScope s_Number_pow) true false) (tk : Takes X T) (po : PassesOwn (model X.prog X.w) X.A X.env X.xe) : SB T X (defBody s_Number_pow) c_Number_pow := by
  exact (sb_cons (ss_if (st_or (sw_or (st_not (st_val (fun _ => rfl) (se_callW (fq_at Γ C tk (ok_is_integer Γ TB) (by decide) (by decide) rfl kb_is_integer_1 rfl (fun _ _ => Rps.nil) 9 rfl (by decide +kernel)) ⟨rfl, rfl, rfl, .inr ⟨_, _, rfl, rfl⟩⟩ (sa_cons (se_var (sl_at C 1 "count" (by decide +kernel))) sa_nil rfl) sk_nil))) (sw_or1 (st_not (st_chn (cmp_ok (ru_at C) noO_ok) (cmp_ok (ru_at C) noO_ok) rfl (SE.sl se_lit) (SE.sl (se_var (sl_at C 1 "count" (by decide +kernel)))) (SE.sl (se_glo (gi_at Γ C (k := 20) 33 rfl (by decide +kernel)) (fun _ _ => by unfold Rp; rfl)))))))) (sb_one (ss_rs1 (C.calm rfl) tk (xk_at Γ C (ox_InvalidCount_init Γ) (by decide) (by decide) rfl (kn_InvalidCount_init) rfl 10 11 rfl rfl (by decide +kernel)) (se_var (sl_at C 1 "count" (by decide +kernel))) rfl)) sb_nil) (sb_cons (ss_asg (sw_at C 2 "found" (by decide +kernel)) rfl (se_callW (fk_at Γ C tk (ok_Number_init Γ TB) (by decide) (by decide) rfl kb_Number_init_1 rfl (fun _ _ => Rps.cons (by unfold Rp; rfl) (Rps.nil)) 20 24 rfl rfl (by decide +kernel)) ⟨rfl, rfl, rfl, .inr ⟨_, _, rfl, rfl⟩⟩ (sa_cons se_lit sa_nil rfl) sk_nil)) (sb_cons (ss_for po (C.calm rfl) (fun _ => rfl) (si_rng1 (bn_at Γ C 34 rfl (by decide +kernel) (by decide) (by decide +kernel)) rfl (se_var (sl_at C 1 "count" (by decide +kernel)))) (tg_n (sw_at C 3 "turn" (by decide +kernel))) (sb_one (ss_asg (sw_at C 2 "found" (by decide +kernel)) rfl (se_bin (bop_ok (ownB_ok (dm_at Γ C tk (ok_Number_mul Γ TB) (by decide) (by decide) rfl kn_Number_mul rfl 31 rfl) (nu_at Γ C 32 rfl) (dm_at Γ C tk (ok_Number_rmul Γ TB) (by decide) (by decide) rfl kn_Number_rmul rfl 35 rfl) (by decide))) (SE.sl (se_var (sl_at C 2 "found" (by decide +kernel)))) (SE.sl (se_var (sl_at C 0 "self" (by decide +kernel)))))))) (sb_one (ss_ret (se_var (sl_at C 2 "found" (by decide +kernel))))))))
theorem ok_Number_pow (Γ : Gz fa fn K mg) (TB : TbsZ tl K mg base) : OkD false P w K mg base 16 d_Number_pow ["self", "count"] (spM K 2 f_Number_pow) := okd_of Γ.says 14 rfl sc_Number_pow (by decide) fun C tk po => sb_Number_pow Γ TB C tk po
def c_Number_str : SC := (mSeq (mIfS (tB (mBin (cmpD noO .Eq) (mAtt ["Number"] "bottom" no1 (mVar 0)) (mLit (.int 1)))) (mRet (mFmt no1 (mAtt ["Number"] "top" no1 (mVar 0)))) mPass) (mRet (mFs (mJc (mFmt no1 (mAtt ["Number"] "top" no1 (mVar 0))) (mJc (mLit (.str "/")) (mJc (mFmt no1 (mAtt ["Number"] "bottom" no1 (mVar 0))) mJn))))))
def f_Number_str : List D → M D := runF c_Number_str 1
theorem sb_Number_str (Γ : Gz fa fn K mg) (TB : TbsZ tl K mg base) (C : Cz P w K mg base 1 X ["self"] (defScope s_Number_str) true true) (tk : Takes X T) (po : PassesOwn (model X.prog X.w) X.A X.env X.xe) : SB T X (defBody s_Number_str) c_Number_str := by
  exact (sb_cons (ss_if (st_cmp (cmp_ok (ru_at C) noO_ok) rfl (SE.sl (se_att (hcl_at Γ C 17 rfl) noA_ok rfl (se_var (sl_at C 0 "self" (by decide +kernel))))) (SE.sl se_lit)) (sb_one (ss_ret (se_fstr1 (se_fmt (se_att (hcl_at Γ C 16 rfl) noA_ok rfl (se_var (sl_at C 0 "self" (by decide +kernel)))) fm_no)))) sb_nil) (sb_one (ss_ret (se_fstr (sj_cons (se_fmt (se_att (hcl_at Γ C 16 rfl) noA_ok rfl (se_var (sl_at C 0 "self" (by decide +kernel)))) fm_no) (sj_cons se_str (sj_cons (se_fmt (se_att (hcl_at Γ C 17 rfl) noA_ok rfl (se_var (sl_at C 0 "self" (by decide +kernel)))) fm_no) sj_nil)))))))
theorem ok_Number_str (Γ : Gz fa fn K mg) (TB : TbsZ tl K mg base) : OkD true P w K mg base 2 d_Number_str ["self"] (spM K 1 f_Number_str) := okd_of Γ.says 15 rfl sc_Number_str (by decide) fun C tk po => sb_Number_str Γ TB C tk po
theorem kn_Number_str {fd : FuncData} (F : FunZ K d_Number_str fd) : Binds K fd ["self"] [] := F.bindsN fun _ _ _ _ _ _ us hl => match us, hl with | [_], _ => rfl
def c_Number_repr : SC := (mRet (mFs (mJc (mLit (.str "Number(")) (mJc (mFmt (own1S "Number" f_Number_str) (mVar 0)) (mJc (mLit (.str ")")) mJn)))))
def f_Number_repr : List D → M D := runF c_Number_repr 1
theorem sb_Number_repr (Γ : Gz fa fn K mg) (TB : TbsZ tl K mg base) (C : Cz P w K mg base 6 X ["self"] (defScope s_Number_repr) true true) (tk : Takes X T) (po : PassesOwn (model X.prog X.w) X.A X.env X.xe) : SB T X (defBody s_Number_repr) c_Number_repr := by
  exact (sb_one (ss_ret (se_fstr (sj_cons se_str (sj_cons (se_fmt (se_var (sl_at C 0 "self" (by decide +kernel))) (fmo_at Γ C (dm_at Γ C tk (ok_Number_str Γ TB) (by decide) (by decide) rfl kn_Number_str rfl 36 rfl) 37 38 rfl rfl)) (sj_cons se_str sj_nil))))))
theorem ok_Number_repr (Γ : Gz fa fn K mg) (TB : TbsZ tl K mg base) : OkD true P w K mg base 7 d_Number_repr ["self"] (spM K 1 f_Number_repr) := okd_of Γ.says 16 rfl sc_Number_repr (by decide) fun C tk po => sb_Number_repr Γ TB C tk po
def w_l_spring_1 : SC := (mAsg 2 (mBin (bop noO .Mod) (mCall bInt (mConsA (mBin (bop noO .Add) (mBin (bop noO .Add) (mBin (bop noO .Mult) (mVar 2) (mLit (.int 8191))) (mBin (bop noO .Mult) (mBin ixD (mVar 0) (mVar 3)) (mBin (bop noO .Add) (mVar 3) (mLit (.int 3))))) (mLit (.int 17))) mNilA)) (mLit (.int 1000000007))))
def c_l_spring : SC := (mSeq (mAsg 2 (mLit (.int 23))) (mSeq (mFor (.n 3) (itR1 (mCall bMin (mConsA (mCall bLen (mConsA (mVar 0) mNilA)) (mConsA (mLit (.int 5)) mNilA)))) w_l_spring_1) (mSeq (mAsg 4 (mIf (tB (mBin (cmpD noO .Lt) (mVar 1) (mCall bLen (mConsA (mVar 0) mNilA)))) (mBin ixD (mVar 0) (mVar 1)) (mBin (bop noO .Add) (mBin (bop noO .Mult) (mVar 2) (mLit (.int 31))) (mBin (bop noO .Mult) (mVar 1) (mLit (.int 7)))))) (mSeq (mAsg 5 (mIf (orB (tB (mBin (cmpD noO .Lt) (mVar 4) (mLit (.int 0)))) (tB (mBin (cmpD noO .GtE) (mVar 4) (mBin (bop noO .Pow) (mLit (.int 10)) (mLit (.int 18)))))) (mCall (bAbs no1) (mConsA (mVar 4) mNilA)) (mLit (.int 0)))) (mRet (mCel (mLst (mConsA (mVar 5) (mConsA (mBin (bop noO .Mod) (mCall bInt (mConsA (mBin (bop noO .Add) (mBin (bop noO .Add) (mBin (bop noO .Mult) (mVar 4) (mLit (.int 2654435))) (mVar 2)) (mLit (.int 12345))) mNilA)) (mLit (.int 1000000007))) (mConsA (mLit (.int 0)) mNilA))))))))))
def f_l_spring : List D → M D := runF c_l_spring 6
theorem sb_l_spring (Γ : Gz fa fn K mg) (TB : TbsZ tl K mg base) (C : Cz P w K mg base 1 X ["_law_script", "_law_spot", "_law_mixed", "_law_at", "_law_own", "_law_digits"] (defScope s_l_spring) true false) (tk : Takes X T) (po : PassesOwn (model X.prog X.w) X.A X.env X.xe) : SB T X (defBody s_l_spring) c_l_spring := by
  exact (sb_cons (ss_asg (sw_at C 2 "_law_mixed" (by decide +kernel)) rfl se_lit) (sb_cons (ss_for po (C.calm rfl) (fun _ => rfl) (si_rng1 (bn_at Γ C 34 rfl (by decide +kernel) (by decide) (by decide +kernel)) rfl (se_callB (fb_b (min_ok (C.calm rfl)) (bn_at Γ C 40 rfl (by decide +kernel) (by decide) (by decide +kernel))) rfl rfl (sla_cons (SE.sl (se_callB (fb_b (len_ok) (bn_at Γ C 39 rfl (by decide +kernel) (by decide) (by decide +kernel))) rfl rfl (sla_cons (SE.sl (se_var (sl_at C 0 "_law_script" (by decide +kernel)))) sla_nil rfl))) (sla_cons (SE.sl se_lit) sla_nil rfl) rfl))) (tg_n (sw_at C 3 "_law_at" (by decide +kernel))) (sb_one (ss_asg (sw_at C 2 "_law_mixed" (by decide +kernel)) rfl (se_bin (bop_ok noO_ok) (SE.sl (se_callB (fb_t (int_ok) (bn_at Γ C 4 rfl (by decide +kernel) (by decide) (by decide +kernel))) rfl rfl (sla_cons (SE.sl (se_bin (bop_ok noO_ok) (SE.sl (se_bin (bop_ok noO_ok) (SE.sl (se_bin (bop_ok noO_ok) (SE.sl (se_var (sl_at C 2 "_law_mixed" (by decide +kernel)))) (SE.sl se_lit))) (SE.sl (se_bin (bop_ok noO_ok) (SE.sl (se_ix (ru_at C) (fun _ _ => rfl) (SE.sl (se_var (sl_at C 0 "_law_script" (by decide +kernel)))) (SE.sl (se_var (sl_at C 3 "_law_at" (by decide +kernel)))))) (SE.sl (se_bin (bop_ok noO_ok) (SE.sl (se_var (sl_at C 3 "_law_at" (by decide +kernel)))) (SE.sl se_lit))))))) (SE.sl se_lit))) sla_nil rfl))) (SE.sl se_lit))))) (sb_cons (ss_asg (sw_at C 4 "_law_own" (by decide +kernel)) rfl (se_if (st_cmp (cmp_ok (ru_at C) noO_ok) rfl (SE.sl (se_var (sl_at C 1 "_law_spot" (by decide +kernel)))) (SE.sl (se_callB (fb_b (len_ok) (bn_at Γ C 39 rfl (by decide +kernel) (by decide) (by decide +kernel))) rfl rfl (sla_cons (SE.sl (se_var (sl_at C 0 "_law_script" (by decide +kernel)))) sla_nil rfl)))) (se_ix (ru_at C) (fun _ _ => rfl) (SE.sl (se_var (sl_at C 0 "_law_script" (by decide +kernel)))) (SE.sl (se_var (sl_at C 1 "_law_spot" (by decide +kernel))))) (se_bin (bop_ok noO_ok) (SE.sl (se_bin (bop_ok noO_ok) (SE.sl (se_var (sl_at C 2 "_law_mixed" (by decide +kernel)))) (SE.sl se_lit))) (SE.sl (se_bin (bop_ok noO_ok) (SE.sl (se_var (sl_at C 1 "_law_spot" (by decide +kernel)))) (SE.sl se_lit)))))) (sb_cons (ss_asg (sw_at C 5 "_law_digits" (by decide +kernel)) rfl (se_if (st_or (sw_or (st_cmp (cmp_ok (ru_at C) noO_ok) rfl (SE.sl (se_var (sl_at C 4 "_law_own" (by decide +kernel)))) (SE.sl se_lit)) (sw_or1 (st_cmp (cmp_ok (ru_at C) noO_ok) rfl (SE.sl (se_var (sl_at C 4 "_law_own" (by decide +kernel)))) (SE.sl (se_bin (bop_ok noO_ok) (SE.sl se_lit) (SE.sl se_lit))))))) (se_callB (fb_b (abs_ok no1_ok) (bn_at Γ C 14 rfl (by decide +kernel) (by decide) (by decide +kernel))) rfl rfl (sla_cons (SE.sl (se_var (sl_at C 4 "_law_own" (by decide +kernel)))) sla_nil rfl)) se_lit)) (sb_one (ss_ret (SF.cell (sf_lst (sa_cons (se_var (sl_at C 5 "_law_digits" (by decide +kernel))) (sa_cons (se_bin (bop_ok noO_ok) (SE.sl (se_callB (fb_t (int_ok) (bn_at Γ C 4 rfl (by decide +kernel) (by decide) (by decide +kernel))) rfl rfl (sla_cons (SE.sl (se_bin (bop_ok noO_ok) (SE.sl (se_bin (bop_ok noO_ok) (SE.sl (se_bin (bop_ok noO_ok) (SE.sl (se_var (sl_at C 4 "_law_own" (by decide +kernel)))) (SE.sl se_lit))) (SE.sl (se_var (sl_at C 2 "_law_mixed" (by decide +kernel)))))) (SE.sl se_lit))) sla_nil rfl))) (SE.sl se_lit)) (sa_cons se_lit sa_nil rfl) rfl) rfl)))))))))
theorem ok_l_spring (Γ : Gz fa fn K mg) (TB : TbsZ tl K mg base) : OkD false P w K mg base 2 d_l_spring ["_law_script", "_law_spot"] (spM K 2 f_l_spring) := okd_of Γ.says 17 rfl sc_l_spring (by decide) fun C tk po => sb_l_spring Γ TB C tk po
def c_l_next : SC := (mSeq (mSetC (mVar 0) (mLit (.int 2)) (mBin (bop noO .Add) (mBin ixD (mVar 0) (mLit (.int 2))) (mLit (.int 1)))) (mSeq (mIfS (tB (mBin (cmpD noO .Gt) (mBin ixD (mVar 0) (mLit (.int 0))) (mLit (.int 0)))) (mSeq (mAsg 2 (mBin (bop noO .Mod) (mCall bInt (mConsA (mBin ixD (mVar 0) (mLit (.int 0))) mNilA)) (mVar 1))) (mSeq (mSetC (mVar 0) (mLit (.int 0)) (mBin (bop noO .FloorDiv) (mBin ixD (mVar 0) (mLit (.int 0))) (mVar 1))) (mRet (mVar 2)))) mPass) (mSeq (mAsg 3 (mCall bInt (mConsA (mBin ixD (mVar 0) (mLit (.int 1))) mNilA))) (mSeq (mSetC (mVar 0) (mLit (.int 1)) (mBin (bop noO .Mod) (mCall bInt (mConsA (mBin (bop noO .Add) (mBin (bop noO .Add) (mBin (bop noO .Mult) (mVar 3) (mBin (bop noO .Add) (mBin (bop noO .Mod) (mVar 3) (mLit (.int 65521))) (mLit (.int 4099)))) (mBin (bop noO .Mult) (mLit (.int 7919)) (mBin ixD (mVar 0) (mLit (.int 2))))) (mLit (.int 5))) mNilA)) (mLit (.int 1000000007)))) (mRet (mBin (bop noO .Mod) (mCall bInt (mConsA (mBin (bop noO .FloorDiv) (mBin ixD (mVar 0) (mLit (.int 1))) (mLit (.int 127))) mNilA)) (mVar 1)))))))
def f_l_next : List D → M D := runF c_l_next 4
theorem sb_l_next (Γ : Gz fa fn K mg) (TB : TbsZ tl K mg base) (C : Cz P w K mg base 1 X ["_law_spring_here", "_law_many", "_law_digit", "_law_state"] (defScope s_l_next) true true) (tk : Takes X T) (po : PassesOwn (model X.prog X.w) X.A X.env X.xe) : SB T X (defBody s_l_next) c_l_next := by
  exact (sb_cons (ss_setc rfl rfl rfl (fun _ => rfl) (se_var (sl_at C 0 "_law_spring_here" (by decide +kernel))) se_lit (se_bin (bop_ok noO_ok) (SE.sl (se_ix (ru_at C) (fun _ _ => rfl) (SE.sl (se_var (sl_at C 0 "_law_spring_here" (by decide +kernel)))) (SE.sl se_lit))) (SE.sl se_lit))) (sb_cons (ss_if (st_cmp (cmp_ok (ru_at C) noO_ok) rfl (SE.sl (se_ix (ru_at C) (fun _ _ => rfl) (SE.sl (se_var (sl_at C 0 "_law_spring_here" (by decide +kernel)))) (SE.sl se_lit))) (SE.sl se_lit)) (sb_cons (ss_asg (sw_at C 2 "_law_digit" (by decide +kernel)) rfl (se_bin (bop_ok noO_ok) (SE.sl (se_callB (fb_t (int_ok) (bn_at Γ C 4 rfl (by decide +kernel) (by decide) (by decide +kernel))) rfl rfl (sla_cons (SE.sl (se_ix (ru_at C) (fun _ _ => rfl) (SE.sl (se_var (sl_at C 0 "_law_spring_here" (by decide +kernel)))) (SE.sl se_lit))) sla_nil rfl))) (SE.sl (se_var (sl_at C 1 "_law_many" (by decide +kernel)))))) (sb_cons (ss_setc rfl rfl rfl (fun _ => rfl) (se_var (sl_at C 0 "_law_spring_here" (by decide +kernel))) se_lit (se_bin (bop_ok noO_ok) (SE.sl (se_ix (ru_at C) (fun _ _ => rfl) (SE.sl (se_var (sl_at C 0 "_law_spring_here" (by decide +kernel)))) (SE.sl se_lit))) (SE.sl (se_var (sl_at C 1 "_law_many" (by decide +kernel)))))) (sb_one (ss_ret (se_var (sl_at C 2 "_law_digit" (by decide +kernel))))))) sb_nil) (sb_cons (ss_asg (sw_at C 3 "_law_state" (by decide +kernel)) rfl (se_callB (fb_t (int_ok) (bn_at Γ C 4 rfl (by decide +kernel) (by decide) (by decide +kernel))) rfl rfl (sla_cons (SE.sl (se_ix (ru_at C) (fun _ _ => rfl) (SE.sl (se_var (sl_at C 0 "_law_spring_here" (by decide +kernel)))) (SE.sl se_lit))) sla_nil rfl))) (sb_cons (ss_setc rfl rfl rfl (fun _ => rfl) (se_var (sl_at C 0 "_law_spring_here" (by decide +kernel))) se_lit (se_bin (bop_ok noO_ok) (SE.sl (se_callB (fb_t (int_ok) (bn_at Γ C 4 rfl (by decide +kernel) (by decide) (by decide +kernel))) rfl rfl (sla_cons (SE.sl (se_bin (bop_ok noO_ok) (SE.sl (se_bin (bop_ok noO_ok) (SE.sl (se_bin (bop_ok noO_ok) (SE.sl (se_var (sl_at C 3 "_law_state" (by decide +kernel)))) (SE.sl (se_bin (bop_ok noO_ok) (SE.sl (se_bin (bop_ok noO_ok) (SE.sl (se_var (sl_at C 3 "_law_state" (by decide +kernel)))) (SE.sl se_lit))) (SE.sl se_lit))))) (SE.sl (se_bin (bop_ok noO_ok) (SE.sl se_lit) (SE.sl (se_ix (ru_at C) (fun _ _ => rfl) (SE.sl (se_var (sl_at C 0 "_law_spring_here" (by decide +kernel)))) (SE.sl se_lit))))))) (SE.sl se_lit))) sla_nil rfl))) (SE.sl se_lit))) (sb_one (ss_ret (se_bin (bop_ok noO_ok) (SE.sl (se_callB (fb_t (int_ok) (bn_at Γ C 4 rfl (by decide +kernel) (by decide) (by decide +kernel))) rfl rfl (sla_cons (SE.sl (se_bin (bop_ok noO_ok) (SE.sl (se_ix (ru_at C) (fun _ _ => rfl) (SE.sl (se_var (sl_at C 0 "_law_spring_here" (by decide +kernel)))) (SE.sl se_lit))) (SE.sl se_lit))) sla_nil rfl))) (SE.sl (se_var (sl_at C 1 "_law_many" (by decide +kernel)))))))))))
theorem ok_l_next (Γ : Gz fa fn K mg) (TB : TbsZ tl K mg base) : OkD true P w K mg base 2 d_l_next ["_law_spring_here", "_law_many"] (spM K 2 f_l_next) := okd_of Γ.says 18 rfl sc_l_next (by decide) fun C tk po => sb_l_next Γ TB C tk po
theorem kb_l_next_2 {fd : FuncData} (F : FunZ K d_l_next fd) : Kbz K fd ["_law_spring_here", "_law_many"] 2 [] [0, 1] [] := kbz0 F fun _ _ _ _ _ _ us ws h1 h2 => match us, ws, h1, h2 with | [_, _], [], _, _ => rfl
def c_l_one : SC := (mRet (mBin ixD (mVar 1) (mArgs (mConsA (mVar 0) (mConsA (mCall bLen (mConsA (mVar 1) mNilA)) mNilA)) mNilA (wArg 2 0 [0, 1] [] f_l_next))))
def f_l_one : List D → M D := runF c_l_one 2
theorem sb_l_one (Γ : Gz fa fn K mg) (TB : TbsZ tl K mg base) (C : Cz P w K mg base 2 X ["_law_spring_here", "_law_things"] (defScope s_l_one) true true) (tk : Takes X T) (po : PassesOwn (model X.prog X.w) X.A X.env X.xe) : SB T X (defBody s_l_one) c_l_one := by
  exact (sb_one (ss_ret (se_ix (ru_at C) (fun _ _ => rfl) (SE.sl (se_var (sl_at C 1 "_law_things" (by decide +kernel)))) (SE.sl (se_callW (fq_at Γ C tk (ok_l_next Γ TB) (by decide) (by decide) rfl kb_l_next_2 rfl (fun _ _ => Rps.nil) 41 rfl (by decide +kernel)) ⟨rfl, rfl, rfl, .inr ⟨_, _, rfl, rfl⟩⟩ (sa_cons (se_var (sl_at C 0 "_law_spring_here" (by decide +kernel))) (sa_cons (se_callB (fb_b (len_ok) (bn_at Γ C 39 rfl (by decide +kernel) (by decide) (by decide +kernel))) rfl rfl (sla_cons (SE.sl (se_var (sl_at C 1 "_law_things" (by decide +kernel)))) sla_nil rfl)) sa_nil rfl) rfl) sk_nil)))))
theorem ok_l_one (Γ : Gz fa fn K mg) (TB : TbsZ tl K mg base) : OkD true P w K mg base 3 d_l_one ["_law_spring_here", "_law_things"] (spM K 2 f_l_one) := okd_of Γ.says 19 rfl sc_l_one (by decide) fun C tk po => sb_l_one Γ TB C tk po
def ti_3 : List (TK × TK × Bool) := [(.b "NoneType", .c "StateError", false), (.b "bool", .c "StateError", false), (.b "int", .c "StateError", false), (.b "str", .c "StateError", false), (.b "tuple", .c "StateError", false), (.b "list", .c "StateError", false), (.b "dict", .c "StateError", false), (.c "Number", .c "StateError", false)]
def te_3 : List (TK × TK × Bool) := [(.c "InvalidCount", .c "StateError", false), (.c "NotANumber", .c "StateError", false), (.c "DividedByZero", .c "StateError", true)]
@[simp] theorem ti_3_0 {b : Bool} {n : Int} {z : Str} {ds : List D} {k : List Key} {ns : List Str} {h : Store} : bIsx te_3 ti_3 [.non, .cls "StateError"] h = .ok (.bl false) h := rfl
@[simp] theorem ti_3_1 {b : Bool} {n : Int} {z : Str} {ds : List D} {k : List Key} {ns : List Str} {h : Store} : bIsx te_3 ti_3 [.bl b, .cls "StateError"] h = .ok (.bl false) h := rfl
@[simp] theorem ti_3_2 {b : Bool} {n : Int} {z : Str} {ds : List D} {k : List Key} {ns : List Str} {h : Store} : bIsx te_3 ti_3 [.int n, .cls "StateError"] h = .ok (.bl false) h := rfl
@[simp] theorem ti_3_3 {b : Bool} {n : Int} {z : Str} {ds : List D} {k : List Key} {ns : List Str} {h : Store} : bIsx te_3 ti_3 [.str z, .cls "StateError"] h = .ok (.bl false) h := rfl
@[simp] theorem ti_3_4 {b : Bool} {n : Int} {z : Str} {ds : List D} {k : List Key} {ns : List Str} {h : Store} : bIsx te_3 ti_3 [.tup ds, .cls "StateError"] h = .ok (.bl false) h := rfl
@[simp] theorem ti_3_5 {b : Bool} {n : Int} {z : Str} {ds : List D} {k : List Key} {ns : List Str} {h : Store} : bIsx te_3 ti_3 [.lst ds, .cls "StateError"] h = .ok (.bl false) h := rfl
@[simp] theorem ti_3_6 {b : Bool} {n : Int} {z : Str} {ds : List D} {k : List Key} {ns : List Str} {h : Store} : bIsx te_3 ti_3 [.dic k ds, .cls "StateError"] h = .ok (.bl false) h := rfl
@[simp] theorem ti_3_7 {b : Bool} {n : Int} {z : Str} {ds : List D} {k : List Key} {ns : List Str} {h : Store} : bIsx te_3 ti_3 [.obj "Number" ns ds, .cls "StateError"] h = .ok (.bl false) h := rfl
@[simp] theorem te_3_0 {b : Bool} {n : Int} {z : Str} {ds : List D} {k : List Key} {ns : List Str} {h : Store} : bIsx te_3 ti_3 [.exc "InvalidCount" ns ds, .cls "StateError"] h = .ok (.bl false) h := rfl
@[simp] theorem te_3_1 {b : Bool} {n : Int} {z : Str} {ds : List D} {k : List Key} {ns : List Str} {h : Store} : bIsx te_3 ti_3 [.exc "NotANumber" ns ds, .cls "StateError"] h = .ok (.bl false) h := rfl
@[simp] theorem te_3_2 {b : Bool} {n : Int} {z : Str} {ds : List D} {k : List Key} {ns : List Str} {h : Store} : bIsx te_3 ti_3 [.exc "DividedByZero" ns ds, .cls "StateError"] h = .ok (.bl true) h := rfl
def ti_4 : List (TK × TK × Bool) := [(.b "NoneType", .b "RuntimeError", false), (.b "bool", .b "RuntimeError", false), (.b "int", .b "RuntimeError", false), (.b "str", .b "RuntimeError", false), (.b "tuple", .b "RuntimeError", false), (.b "list", .b "RuntimeError", false), (.b "dict", .b "RuntimeError", false), (.c "Number", .b "RuntimeError", false)]
def te_4 : List (TK × TK × Bool) := [(.c "InvalidCount", .b "RuntimeError", false), (.c "NotANumber", .b "RuntimeError", false), (.c "DividedByZero", .b "RuntimeError", true)]
@[simp] theorem ti_4_0 {b : Bool} {n : Int} {z : Str} {ds : List D} {k : List Key} {ns : List Str} {h : Store} : bIsx te_4 ti_4 [.non, .ty "RuntimeError"] h = .ok (.bl false) h := rfl
@[simp] theorem ti_4_1 {b : Bool} {n : Int} {z : Str} {ds : List D} {k : List Key} {ns : List Str} {h : Store} : bIsx te_4 ti_4 [.bl b, .ty "RuntimeError"] h = .ok (.bl false) h := rfl
@[simp] theorem ti_4_2 {b : Bool} {n : Int} {z : Str} {ds : List D} {k : List Key} {ns : List Str} {h : Store} : bIsx te_4 ti_4 [.int n, .ty "RuntimeError"] h = .ok (.bl false) h := rfl
@[simp] theorem ti_4_3 {b : Bool} {n : Int} {z : Str} {ds : List D} {k : List Key} {ns : List Str} {h : Store} : bIsx te_4 ti_4 [.str z, .ty "RuntimeError"] h = .ok (.bl false) h := rfl
@[simp] theorem ti_4_4 {b : Bool} {n : Int} {z : Str} {ds : List D} {k : List Key} {ns : List Str} {h : Store} : bIsx te_4 ti_4 [.tup ds, .ty "RuntimeError"] h = .ok (.bl false) h := rfl
@[simp] theorem ti_4_5 {b : Bool} {n : Int} {z : Str} {ds : List D} {k : List Key} {ns : List Str} {h : Store} : bIsx te_4 ti_4 [.lst ds, .ty "RuntimeError"] h = .ok (.bl false) h := rfl
@[simp] theorem ti_4_6 {b : Bool} {n : Int} {z : Str} {ds : List D} {k : List Key} {ns : List Str} {h : Store} : bIsx te_4 ti_4 [.dic k ds, .ty "RuntimeError"] h = .ok (.bl false) h := rfl
@[simp] theorem ti_4_7 {b : Bool} {n : Int} {z : Str} {ds : List D} {k : List Key} {ns : List Str} {h : Store} : bIsx te_4 ti_4 [.obj "Number" ns ds, .ty "RuntimeError"] h = .ok (.bl false) h := rfl
@[simp] theorem te_4_0 {b : Bool} {n : Int} {z : Str} {ds : List D} {k : List Key} {ns : List Str} {h : Store} : bIsx te_4 ti_4 [.exc "InvalidCount" ns ds, .ty "RuntimeError"] h = .ok (.bl false) h := rfl
@[simp] theorem te_4_1 {b : Bool} {n : Int} {z : Str} {ds : List D} {k : List Key} {ns : List Str} {h : Store} : bIsx te_4 ti_4 [.exc "NotANumber" ns ds, .ty "RuntimeError"] h = .ok (.bl false) h := rfl
@[simp] theorem te_4_2 {b : Bool} {n : Int} {z : Str} {ds : List D} {k : List Key} {ns : List Str} {h : Store} : bIsx te_4 ti_4 [.exc "DividedByZero" ns ds, .ty "RuntimeError"] h = .ok (.bl true) h := rfl
def ti_5 : List (TK × TK × Bool) := [(.b "NoneType", .c "InvalidCount", false), (.b "bool", .c "InvalidCount", false), (.b "int", .c "InvalidCount", false), (.b "str", .c "InvalidCount", false), (.b "tuple", .c "InvalidCount", false), (.b "list", .c "InvalidCount", false), (.b "dict", .c "InvalidCount", false), (.c "Number", .c "InvalidCount", false)]
def te_5 : List (TK × TK × Bool) := [(.c "InvalidCount", .c "InvalidCount", true), (.c "NotANumber", .c "InvalidCount", false), (.c "DividedByZero", .c "InvalidCount", false)]
@[simp] theorem ti_5_0 {b : Bool} {n : Int} {z : Str} {ds : List D} {k : List Key} {ns : List Str} {h : Store} : bIsx te_5 ti_5 [.non, .cls "InvalidCount"] h = .ok (.bl false) h := rfl
@[simp] theorem ti_5_1 {b : Bool} {n : Int} {z : Str} {ds : List D} {k : List Key} {ns : List Str} {h : Store} : bIsx te_5 ti_5 [.bl b, .cls "InvalidCount"] h = .ok (.bl false) h := rfl
@[simp] theorem ti_5_2 {b : Bool} {n : Int} {z : Str} {ds : List D} {k : List Key} {ns : List Str} {h : Store} : bIsx te_5 ti_5 [.int n, .cls "InvalidCount"] h = .ok (.bl false) h := rfl
@[simp] theorem ti_5_3 {b : Bool} {n : Int} {z : Str} {ds : List D} {k : List Key} {ns : List Str} {h : Store} : bIsx te_5 ti_5 [.str z, .cls "InvalidCount"] h = .ok (.bl false) h := rfl
@[simp] theorem ti_5_4 {b : Bool} {n : Int} {z : Str} {ds : List D} {k : List Key} {ns : List Str} {h : Store} : bIsx te_5 ti_5 [.tup ds, .cls "InvalidCount"] h = .ok (.bl false) h := rfl
@[simp] theorem ti_5_5 {b : Bool} {n : Int} {z : Str} {ds : List D} {k : List Key} {ns : List Str} {h : Store} : bIsx te_5 ti_5 [.lst ds, .cls "InvalidCount"] h = .ok (.bl false) h := rfl
@[simp] theorem ti_5_6 {b : Bool} {n : Int} {z : Str} {ds : List D} {k : List Key} {ns : List Str} {h : Store} : bIsx te_5 ti_5 [.dic k ds, .cls "InvalidCount"] h = .ok (.bl false) h := rfl
@[simp] theorem ti_5_7 {b : Bool} {n : Int} {z : Str} {ds : List D} {k : List Key} {ns : List Str} {h : Store} : bIsx te_5 ti_5 [.obj "Number" ns ds, .cls "InvalidCount"] h = .ok (.bl false) h := rfl
@[simp] theorem te_5_0 {b : Bool} {n : Int} {z : Str} {ds : List D} {k : List Key} {ns : List Str} {h : Store} : bIsx te_5 ti_5 [.exc "InvalidCount" ns ds, .cls "InvalidCount"] h = .ok (.bl true) h := rfl
@[simp] theorem te_5_1 {b : Bool} {n : Int} {z : Str} {ds : List D} {k : List Key} {ns : List Str} {h : Store} : bIsx te_5 ti_5 [.exc "NotANumber" ns ds, .cls "InvalidCount"] h = .ok (.bl false) h := rfl
@[simp] theorem te_5_2 {b : Bool} {n : Int} {z : Str} {ds : List D} {k : List Key} {ns : List Str} {h : Store} : bIsx te_5 ti_5 [.exc "DividedByZero" ns ds, .cls "InvalidCount"] h = .ok (.bl false) h := rfl
def ti_6 : List (TK × TK × Bool) := [(.b "NoneType", .b "ValueError", false), (.b "bool", .b "ValueError", false), (.b "int", .b "ValueError", false), (.b "str", .b "ValueError", false), (.b "tuple", .b "ValueError", false), (.b "list", .b "ValueError", false), (.b "dict", .b "ValueError", false), (.c "Number", .b "ValueError", false)]
def te_6 : List (TK × TK × Bool) := [(.c "InvalidCount", .b "ValueError", true), (.c "NotANumber", .b "ValueError", true), (.c "DividedByZero", .b "ValueError", false)]
@[simp] theorem ti_6_0 {b : Bool} {n : Int} {z : Str} {ds : List D} {k : List Key} {ns : List Str} {h : Store} : bIsx te_6 ti_6 [.non, .ty "ValueError"] h = .ok (.bl false) h := rfl
@[simp] theorem ti_6_1 {b : Bool} {n : Int} {z : Str} {ds : List D} {k : List Key} {ns : List Str} {h : Store} : bIsx te_6 ti_6 [.bl b, .ty "ValueError"] h = .ok (.bl false) h := rfl
@[simp] theorem ti_6_2 {b : Bool} {n : Int} {z : Str} {ds : List D} {k : List Key} {ns : List Str} {h : Store} : bIsx te_6 ti_6 [.int n, .ty "ValueError"] h = .ok (.bl false) h := rfl
@[simp] theorem ti_6_3 {b : Bool} {n : Int} {z : Str} {ds : List D} {k : List Key} {ns : List Str} {h : Store} : bIsx te_6 ti_6 [.str z, .ty "ValueError"] h = .ok (.bl false) h := rfl
@[simp] theorem ti_6_4 {b : Bool} {n : Int} {z : Str} {ds : List D} {k : List Key} {ns : List Str} {h : Store} : bIsx te_6 ti_6 [.tup ds, .ty "ValueError"] h = .ok (.bl false) h := rfl
@[simp] theorem ti_6_5 {b : Bool} {n : Int} {z : Str} {ds : List D} {k : List Key} {ns : List Str} {h : Store} : bIsx te_6 ti_6 [.lst ds, .ty "ValueError"] h = .ok (.bl false) h := rfl
@[simp] theorem ti_6_6 {b : Bool} {n : Int} {z : Str} {ds : List D} {k : List Key} {ns : List Str} {h : Store} : bIsx te_6 ti_6 [.dic k ds, .ty "ValueError"] h = .ok (.bl false) h := rfl
@[simp] theorem ti_6_7 {b : Bool} {n : Int} {z : Str} {ds : List D} {k : List Key} {ns : List Str} {h : Store} : bIsx te_6 ti_6 [.obj "Number" ns ds, .ty "ValueError"] h = .ok (.bl false) h := rfl
@[simp] theorem te_6_0 {b : Bool} {n : Int} {z : Str} {ds : List D} {k : List Key} {ns : List Str} {h : Store} : bIsx te_6 ti_6 [.exc "InvalidCount" ns ds, .ty "ValueError"] h = .ok (.bl true) h := rfl
@[simp] theorem te_6_1 {b : Bool} {n : Int} {z : Str} {ds : List D} {k : List Key} {ns : List Str} {h : Store} : bIsx te_6 ti_6 [.exc "NotANumber" ns ds, .ty "ValueError"] h = .ok (.bl true) h := rfl
@[simp] theorem te_6_2 {b : Bool} {n : Int} {z : Str} {ds : List D} {k : List Key} {ns : List Str} {h : Store} : bIsx te_6 ti_6 [.exc "DividedByZero" ns ds, .ty "ValueError"] h = .ok (.bl false) h := rfl
theorem kn_Number_repr {fd : FuncData} (F : FunZ K d_Number_repr fd) : Binds K fd ["self"] [] := F.bindsN fun _ _ _ _ _ _ us hl => match us, hl with | [_], _ => rfl
def ti_7 : List (TK × TK × Bool) := [(.b "NoneType", .c "NotANumber", false), (.b "bool", .c "NotANumber", false), (.b "int", .c "NotANumber", false), (.b "str", .c "NotANumber", false), (.b "tuple", .c "NotANumber", false), (.b "list", .c "NotANumber", false), (.b "dict", .c "NotANumber", false), (.c "Number", .c "NotANumber", false)]
def te_7 : List (TK × TK × Bool) := [(.c "InvalidCount", .c "NotANumber", false), (.c "NotANumber", .c "NotANumber", true), (.c "DividedByZero", .c "NotANumber", false)]
@[simp] theorem ti_7_0 {b : Bool} {n : Int} {z : Str} {ds : List D} {k : List Key} {ns : List Str} {h : Store} : bIsx te_7 ti_7 [.non, .cls "NotANumber"] h = .ok (.bl false) h := rfl
@[simp] theorem ti_7_1 {b : Bool} {n : Int} {z : Str} {ds : List D} {k : List Key} {ns : List Str} {h : Store} : bIsx te_7 ti_7 [.bl b, .cls "NotANumber"] h = .ok (.bl false) h := rfl
@[simp] theorem ti_7_2 {b : Bool} {n : Int} {z : Str} {ds : List D} {k : List Key} {ns : List Str} {h : Store} : bIsx te_7 ti_7 [.int n, .cls "NotANumber"] h = .ok (.bl false) h := rfl
@[simp] theorem ti_7_3 {b : Bool} {n : Int} {z : Str} {ds : List D} {k : List Key} {ns : List Str} {h : Store} : bIsx te_7 ti_7 [.str z, .cls "NotANumber"] h = .ok (.bl false) h := rfl
@[simp] theorem ti_7_4 {b : Bool} {n : Int} {z : Str} {ds : List D} {k : List Key} {ns : List Str} {h : Store} : bIsx te_7 ti_7 [.tup ds, .cls "NotANumber"] h = .ok (.bl false) h := rfl
@[simp] theorem ti_7_5 {b : Bool} {n : Int} {z : Str} {ds : List D} {k : List Key} {ns : List Str} {h : Store} : bIsx te_7 ti_7 [.lst ds, .cls "NotANumber"] h = .ok (.bl false) h := rfl
@[simp] theorem ti_7_6 {b : Bool} {n : Int} {z : Str} {ds : List D} {k : List Key} {ns : List Str} {h : Store} : bIsx te_7 ti_7 [.dic k ds, .cls "NotANumber"] h = .ok (.bl false) h := rfl
@[simp] theorem ti_7_7 {b : Bool} {n : Int} {z : Str} {ds : List D} {k : List Key} {ns : List Str} {h : Store} : bIsx te_7 ti_7 [.obj "Number" ns ds, .cls "NotANumber"] h = .ok (.bl false) h := rfl
@[simp] theorem te_7_0 {b : Bool} {n : Int} {z : Str} {ds : List D} {k : List Key} {ns : List Str} {h : Store} : bIsx te_7 ti_7 [.exc "InvalidCount" ns ds, .cls "NotANumber"] h = .ok (.bl false) h := rfl
@[simp] theorem te_7_1 {b : Bool} {n : Int} {z : Str} {ds : List D} {k : List Key} {ns : List Str} {h : Store} : bIsx te_7 ti_7 [.exc "NotANumber" ns ds, .cls "NotANumber"] h = .ok (.bl true) h := rfl
@[simp] theorem te_7_2 {b : Bool} {n : Int} {z : Str} {ds : List D} {k : List Key} {ns : List Str} {h : Store} : bIsx te_7 ti_7 [.exc "DividedByZero" ns ds, .cls "NotANumber"] h = .ok (.bl false) h := rfl
noncomputable def c_l_told (a c : Addr) (q : Str) (vs : List V) (act : List D → M D) : SC := (mSeq (mTry (mExp (mAct 0 a c q vs act)) (mHdA (fun c => List.lookup c ([("InvalidCount", true), ("NotANumber", true), ("DividedByZero", false)] : List (Str × Bool))) 1 (mSeq (mIfS (tB (mCall (bIsx te_5 ti_5) (mConsA (mVar 1) (mConsA (mLit (.cls "InvalidCount")) mNilA)))) (mRet (mFz (mLst (mConsA (mLit (.str "count")) (mConsA (mCall (bRepd (own1S "Number" f_Number_repr)) (mConsA (mAtx ["InvalidCount", "NotANumber"] "value" (mVar 1)) mNilA)) (mConsA (mCall (bIsx te_6 ti_6) (mConsA (mVar 1) (mConsA (mLit (.ty "ValueError")) mNilA))) mNilA)))))) mPass) (mRet (mFz (mLst (mConsA (mLit (.str "number")) (mConsA (mCall (bRepd (own1S "Number" f_Number_repr)) (mConsA (mAtx ["InvalidCount", "NotANumber"] "value" (mVar 1)) mNilA)) (mConsA (mCall (bIsx te_7 ti_7) (mConsA (mVar 1) (mConsA (mLit (.cls "NotANumber")) mNilA))) mNilA))))))) (mHdA (fun c => List.lookup c ([("InvalidCount", false), ("NotANumber", false), ("DividedByZero", true)] : List (Str × Bool))) 1 (mRet (mFz (mLst (mConsA (mLit (.str "zero")) (mConsA (mLit (.str "")) (mConsA (mAnd (mCall (bIsx te_3 ti_3) (mConsA (mVar 1) (mConsA (mLit (.cls "StateError")) mNilA))) (mCall (bIsx te_4 ti_4) (mConsA (mVar 1) (mConsA (mLit (.ty "RuntimeError")) mNilA)))) mNilA)))))) mHdN))) (mRet (mFz (mLst (mConsA (mLit (.str "given")) (mConsA (mLit (.str "")) (mConsA (mLit (.bl true)) mNilA)))))))
def b_l_told (act : M D) : SC := (mSeq (mTry (mExp (mActP act)) (mHdA (fun c => List.lookup c ([("InvalidCount", true), ("NotANumber", true), ("DividedByZero", false)] : List (Str × Bool))) 1 (mSeq (mIfS (tB (mCall (bIsx te_5 ti_5) (mConsA (mVar 1) (mConsA (mLit (.cls "InvalidCount")) mNilA)))) (mRet (mFz (mLst (mConsA (mLit (.str "count")) (mConsA (mCall (bRepd (own1S "Number" f_Number_repr)) (mConsA (mAtx ["InvalidCount", "NotANumber"] "value" (mVar 1)) mNilA)) (mConsA (mCall (bIsx te_6 ti_6) (mConsA (mVar 1) (mConsA (mLit (.ty "ValueError")) mNilA))) mNilA)))))) mPass) (mRet (mFz (mLst (mConsA (mLit (.str "number")) (mConsA (mCall (bRepd (own1S "Number" f_Number_repr)) (mConsA (mAtx ["InvalidCount", "NotANumber"] "value" (mVar 1)) mNilA)) (mConsA (mCall (bIsx te_7 ti_7) (mConsA (mVar 1) (mConsA (mLit (.cls "NotANumber")) mNilA))) mNilA))))))) (mHdA (fun c => List.lookup c ([("InvalidCount", false), ("NotANumber", false), ("DividedByZero", true)] : List (Str × Bool))) 1 (mRet (mFz (mLst (mConsA (mLit (.str "zero")) (mConsA (mLit (.str "")) (mConsA (mAnd (mCall (bIsx te_3 ti_3) (mConsA (mVar 1) (mConsA (mLit (.cls "StateError")) mNilA))) (mCall (bIsx te_4 ti_4) (mConsA (mVar 1) (mConsA (mLit (.ty "RuntimeError")) mNilA)))) mNilA)))))) mHdN))) (mRet (mFz (mLst (mConsA (mLit (.str "given")) (mConsA (mLit (.str "")) (mConsA (mLit (.bl true)) mNilA)))))))
def g_l_told (act : M D) : M D := runF (b_l_told act) 2 [.non]
theorem ind_l_told (act : M D) : IndS (b_l_told act) := by
  unfold b_l_told
  repeat (first | exact is_pass | exact ih_nil | exact ix_lit | exact ix_var | exact ix_act | exact ix_nil | apply is_seq | apply is_try | apply is_ret | apply is_exp | apply is_if | apply ih_as | apply ih_no | apply ix_cons | apply ix_call | apply ix_fz | apply ix_lst | apply ix_tup | apply ix_atx | apply ix_tb | apply ix_bin | apply ix_and | apply ix_or | apply ix_not)
theorem par_l_told : ∀ a c q vs ds act h, runF (c_l_told a c q vs act) 2 [.clo a c q vs ds] h = g_l_told (act ds) h := by
  intro a c q vs ds act h
  have e : runF (c_l_told a c q vs act) 2 [.clo a c q vs ds] h = runF (b_l_told (act ds)) 2 [.clo a c q vs ds] h := by
    unfold c_l_told b_l_told runF mSeq mTry mExp
    rw [act_at (a := a) (c := c) (q := q) (vs := vs) (ds := ds) rfl]
    rfl
  rw [e]
  exact run_ind (ind_l_told _) 2 _ _ h
theorem sb_l_told (Γ : Gz fa fn K mg) (TB : TbsZ tl K mg base) (C : Cz P w K mg base 30 X ["_law_act", "e"] (defScope s_l_told) true false) (tk : Takes X T) (po : PassesOwn (model X.prog X.w) X.A X.env X.xe) {a c : Addr} {q : Str} {vs : List V} {act : List D → M D} (AC : ∀ T' pn xe, Takes (X.tr pn xe) T' → CallA T' (X.tr pn xe) a c q vs act) : SB T X (defBody s_l_told) (c_l_told a c q vs act) := by
  exact (sb_cons (ss_try (C.df rfl).1 (C.df rfl).2.1 (C.df rfl).2.2 (nd_at C) tk (fun T' pn xe tk1 po1 => by have Ct1 := cz_tr (pn := pn) (xe := xe) C; exact (sb_one (ss_exp rfl (se_act (sl_at Ct1 0 "_law_act" (by decide +kernel)) (AC _ _ _ tk1))))) (.as (ex1_at Γ C (nm_at Γ C 49 rfl (by decide +kernel)) 50 rfl) (sl_at C 1 "e" (by decide +kernel)).n (lc_at C "e" (by decide +kernel)) (fun a pn => by have Cs3 := cz_suite (a := a) (pn := pn) C; exact (sb_cons (ss_if (st_val (fun _ => rfl) (se_callB (fb_b (isx_at (t := ti_5) (te := te_5) Γ Cs3 51 0 52 3 rfl rfl (by decide +kernel) rfl rfl (by decide +kernel)) (bn_at Γ Cs3 5 rfl (by decide +kernel) (by decide) (by decide +kernel))) rfl rfl (sla_cons (SE.sl (se_var (sl_at Cs3 1 "e" (by decide +kernel)))) (sla_cons (SE.sl (se_cls Cs3 (gc_at Γ Cs3 11 rfl (by decide +kernel)))) sla_nil rfl) rfl))) (sb_one (ss_ret (SF.se (sf_lst (sa_cons se_str (sa_cons (se_callB (fb_b (repd_ok Cs3.gd (ru_at Cs3) (ownRepr_ok (dm_at Γ Cs3 takes0 (ok_Number_repr Γ TB) (by decide) (by decide) rfl kn_Number_repr rfl 56 rfl))) (bn_at Γ Cs3 58 rfl (by decide +kernel) (by decide) (by decide +kernel))) rfl rfl (sla_cons (SE.sl (se_atx (xv_at Γ Cs3 57 rfl) rfl (se_var (sl_at Cs3 1 "e" (by decide +kernel))))) sla_nil rfl)) (sa_cons (se_callB (fb_b (isx_at (t := ti_6) (te := te_6) Γ Cs3 53 0 54 3 rfl rfl (by decide +kernel) rfl rfl (by decide +kernel)) (bn_at Γ Cs3 5 rfl (by decide +kernel) (by decide) (by decide +kernel))) rfl rfl (sla_cons (SE.sl (se_var (sl_at Cs3 1 "e" (by decide +kernel)))) (sla_cons (SE.sl (se_ty (bn_at Γ Cs3 55 rfl (by decide +kernel) (by decide) (by decide +kernel)))) sla_nil rfl) rfl)) sa_nil rfl) rfl) rfl))))) sb_nil) (sb_one (ss_ret (SF.se (sf_lst (sa_cons se_str (sa_cons (se_callB (fb_b (repd_ok Cs3.gd (ru_at Cs3) (ownRepr_ok (dm_at Γ Cs3 takes0 (ok_Number_repr Γ TB) (by decide) (by decide) rfl kn_Number_repr rfl 56 rfl))) (bn_at Γ Cs3 58 rfl (by decide +kernel) (by decide) (by decide +kernel))) rfl rfl (sla_cons (SE.sl (se_atx (xv_at Γ Cs3 57 rfl) rfl (se_var (sl_at Cs3 1 "e" (by decide +kernel))))) sla_nil rfl)) (sa_cons (se_callB (fb_b (isx_at (t := ti_7) (te := te_7) Γ Cs3 59 0 60 3 rfl rfl (by decide +kernel) rfl rfl (by decide +kernel)) (bn_at Γ Cs3 5 rfl (by decide +kernel) (by decide) (by decide +kernel))) rfl rfl (sla_cons (SE.sl (se_var (sl_at Cs3 1 "e" (by decide +kernel)))) (sla_cons (SE.sl (se_cls Cs3 (gc_at Γ Cs3 23 rfl (by decide +kernel)))) sla_nil rfl) rfl)) sa_nil rfl) rfl) rfl))))))) (.as (ex1_at Γ C (nm_at Γ C 13 rfl (by decide +kernel)) 42 rfl) (sl_at C 1 "e" (by decide +kernel)).n (lc_at C "e" (by decide +kernel)) (fun a pn => by have Cs2 := cz_suite (a := a) (pn := pn) C; exact (sb_one (ss_ret (SF.se (sf_lst (sa_cons se_str (sa_cons se_str (sa_cons (se_and (se_callB (fb_b (isx_at (t := ti_3) (te := te_3) Γ Cs2 43 0 44 3 rfl rfl (by decide +kernel) rfl rfl (by decide +kernel)) (bn_at Γ Cs2 5 rfl (by decide +kernel) (by decide) (by decide +kernel))) rfl rfl (sla_cons (SE.sl (se_var (sl_at Cs2 1 "e" (by decide +kernel)))) (sla_cons (SE.sl (se_cls Cs2 (gc_at Γ Cs2 45 rfl (by decide +kernel)))) sla_nil rfl) rfl)) (se_one (se_callB (fb_b (isx_at (t := ti_4) (te := te_4) Γ Cs2 46 0 47 3 rfl rfl (by decide +kernel) rfl rfl (by decide +kernel)) (bn_at Γ Cs2 5 rfl (by decide +kernel) (by decide) (by decide +kernel))) rfl rfl (sla_cons (SE.sl (se_var (sl_at Cs2 1 "e" (by decide +kernel)))) (sla_cons (SE.sl (se_ty (bn_at Γ Cs2 48 rfl (by decide +kernel) (by decide) (by decide +kernel)))) sla_nil rfl) rfl)))) sa_nil rfl) rfl) rfl)))))) .nil))) (sb_one (ss_ret (SF.se (sf_lst (sa_cons se_str (sa_cons se_str (sa_cons se_bl sa_nil rfl) rfl) rfl))))))
theorem oh_l_told (Γ : Gz fa fn K mg) (TB : TbsZ tl K mg base) : OkH P w K mg base 31 d_l_told "_law_act" g_l_told := okh_of Γ.says 20 rfl sc_l_told (by decide) par_l_told fun C tk po AC => sb_l_told Γ TB C tk po AC
theorem kn_Number_radd {fd : FuncData} (F : FunZ K d_Number_radd fd) : Binds K fd ["self", "other"] [] := F.bindsN fun _ _ _ _ _ _ us hl => match us, hl with | [_, _], _ => rfl
theorem kn_Number_rsub {fd : FuncData} (F : FunZ K d_Number_rsub fd) : Binds K fd ["self", "other"] [] := F.bindsN fun _ _ _ _ _ _ us hl => match us, hl with | [_, _], _ => rfl
theorem kb_Number_over_2 {fd : FuncData} (F : FunZ K d_Number_over fd) : Kbz K fd ["self", "other"] 2 [] [0, 1] [] := kbz0 F fun _ _ _ _ _ _ us ws h1 h2 => match us, ws, h1, h2 with | [_, _], [], _, _ => rfl
def c_l_joined : SC := (mSeq (mIfS (tB (mBin (cmpD noO .Eq) (mVar 0) (mLit (.int 0)))) (mRet (mBin (bop (ownA "Number" f_Number_add f_Number_radd) .Add) (mVar 1) (mVar 2))) mPass) (mSeq (mIfS (tB (mBin (cmpD noO .Eq) (mVar 0) (mLit (.int 1)))) (mRet (mBin (bop (ownA "Number" f_Number_add f_Number_radd) .Add) (mVar 2) (mVar 1))) mPass) (mSeq (mIfS (tB (mBin (cmpD noO .Eq) (mVar 0) (mLit (.int 2)))) (mRet (mBin (bop (ownA "Number" f_Number_sub f_Number_rsub) .Sub) (mVar 1) (mVar 2))) mPass) (mSeq (mIfS (tB (mBin (cmpD noO .Eq) (mVar 0) (mLit (.int 3)))) (mRet (mBin (bop (ownA "Number" f_Number_sub f_Number_rsub) .Sub) (mVar 2) (mVar 1))) mPass) (mSeq (mIfS (tB (mBin (cmpD noO .Eq) (mVar 0) (mLit (.int 4)))) (mRet (mBin (bop (ownA "Number" f_Number_mul f_Number_rmul) .Mult) (mVar 1) (mVar 2))) mPass) (mRet (mIf (tB (mBin (cmpD noO .Eq) (mVar 0) (mLit (.int 5)))) (mMeth [("Number", wArg 2 0 [0, 1] [] f_Number_over)] "over" (mVar 1) (mConsA (mVar 2) mNilA) mNilA) (mBin (bop (ownA "Number" f_Number_mul f_Number_rmul) .Mult) (mVar 2) (mVar 1)))))))))
def f_l_joined : List D → M D := runF c_l_joined 3
theorem sb_l_joined (Γ : Gz fa fn K mg) (TB : TbsZ tl K mg base) (C : Cz P w K mg base 15 X ["_law_way", "_law_number", "_law_odd"] (defScope s_l_joined) true false) (tk : Takes X T) (po : PassesOwn (model X.prog X.w) X.A X.env X.xe) : SB T X (defBody s_l_joined) c_l_joined := by
  exact (sb_cons (ss_if (st_cmp (cmp_ok (ru_at C) noO_ok) rfl (SE.sl (se_var (sl_at C 0 "_law_way" (by decide +kernel)))) (SE.sl se_lit)) (sb_one (ss_ret (se_binP (bopP_ok (ownA_ok (dm_at Γ C tk (ok_Number_add Γ TB) (by decide) (by decide) rfl kn_Number_add rfl 27 rfl) (nu_at Γ C 28 rfl) (nta_at Γ C 26 rfl) (dm_at Γ C tk (ok_Number_radd Γ TB) (by decide) (by decide) rfl kn_Number_radd rfl 62 rfl) (nfa_at Γ C 61 rfl).1 (nfa_at Γ C 61 rfl).2 (by decide))) (se_var (sl_at C 1 "_law_number" (by decide +kernel))) (se_var (sl_at C 2 "_law_odd" (by decide +kernel)))))) sb_nil) (sb_cons (ss_if (st_cmp (cmp_ok (ru_at C) noO_ok) rfl (SE.sl (se_var (sl_at C 0 "_law_way" (by decide +kernel)))) (SE.sl se_lit)) (sb_one (ss_ret (se_binP (bopP_ok (ownA_ok (dm_at Γ C tk (ok_Number_add Γ TB) (by decide) (by decide) rfl kn_Number_add rfl 27 rfl) (nu_at Γ C 28 rfl) (nta_at Γ C 26 rfl) (dm_at Γ C tk (ok_Number_radd Γ TB) (by decide) (by decide) rfl kn_Number_radd rfl 62 rfl) (nfa_at Γ C 61 rfl).1 (nfa_at Γ C 61 rfl).2 (by decide))) (se_var (sl_at C 2 "_law_odd" (by decide +kernel))) (se_var (sl_at C 1 "_law_number" (by decide +kernel)))))) sb_nil) (sb_cons (ss_if (st_cmp (cmp_ok (ru_at C) noO_ok) rfl (SE.sl (se_var (sl_at C 0 "_law_way" (by decide +kernel)))) (SE.sl se_lit)) (sb_one (ss_ret (se_binP (bopP_ok (ownA_ok (dm_at Γ C tk (ok_Number_sub Γ TB) (by decide) (by decide) rfl kn_Number_sub rfl 29 rfl) (nu_at Γ C 30 rfl) (nta_at Γ C 63 rfl) (dm_at Γ C tk (ok_Number_rsub Γ TB) (by decide) (by decide) rfl kn_Number_rsub rfl 65 rfl) (nfa_at Γ C 64 rfl).1 (nfa_at Γ C 64 rfl).2 (by decide))) (se_var (sl_at C 1 "_law_number" (by decide +kernel))) (se_var (sl_at C 2 "_law_odd" (by decide +kernel)))))) sb_nil) (sb_cons (ss_if (st_cmp (cmp_ok (ru_at C) noO_ok) rfl (SE.sl (se_var (sl_at C 0 "_law_way" (by decide +kernel)))) (SE.sl se_lit)) (sb_one (ss_ret (se_binP (bopP_ok (ownA_ok (dm_at Γ C tk (ok_Number_sub Γ TB) (by decide) (by decide) rfl kn_Number_sub rfl 29 rfl) (nu_at Γ C 30 rfl) (nta_at Γ C 63 rfl) (dm_at Γ C tk (ok_Number_rsub Γ TB) (by decide) (by decide) rfl kn_Number_rsub rfl 65 rfl) (nfa_at Γ C 64 rfl).1 (nfa_at Γ C 64 rfl).2 (by decide))) (se_var (sl_at C 2 "_law_odd" (by decide +kernel))) (se_var (sl_at C 1 "_law_number" (by decide +kernel)))))) sb_nil) (sb_cons (ss_if (st_cmp (cmp_ok (ru_at C) noO_ok) rfl (SE.sl (se_var (sl_at C 0 "_law_way" (by decide +kernel)))) (SE.sl se_lit)) (sb_one (ss_ret (se_binP (bopP_ok (ownA_ok (dm_at Γ C tk (ok_Number_mul Γ TB) (by decide) (by decide) rfl kn_Number_mul rfl 31 rfl) (nu_at Γ C 32 rfl) (nta_at Γ C 66 rfl) (dm_at Γ C tk (ok_Number_rmul Γ TB) (by decide) (by decide) rfl kn_Number_rmul rfl 35 rfl) (nfa_at Γ C 67 rfl).1 (nfa_at Γ C 67 rfl).2 (by decide))) (se_var (sl_at C 1 "_law_number" (by decide +kernel))) (se_var (sl_at C 2 "_law_odd" (by decide +kernel)))))) sb_nil) (sb_one (ss_ret (se_if (st_cmp (cmp_ok (ru_at C) noO_ok) rfl (SE.sl (se_var (sl_at C 0 "_law_way" (by decide +kernel)))) (SE.sl se_lit)) (se_meth (by intro q hq; simp only [List.mem_cons, List.not_mem_nil, or_false] at hq; rcases hq with rfl; exact mt_at Γ C tk (ok_Number_over Γ TB) (by decide) (by decide) rfl kb_Number_over_2 rfl (fun _ _ => Rps.nil) 38 68 rfl rfl) ⟨rfl, rfl, rfl, .inr ⟨_, _, rfl, rfl⟩⟩ (se_var (sl_at C 1 "_law_number" (by decide +kernel))) (sa_cons (se_var (sl_at C 2 "_law_odd" (by decide +kernel))) sa_nil rfl) sk_nil rfl) (se_binP (bopP_ok (ownA_ok (dm_at Γ C tk (ok_Number_mul Γ TB) (by decide) (by decide) rfl kn_Number_mul rfl 31 rfl) (nu_at Γ C 32 rfl) (nta_at Γ C 66 rfl) (dm_at Γ C tk (ok_Number_rmul Γ TB) (by decide) (by decide) rfl kn_Number_rmul rfl 35 rfl) (nfa_at Γ C 67 rfl).1 (nfa_at Γ C 67 rfl).2 (by decide))) (se_var (sl_at C 2 "_law_odd" (by decide +kernel))) (se_var (sl_at C 1 "_law_number" (by decide +kernel))))))))))))
theorem ok_l_joined (Γ : Gz fa fn K mg) (TB : TbsZ tl K mg base) : OkD false P w K mg base 16 d_l_joined ["_law_way", "_law_number", "_law_odd"] (spM K 3 f_l_joined) := okd_of Γ.says 21 rfl sc_l_joined (by decide) fun C tk po => sb_l_joined Γ TB C tk po
theorem kb_l_one_2 {fd : FuncData} (F : FunZ K d_l_one fd) : Kbz K fd ["_law_spring_here", "_law_things"] 2 [] [0, 1] [] := kbz0 F fun _ _ _ _ _ _ us ws h1 h2 => match us, ws, h1, h2 with | [_, _], [], _, _ => rfl
def c_l_zero : SC := (mRet (mArgs (mConsA (mVar 0) (mConsA (mFz (mLst (mConsA (mLit (.int 0)) (mConsA (mArgs (mConsA (mLit (.int 0)) mNilA) mNilA (wMk "Number" 1 0 [0, 1] [.int 1] f_Number_init)) (mConsA (mArgs (mConsA (mLit (.int 0)) (mConsA (mUn (uneg no1) (mLit (.int 7))) mNilA)) mNilA (wMk "Number" 2 0 [0, 1] [.int 1] f_Number_init)) mNilA))))) mNilA)) mNilA (wArg 2 0 [0, 1] [] f_l_one)))
def f_l_zero : List D → M D := runF c_l_zero 1
theorem sb_l_zero (Γ : Gz fa fn K mg) (TB : TbsZ tl K mg base) (C : Cz P w K mg base 4 X ["_law_spring_here"] (defScope s_l_zero) true false) (tk : Takes X T) (po : PassesOwn (model X.prog X.w) X.A X.env X.xe) : SB T X (defBody s_l_zero) c_l_zero := by
  exact (sb_one (ss_ret (se_callW (fq_at Γ C tk (ok_l_one Γ TB) (by decide) (by decide) rfl kb_l_one_2 rfl (fun _ _ => Rps.nil) 69 rfl (by decide +kernel)) ⟨rfl, rfl, rfl, .inr ⟨_, _, rfl, rfl⟩⟩ (sa_cons (se_var (sl_at C 0 "_law_spring_here" (by decide +kernel))) (sa_cons (SF.se (sf_lst (sa_cons se_lit (sa_cons (se_callW (fk_at Γ C tk (ok_Number_init Γ TB) (by decide) (by decide) rfl kb_Number_init_1 rfl (fun _ _ => Rps.cons (by unfold Rp; rfl) (Rps.nil)) 20 24 rfl rfl (by decide +kernel)) ⟨rfl, rfl, rfl, .inr ⟨_, _, rfl, rfl⟩⟩ (sa_cons se_lit sa_nil rfl) sk_nil) (sa_cons (se_callW (fk_at Γ C tk (ok_Number_init Γ TB) (by decide) (by decide) rfl kb_Number_init_2 rfl (fun _ _ => Rps.cons (by unfold Rp; rfl) (Rps.nil)) 20 24 rfl rfl (by decide +kernel)) ⟨rfl, rfl, rfl, .inr ⟨_, _, rfl, rfl⟩⟩ (sa_cons se_lit (sa_cons (se_un (uneg_ok noU_ok) (SE.sl se_lit)) sa_nil rfl) rfl) sk_nil) sa_nil rfl) rfl) rfl))) sa_nil rfl) rfl) sk_nil)))
theorem ok_l_zero (Γ : Gz fa fn K mg) (TB : TbsZ tl K mg base) : OkD false P w K mg base 5 d_l_zero ["_law_spring_here"] (spM K 1 f_l_zero) := okd_of Γ.says 22 rfl sc_l_zero (by decide) fun C tk po => sb_l_zero Γ TB C tk po
theorem kb_l_joined_3 {fd : FuncData} (F : FunZ K d_l_joined fd) : Kbz K fd ["_law_way", "_law_number", "_law_odd"] 3 [] [0, 1, 2] [] := kbz0 F fun _ _ _ _ _ _ us ws h1 h2 => match us, ws, h1, h2 with | [_, _, _], [], _, _ => rfl
theorem kn_l_told {fd : FuncData} (F : FunZ K d_l_told fd) : Binds K fd ["_law_act"] [] := F.bindsN fun _ _ _ _ _ _ us hl => match us, hl with | [_], _ => rfl
def w_l_right_1 : SC := (mIfS (tB (mBin (cmpD noO .NotEq) (mLam 0 "_law_right" "_law_right.<locals>.<lambda>" 7 [3, 1, 2] g_l_told (mArgs (mConsA (mVar 3) (mConsA (mVar 1) (mConsA (mVar 2) mNilA))) mNilA (wArg 3 0 [0, 1, 2] [] f_l_joined))) (mFz (mLst (mConsA (mLit (.str "number")) (mConsA (mCall (bRepd (own1S "Number" f_Number_repr)) (mConsA (mVar 2) mNilA)) (mConsA (mLit (.bl true)) mNilA))))))) (mRet (mLit (.bl false))) mPass)
def w_l_right_2 : SC := (mIfS (tB (mBin (cmpD noO .NotEq) (mLam 0 "_law_right" "_law_right.<locals>.<lambda>" 7 [3, 1, 4] g_l_told (mArgs (mConsA (mVar 3) (mConsA (mVar 1) (mConsA (mVar 4) mNilA))) mNilA (wArg 3 0 [0, 1, 2] [] f_l_joined))) (mFz (mLst (mConsA (mLit (.str "number")) (mConsA (mCall (bRepd (own1S "Number" f_Number_repr)) (mConsA (mVar 4) mNilA)) (mConsA (mLit (.bl true)) mNilA))))))) (mRet (mLit (.bl false))) mPass)
theorem kb_l_zero_1 {fd : FuncData} (F : FunZ K d_l_zero fd) : Kbz K fd ["_law_spring_here"] 1 [] [0] [] := kbz0 F fun _ _ _ _ _ _ us ws h1 h2 => match us, ws, h1, h2 with | [_], [], _, _ => rfl
theorem kn_Number_pow {fd : FuncData} (F : FunZ K d_Number_pow fd) : Binds K fd ["self", "count"] [] := F.bindsN fun _ _ _ _ _ _ us hl => match us, hl with | [_, _], _ => rfl
def c_l_right : SC := (mSeq (mAsg 1 (mArgs (mConsA (mBin (bop (ownB "Number" f_Number_sub f_Number_rsub) .Sub) (mArgs (mConsA (mVar 0) (mConsA (mLit (.int 41)) mNilA)) mNilA (wArg 2 0 [0, 1] [] f_l_next)) (mLit (.int 20))) (mConsA (mBin (bop (ownB "Number" f_Number_add f_Number_radd) .Add) (mLit (.int 1)) (mArgs (mConsA (mVar 0) (mConsA (mLit (.int 12)) mNilA)) mNilA (wArg 2 0 [0, 1] [] f_l_next))) mNilA)) mNilA (wMk "Number" 2 0 [0, 1] [.int 1] f_Number_init))) (mSeq (mAsg 2 (mArgs (mConsA (mVar 0) (mConsA (mFz (mLst (mConsA (mLit .non) (mConsA (mLit (.bl true)) (mConsA (mLit (.bl false)) (mConsA (mLit (.dic [] [])) mNilA)))))) mNilA)) mNilA (wArg 2 0 [0, 1] [] f_l_one))) (mSeq (mFor (.n 3) (itD (mFz (mLst (mConsA (mLit (.int 0)) (mConsA (mLit (.int 1)) (mConsA (mLit (.int 2)) (mConsA (mLit (.int 3)) (mConsA (mLit (.int 5)) mNilA)))))))) w_l_right_1) (mSeq (mAsg 4 (mArgs (mConsA (mVar 0) (mConsA (mFz (mLst (mConsA (mLit (.str "1")) (mConsA (mLit (.str "")) (mConsA (mLit (.str "1/2")) (mConsA (mTup (mConsA (mLit (.int 1)) mNilA)) (mConsA (mFz (mLst (mConsA (mLit (.int 1)) mNilA))) (mConsA (mTup mNilA) mNilA)))))))) mNilA)) mNilA (wArg 2 0 [0, 1] [] f_l_one))) (mSeq (mFor (.n 3) (itD (mFz (mLst (mConsA (mLit (.int 0)) (mConsA (mLit (.int 2)) (mConsA (mLit (.int 4)) (mConsA (mLit (.int 5)) mNilA))))))) w_l_right_2) (mSeq (mAsg 5 (mArgs (mConsA (mVar 0) (mConsA (mFz (mLst (mConsA (mLit .non) (mConsA (mLit (.bl true)) (mConsA (mLit (.str "1")) (mConsA (mTup (mConsA (mLit (.int 1)) mNilA)) (mConsA (mVar 1) (mConsA (mFz (mLst mNilA)) (mConsA (mLit (.dic [] [])) mNilA))))))))) mNilA)) mNilA (wArg 2 0 [0, 1] [] f_l_one))) (mSeq (mAsgL 6 (mLst (mConsA (mLam 0 "_law_right" "_law_right.<locals>.<lambda>" 7 [5] g_l_told (mArgs (mConsA (mVar 5) (mConsA (mVar 5) mNilA)) mNilA (wMk "Number" 2 0 [0, 1] [.int 1] f_Number_init))) mNilA))) (mSeq (mApp 6 (mLam 0 "_law_right" "_law_right.<locals>.<lambda>" 7 [5] g_l_told (mArgs (mConsA (mLit (.int 3)) (mConsA (mVar 5) mNilA)) mNilA (wMk "Number" 2 0 [0, 1] [.int 1] f_Number_init)))) (mSeq (mApp 6 (mLam 0 "_law_right" "_law_right.<locals>.<lambda>" 7 [5] g_l_told (mArgs (mConsA (mVar 5) (mConsA (mLit (.int 0)) mNilA)) mNilA (wMk "Number" 2 0 [0, 1] [.int 1] f_Number_init)))) (mSeq (mApp 6 (mLam 0 "_law_right" "_law_right.<locals>.<lambda>" 7 [] g_l_told (mArgs (mConsA (mLit (.int 3)) (mConsA (mLit (.int 0)) mNilA)) mNilA (wMk "Number" 2 0 [0, 1] [.int 1] f_Number_init)))) (mSeq (mApp 6 (mLam 0 "_law_right" "_law_right.<locals>.<lambda>" 7 [1, 0] g_l_told (mMeth [("Number", wArg 2 0 [0, 1] [] f_Number_over)] "over" (mVar 1) (mConsA (mArgs (mConsA (mVar 0) mNilA) mNilA (wArg 1 0 [0] [] f_l_zero)) mNilA) mNilA))) (mSeq (mIfS (tB (mBin (cmpD noO .NotEq) (mOwn 6) (mBin (bop (ownB "Number" f_Number_add f_Number_radd) .Add) (mBin (bop (ownB "Number" f_Number_mul f_Number_rmul) .Mult) (mFz (mLst (mConsA (mFz (mLst (mConsA (mLit (.str "count")) (mConsA (mCall (bRepd (own1S "Number" f_Number_repr)) (mConsA (mVar 5) mNilA)) (mConsA (mLit (.bl true)) mNilA))))) mNilA))) (mLit (.int 3))) (mBin (bop (ownB "Number" f_Number_mul f_Number_rmul) .Mult) (mFz (mLst (mConsA (mFz (mLst (mConsA (mLit (.str "zero")) (mConsA (mLit (.str "")) (mConsA (mLit (.bl true)) mNilA))))) mNilA))) (mLit (.int 2)))))) (mRet (mLit (.bl false))) mPass) (mSeq (mIfS (tB (mBin (cmpD noO .NotEq) (mLam 0 "_law_right" "_law_right.<locals>.<lambda>" 7 [1] g_l_told (mBin (bop (ownL "Number" f_Number_pow) .Pow) (mVar 1) (mLit (.int 21)))) (mFz (mLst (mConsA (mLit (.str "count")) (mConsA (mLit (.str "21")) (mConsA (mLit (.bl true)) mNilA))))))) (mRet (mLit (.bl false))) mPass) (mSeq (mIfS (tB (mBin (cmpD noO .NotEq) (mLam 0 "_law_right" "_law_right.<locals>.<lambda>" 7 [1] g_l_told (mBin (bop (ownL "Number" f_Number_pow) .Pow) (mVar 1) (mLit (.int 64)))) (mFz (mLst (mConsA (mLit (.str "count")) (mConsA (mLit (.str "64")) (mConsA (mLit (.bl true)) mNilA))))))) (mRet (mLit (.bl false))) mPass) (mRet (mBin (cmpD noO .Eq) (mFz (mLst (mConsA (mCall (bStr (own1S "Number" f_Number_str)) (mConsA (mBin (bop (ownB "Number" f_Number_sub f_Number_rsub) .Sub) (mVar 1) (mVar 1)) mNilA)) (mConsA (mCall (bStr (own1S "Number" f_Number_str)) (mConsA (mBin (bop (ownL "Number" f_Number_pow) .Pow) (mVar 1) (mLit (.int 0))) mNilA)) (mConsA (mBin ixD (mLam 0 "_law_right" "_law_right.<locals>.<lambda>" 7 [1] g_l_told (mBin (bop (ownB "Number" f_Number_add f_Number_radd) .Add) (mVar 1) (mLit (.int 1)))) (mLit (.int 0))) mNilA))))) (mFz (mLst (mConsA (mLit (.str "0")) (mConsA (mLit (.str "1")) (mConsA (mLit (.str "given")) mNilA)))))))))))))))))))))
def f_l_right : List D → M D := runF c_l_right 7
theorem sb_l_right (Γ : Gz fa fn K mg) (TB : TbsZ tl K mg base) (C : Cz P w K mg base 31 X ["_law_spring_here", "_law_number", "_law_odd", "_law_way", "_law_line", "_law_bad", "_law_told_here"] (defScope s_l_right) true false) (tk : Takes X T) (po : PassesOwn (model X.prog X.w) X.A X.env X.xe) (hcd : X.env.code = .ref (codeAd K (ga K "_law_right"))) (hqs : X.env.qual ++ "<lambda>" = "_law_right.<locals>.<lambda>") : SB T X (defBody s_l_right) c_l_right := by
  exact (sb_cons (ss_asg (sw_at C 1 "_law_number" (by decide +kernel)) rfl (se_callW (fk_at Γ C tk (ok_Number_init Γ TB) (by decide) (by decide) rfl kb_Number_init_2 rfl (fun _ _ => Rps.cons (by unfold Rp; rfl) (Rps.nil)) 20 24 rfl rfl (by decide +kernel)) ⟨rfl, rfl, rfl, .inr ⟨_, _, rfl, rfl⟩⟩ (sa_cons (se_bin (bop_ok (ownB_ok (dm_at Γ C tk (ok_Number_sub Γ TB) (by decide) (by decide) rfl kn_Number_sub rfl 29 rfl) (nu_at Γ C 30 rfl) (dm_at Γ C tk (ok_Number_rsub Γ TB) (by decide) (by decide) rfl kn_Number_rsub rfl 65 rfl) (by decide))) (SE.sl (se_callW (fq_at Γ C tk (ok_l_next Γ TB) (by decide) (by decide) rfl kb_l_next_2 rfl (fun _ _ => Rps.nil) 41 rfl (by decide +kernel)) ⟨rfl, rfl, rfl, .inr ⟨_, _, rfl, rfl⟩⟩ (sa_cons (se_var (sl_at C 0 "_law_spring_here" (by decide +kernel))) (sa_cons se_lit sa_nil rfl) rfl) sk_nil)) (SE.sl se_lit)) (sa_cons (se_bin (bop_ok (ownB_ok (dm_at Γ C tk (ok_Number_add Γ TB) (by decide) (by decide) rfl kn_Number_add rfl 27 rfl) (nu_at Γ C 28 rfl) (dm_at Γ C tk (ok_Number_radd Γ TB) (by decide) (by decide) rfl kn_Number_radd rfl 62 rfl) (by decide))) (SE.sl se_lit) (SE.sl (se_callW (fq_at Γ C tk (ok_l_next Γ TB) (by decide) (by decide) rfl kb_l_next_2 rfl (fun _ _ => Rps.nil) 41 rfl (by decide +kernel)) ⟨rfl, rfl, rfl, .inr ⟨_, _, rfl, rfl⟩⟩ (sa_cons (se_var (sl_at C 0 "_law_spring_here" (by decide +kernel))) (sa_cons se_lit sa_nil rfl) rfl) sk_nil))) sa_nil rfl) rfl) sk_nil)) (sb_cons (ss_asg (sw_at C 2 "_law_odd" (by decide +kernel)) rfl (se_callW (fq_at Γ C tk (ok_l_one Γ TB) (by decide) (by decide) rfl kb_l_one_2 rfl (fun _ _ => Rps.nil) 69 rfl (by decide +kernel)) ⟨rfl, rfl, rfl, .inr ⟨_, _, rfl, rfl⟩⟩ (sa_cons (se_var (sl_at C 0 "_law_spring_here" (by decide +kernel))) (sa_cons (SF.se (sf_lst (sa_cons se_non (sa_cons se_bl (sa_cons se_bl (sa_cons se_dic0 sa_nil rfl) rfl) rfl) rfl))) sa_nil rfl) rfl) sk_nil)) (sb_cons (ss_for po (C.calm rfl) (fun _ => rfl) (si_val (SF.se (sf_lst (sa_cons se_lit (sa_cons se_lit (sa_cons se_lit (sa_cons se_lit (sa_cons se_lit sa_nil rfl) rfl) rfl) rfl) rfl)))) (tg_n (sw_at C 3 "_law_way" (by decide +kernel))) (sb_one (ss_if (st_cmp (cmp_ok (ru_at C) noO_ok) rfl (SE.sl (se_lam Γ (tb_at TB 0 rfl) C tk hcd hqs rfl (oh_l_told Γ TB) (by decide) rfl kn_l_told 71 rfl (by decide +kernel) (by decide +kernel) rfl (fun _ _ _ _ _ => rfl) (j := 30) rfl (fun Cl1 tl1 pl1 => (se_callW (fq_at Γ Cl1 tl1 (ok_l_joined Γ TB) (by decide) (by decide) rfl kb_l_joined_3 rfl (fun _ _ => Rps.nil) 70 rfl (by decide +kernel)) ⟨rfl, rfl, rfl, .inr ⟨_, _, rfl, rfl⟩⟩ (sa_cons (se_var (sl_at Cl1 3 "_law_way" (by decide +kernel))) (sa_cons (se_var (sl_at Cl1 1 "_law_number" (by decide +kernel))) (sa_cons (se_var (sl_at Cl1 2 "_law_odd" (by decide +kernel))) sa_nil rfl) rfl) rfl) sk_nil)) (by decide))) (SE.sl (SF.se (sf_lst (sa_cons se_str (sa_cons (se_callB (fb_b (repd_ok C.gd (ru_at C) (ownRepr_ok (dm_at Γ C tk (ok_Number_repr Γ TB) (by decide) (by decide) rfl kn_Number_repr rfl 56 rfl))) (bn_at Γ C 58 rfl (by decide +kernel) (by decide) (by decide +kernel))) rfl rfl (sla_cons (SE.sl (se_var (sl_at C 2 "_law_odd" (by decide +kernel)))) sla_nil rfl)) (sa_cons se_bl sa_nil rfl) rfl) rfl))))) (sb_one (ss_ret se_bl)) sb_nil))) (sb_cons (ss_asg (sw_at C 4 "_law_line" (by decide +kernel)) rfl (se_callW (fq_at Γ C tk (ok_l_one Γ TB) (by decide) (by decide) rfl kb_l_one_2 rfl (fun _ _ => Rps.nil) 69 rfl (by decide +kernel)) ⟨rfl, rfl, rfl, .inr ⟨_, _, rfl, rfl⟩⟩ (sa_cons (se_var (sl_at C 0 "_law_spring_here" (by decide +kernel))) (sa_cons (SF.se (sf_lst (sa_cons se_str (sa_cons se_str (sa_cons se_str (sa_cons (se_tup (sa_cons se_lit sa_nil rfl)) (sa_cons (SF.se (sf_lst (sa_cons se_lit sa_nil rfl))) (sa_cons (se_tup sa_nil) sa_nil rfl) rfl) rfl) rfl) rfl) rfl))) sa_nil rfl) rfl) sk_nil)) (sb_cons (ss_for po (C.calm rfl) (fun _ => rfl) (si_val (SF.se (sf_lst (sa_cons se_lit (sa_cons se_lit (sa_cons se_lit (sa_cons se_lit sa_nil rfl) rfl) rfl) rfl)))) (tg_n (sw_at C 3 "_law_way" (by decide +kernel))) (sb_one (ss_if (st_cmp (cmp_ok (ru_at C) noO_ok) rfl (SE.sl (se_lam Γ (tb_at TB 0 rfl) C tk hcd hqs rfl (oh_l_told Γ TB) (by decide) rfl kn_l_told 71 rfl (by decide +kernel) (by decide +kernel) rfl (fun _ _ _ _ _ => rfl) (j := 30) rfl (fun Cl2 tl2 pl2 => (se_callW (fq_at Γ Cl2 tl2 (ok_l_joined Γ TB) (by decide) (by decide) rfl kb_l_joined_3 rfl (fun _ _ => Rps.nil) 70 rfl (by decide +kernel)) ⟨rfl, rfl, rfl, .inr ⟨_, _, rfl, rfl⟩⟩ (sa_cons (se_var (sl_at Cl2 3 "_law_way" (by decide +kernel))) (sa_cons (se_var (sl_at Cl2 1 "_law_number" (by decide +kernel))) (sa_cons (se_var (sl_at Cl2 4 "_law_line" (by decide +kernel))) sa_nil rfl) rfl) rfl) sk_nil)) (by decide))) (SE.sl (SF.se (sf_lst (sa_cons se_str (sa_cons (se_callB (fb_b (repd_ok C.gd (ru_at C) (ownRepr_ok (dm_at Γ C tk (ok_Number_repr Γ TB) (by decide) (by decide) rfl kn_Number_repr rfl 56 rfl))) (bn_at Γ C 58 rfl (by decide +kernel) (by decide) (by decide +kernel))) rfl rfl (sla_cons (SE.sl (se_var (sl_at C 4 "_law_line" (by decide +kernel)))) sla_nil rfl)) (sa_cons se_bl sa_nil rfl) rfl) rfl))))) (sb_one (ss_ret se_bl)) sb_nil))) (sb_cons (ss_asg (sw_at C 5 "_law_bad" (by decide +kernel)) rfl (se_callW (fq_at Γ C tk (ok_l_one Γ TB) (by decide) (by decide) rfl kb_l_one_2 rfl (fun _ _ => Rps.nil) 69 rfl (by decide +kernel)) ⟨rfl, rfl, rfl, .inr ⟨_, _, rfl, rfl⟩⟩ (sa_cons (se_var (sl_at C 0 "_law_spring_here" (by decide +kernel))) (sa_cons (SF.se (sf_lst (sa_cons se_non (sa_cons se_bl (sa_cons se_str (sa_cons (se_tup (sa_cons se_lit sa_nil rfl)) (sa_cons (se_var (sl_at C 1 "_law_number" (by decide +kernel))) (sa_cons (SF.se (sf_lst sa_nil)) (sa_cons se_dic0 sa_nil rfl) rfl) rfl) rfl) rfl) rfl) rfl))) sa_nil rfl) rfl) sk_nil)) (sb_cons (ss_asgL (sw_at C 6 "_law_told_here" (by decide +kernel)) rfl (sf_lst (sa_cons (se_lam Γ (tb_at TB 0 rfl) C tk hcd hqs rfl (oh_l_told Γ TB) (by decide) rfl kn_l_told 71 rfl (by decide +kernel) (by decide +kernel) rfl (fun _ _ _ _ _ => rfl) (j := 30) rfl (fun Cl3 tl3 pl3 => (se_callW (fk_at Γ Cl3 tl3 (ok_Number_init Γ TB) (by decide) (by decide) rfl kb_Number_init_2 rfl (fun _ _ => Rps.cons (by unfold Rp; rfl) (Rps.nil)) 20 24 rfl rfl (by decide +kernel)) ⟨rfl, rfl, rfl, .inr ⟨_, _, rfl, rfl⟩⟩ (sa_cons (se_var (sl_at Cl3 5 "_law_bad" (by decide +kernel))) (sa_cons (se_var (sl_at Cl3 5 "_law_bad" (by decide +kernel))) sa_nil rfl) rfl) sk_nil)) (by decide)) sa_nil rfl))) (sb_cons (ss_app (sl_at C 6 "_law_told_here" (by decide +kernel)) rfl rfl rfl rfl rfl (se_lam Γ (tb_at TB 0 rfl) C tk hcd hqs rfl (oh_l_told Γ TB) (by decide) rfl kn_l_told 71 rfl (by decide +kernel) (by decide +kernel) rfl (fun _ _ _ _ _ => rfl) (j := 30) rfl (fun Cl4 tl4 pl4 => (se_callW (fk_at Γ Cl4 tl4 (ok_Number_init Γ TB) (by decide) (by decide) rfl kb_Number_init_2 rfl (fun _ _ => Rps.cons (by unfold Rp; rfl) (Rps.nil)) 20 24 rfl rfl (by decide +kernel)) ⟨rfl, rfl, rfl, .inr ⟨_, _, rfl, rfl⟩⟩ (sa_cons se_lit (sa_cons (se_var (sl_at Cl4 5 "_law_bad" (by decide +kernel))) sa_nil rfl) rfl) sk_nil)) (by decide))) (sb_cons (ss_app (sl_at C 6 "_law_told_here" (by decide +kernel)) rfl rfl rfl rfl rfl (se_lam Γ (tb_at TB 0 rfl) C tk hcd hqs rfl (oh_l_told Γ TB) (by decide) rfl kn_l_told 71 rfl (by decide +kernel) (by decide +kernel) rfl (fun _ _ _ _ _ => rfl) (j := 30) rfl (fun Cl5 tl5 pl5 => (se_callW (fk_at Γ Cl5 tl5 (ok_Number_init Γ TB) (by decide) (by decide) rfl kb_Number_init_2 rfl (fun _ _ => Rps.cons (by unfold Rp; rfl) (Rps.nil)) 20 24 rfl rfl (by decide +kernel)) ⟨rfl, rfl, rfl, .inr ⟨_, _, rfl, rfl⟩⟩ (sa_cons (se_var (sl_at Cl5 5 "_law_bad" (by decide +kernel))) (sa_cons se_lit sa_nil rfl) rfl) sk_nil)) (by decide))) (sb_cons (ss_app (sl_at C 6 "_law_told_here" (by decide +kernel)) rfl rfl rfl rfl rfl (se_lam Γ (tb_at TB 0 rfl) C tk hcd hqs rfl (oh_l_told Γ TB) (by decide) rfl kn_l_told 71 rfl (by decide +kernel) (by decide +kernel) rfl (fun _ _ _ _ _ => rfl) (j := 30) rfl (fun Cl6 tl6 pl6 => (se_callW (fk_at Γ Cl6 tl6 (ok_Number_init Γ TB) (by decide) (by decide) rfl kb_Number_init_2 rfl (fun _ _ => Rps.cons (by unfold Rp; rfl) (Rps.nil)) 20 24 rfl rfl (by decide +kernel)) ⟨rfl, rfl, rfl, .inr ⟨_, _, rfl, rfl⟩⟩ (sa_cons se_lit (sa_cons se_lit sa_nil rfl) rfl) sk_nil)) (by decide))) (sb_cons (ss_app (sl_at C 6 "_law_told_here" (by decide +kernel)) rfl rfl rfl rfl rfl (se_lam Γ (tb_at TB 0 rfl) C tk hcd hqs rfl (oh_l_told Γ TB) (by decide) rfl kn_l_told 71 rfl (by decide +kernel) (by decide +kernel) rfl (fun _ _ _ _ _ => rfl) (j := 30) rfl (fun Cl7 tl7 pl7 => (se_meth (by intro q hq; simp only [List.mem_cons, List.not_mem_nil, or_false] at hq; rcases hq with rfl; exact mt_at Γ Cl7 tl7 (ok_Number_over Γ TB) (by decide) (by decide) rfl kb_Number_over_2 rfl (fun _ _ => Rps.nil) 38 68 rfl rfl) ⟨rfl, rfl, rfl, .inr ⟨_, _, rfl, rfl⟩⟩ (se_var (sl_at Cl7 1 "_law_number" (by decide +kernel))) (sa_cons (se_callW (fq_at Γ Cl7 tl7 (ok_l_zero Γ TB) (by decide) (by decide) rfl kb_l_zero_1 rfl (fun _ _ => Rps.nil) 72 rfl (by decide +kernel)) ⟨rfl, rfl, rfl, .inr ⟨_, _, rfl, rfl⟩⟩ (sa_cons (se_var (sl_at Cl7 0 "_law_spring_here" (by decide +kernel))) sa_nil rfl) sk_nil) sa_nil rfl) sk_nil rfl)) (by decide))) (sb_cons (ss_if (st_cmp (cmp_ok (ru_at C) noO_ok) rfl (sl_own (sl_at C 6 "_law_told_here" (by decide +kernel))) (SE.sl (se_bin (bop_ok (ownB_ok (dm_at Γ C tk (ok_Number_add Γ TB) (by decide) (by decide) rfl kn_Number_add rfl 27 rfl) (nu_at Γ C 28 rfl) (dm_at Γ C tk (ok_Number_radd Γ TB) (by decide) (by decide) rfl kn_Number_radd rfl 62 rfl) (by decide))) (SE.sl (se_bin (bop_ok (ownB_ok (dm_at Γ C tk (ok_Number_mul Γ TB) (by decide) (by decide) rfl kn_Number_mul rfl 31 rfl) (nu_at Γ C 32 rfl) (dm_at Γ C tk (ok_Number_rmul Γ TB) (by decide) (by decide) rfl kn_Number_rmul rfl 35 rfl) (by decide))) (SE.sl (SF.se (sf_lst (sa_cons (SF.se (sf_lst (sa_cons se_str (sa_cons (se_callB (fb_b (repd_ok C.gd (ru_at C) (ownRepr_ok (dm_at Γ C tk (ok_Number_repr Γ TB) (by decide) (by decide) rfl kn_Number_repr rfl 56 rfl))) (bn_at Γ C 58 rfl (by decide +kernel) (by decide) (by decide +kernel))) rfl rfl (sla_cons (SE.sl (se_var (sl_at C 5 "_law_bad" (by decide +kernel)))) sla_nil rfl)) (sa_cons se_bl sa_nil rfl) rfl) rfl))) sa_nil rfl)))) (SE.sl se_lit))) (SE.sl (se_bin (bop_ok (ownB_ok (dm_at Γ C tk (ok_Number_mul Γ TB) (by decide) (by decide) rfl kn_Number_mul rfl 31 rfl) (nu_at Γ C 32 rfl) (dm_at Γ C tk (ok_Number_rmul Γ TB) (by decide) (by decide) rfl kn_Number_rmul rfl 35 rfl) (by decide))) (SE.sl (SF.se (sf_lst (sa_cons (SF.se (sf_lst (sa_cons se_str (sa_cons se_str (sa_cons se_bl sa_nil rfl) rfl) rfl))) sa_nil rfl)))) (SE.sl se_lit)))))) (sb_one (ss_ret se_bl)) sb_nil) (sb_cons (ss_if (st_cmp (cmp_ok (ru_at C) noO_ok) rfl (SE.sl (se_lam Γ (tb_at TB 0 rfl) C tk hcd hqs rfl (oh_l_told Γ TB) (by decide) rfl kn_l_told 71 rfl (by decide +kernel) (by decide +kernel) rfl (fun _ _ _ _ _ => rfl) (j := 30) rfl (fun Cl8 tl8 pl8 => (se_bin (bop_ok (ownL_ok (dm_at Γ Cl8 tl8 (ok_Number_pow Γ TB) (by decide) (by decide) rfl kn_Number_pow rfl 73 rfl) (nu_at Γ Cl8 74 rfl))) (SE.sl (se_var (sl_at Cl8 1 "_law_number" (by decide +kernel)))) (SE.sl se_lit))) (by decide))) (SE.sl (SF.se (sf_lst (sa_cons se_str (sa_cons se_str (sa_cons se_bl sa_nil rfl) rfl) rfl))))) (sb_one (ss_ret se_bl)) sb_nil) (sb_cons (ss_if (st_cmp (cmp_ok (ru_at C) noO_ok) rfl (SE.sl (se_lam Γ (tb_at TB 0 rfl) C tk hcd hqs rfl (oh_l_told Γ TB) (by decide) rfl kn_l_told 71 rfl (by decide +kernel) (by decide +kernel) rfl (fun _ _ _ _ _ => rfl) (j := 30) rfl (fun Cl9 tl9 pl9 => (se_bin (bop_ok (ownL_ok (dm_at Γ Cl9 tl9 (ok_Number_pow Γ TB) (by decide) (by decide) rfl kn_Number_pow rfl 73 rfl) (nu_at Γ Cl9 74 rfl))) (SE.sl (se_var (sl_at Cl9 1 "_law_number" (by decide +kernel)))) (SE.sl se_lit))) (by decide))) (SE.sl (SF.se (sf_lst (sa_cons se_str (sa_cons se_str (sa_cons se_bl sa_nil rfl) rfl) rfl))))) (sb_one (ss_ret se_bl)) sb_nil) (sb_one (ss_ret (se_cmp (cmp_ok (ru_at C) noO_ok) rfl (SE.sl (SF.se (sf_lst (sa_cons (se_callB (fb_t (str_ok (ownStr_ok (dm_at Γ C tk (ok_Number_str Γ TB) (by decide) (by decide) rfl kn_Number_str rfl 36 rfl))) (bn_at Γ C 75 rfl (by decide +kernel) (by decide) (by decide +kernel))) rfl rfl (sla_cons (SE.sl (se_bin (bop_ok (ownB_ok (dm_at Γ C tk (ok_Number_sub Γ TB) (by decide) (by decide) rfl kn_Number_sub rfl 29 rfl) (nu_at Γ C 30 rfl) (dm_at Γ C tk (ok_Number_rsub Γ TB) (by decide) (by decide) rfl kn_Number_rsub rfl 65 rfl) (by decide))) (SE.sl (se_var (sl_at C 1 "_law_number" (by decide +kernel)))) (SE.sl (se_var (sl_at C 1 "_law_number" (by decide +kernel)))))) sla_nil rfl)) (sa_cons (se_callB (fb_t (str_ok (ownStr_ok (dm_at Γ C tk (ok_Number_str Γ TB) (by decide) (by decide) rfl kn_Number_str rfl 36 rfl))) (bn_at Γ C 75 rfl (by decide +kernel) (by decide) (by decide +kernel))) rfl rfl (sla_cons (SE.sl (se_bin (bop_ok (ownL_ok (dm_at Γ C tk (ok_Number_pow Γ TB) (by decide) (by decide) rfl kn_Number_pow rfl 73 rfl) (nu_at Γ C 74 rfl))) (SE.sl (se_var (sl_at C 1 "_law_number" (by decide +kernel)))) (SE.sl se_lit))) sla_nil rfl)) (sa_cons (se_ix (ru_at C) (fun _ _ => rfl) (SE.sl (se_lam Γ (tb_at TB 0 rfl) C tk hcd hqs rfl (oh_l_told Γ TB) (by decide) rfl kn_l_told 71 rfl (by decide +kernel) (by decide +kernel) rfl (fun _ _ _ _ _ => rfl) (j := 30) rfl (fun Cl10 tl10 pl10 => (se_bin (bop_ok (ownB_ok (dm_at Γ Cl10 tl10 (ok_Number_add Γ TB) (by decide) (by decide) rfl kn_Number_add rfl 27 rfl) (nu_at Γ Cl10 28 rfl) (dm_at Γ Cl10 tl10 (ok_Number_radd Γ TB) (by decide) (by decide) rfl kn_Number_radd rfl 62 rfl) (by decide))) (SE.sl (se_var (sl_at Cl10 1 "_law_number" (by decide +kernel)))) (SE.sl se_lit))) (by decide))) (SE.sl se_lit)) sa_nil rfl) rfl) rfl)))) (SE.sl (SF.se (sf_lst (sa_cons se_str (sa_cons se_str (sa_cons se_str sa_nil rfl) rfl) rfl)))))))))))))))))))))
theorem ok_l_right (Γ : Gz fa fn K mg) (TB : TbsZ tl K mg base) : OkD false P w K mg base 32 d_l_right ["_law_spring_here"] (spM K 1 f_l_right) := okl_of Γ.says 23 rfl sc_l_right (by decide) rfl (by decide +kernel) fun C tk po hcd hqs => sb_l_right Γ TB C tk po hcd hqs
theorem kb_l_spring_2 {fd : FuncData} (F : FunZ K d_l_spring fd) : Kbz K fd ["_law_script", "_law_spot"] 2 [] [0, 1] [] := kbz0 F fun _ _ _ _ _ _ us ws h1 h2 => match us, ws, h1, h2 with | [_, _], [], _, _ => rfl
theorem kb_l_right_1 {fd : FuncData} (F : FunZ K d_l_right fd) : Kbz K fd ["_law_spring_here"] 1 [] [0] [] := kbz0 F fun _ _ _ _ _ _ us ws h1 h2 => match us, ws, h1, h2 with | [_], [], _, _ => rfl
def w_law_1 : SC := (mSeq (mAsg 2 (mArgs (mConsA (mVar 0) (mConsA (mVar 1) mNilA)) mNilA (wArg 2 0 [0, 1] [] f_l_spring))) (mIfS (notB (tB (mCall bAll (mConsA (mFz (mLc [3] (itR1 (mLit (.int 2))) (.n 3) yesE (mArgs (mConsA (mVar 2) mNilA) mNilA (wArg 1 0 [0] [] f_l_right)))) mNilA)))) (mRet (mLit (.bl false))) mPass))
def c_law : SC := (mSeq (mFor (.n 1) (itR1 (mCall bMax (mConsA (mLit (.int 3)) (mConsA (mCall bMin (mConsA (mCall bLen (mConsA (mVar 0) mNilA)) (mConsA (mLit (.int 6)) mNilA))) mNilA)))) w_law_1) (mRet (mLit (.bl true))))
def f_law : List D → M D := runF c_law 4
theorem sb_law (Γ : Gz fa fn K mg) (TB : TbsZ tl K mg base) (C : Cz P w K mg base 32 X ["_law_script", "_law_spot", "_law_spring_here", "_law_turn"] (defScope s_law) true false) (tk : Takes X T) (po : PassesOwn (model X.prog X.w) X.A X.env X.xe) : SB T X (defBody s_law) c_law := by
  exact (sb_cons (ss_for po (C.calm rfl) (fun _ => rfl) (si_rng1 (bn_at Γ C 34 rfl (by decide +kernel) (by decide) (by decide +kernel)) rfl (se_callB (fb_b (max_ok (C.calm rfl)) (bn_at Γ C 76 rfl (by decide +kernel) (by decide) (by decide +kernel))) rfl rfl (sla_cons (SE.sl se_lit) (sla_cons (SE.sl (se_callB (fb_b (min_ok (C.calm rfl)) (bn_at Γ C 40 rfl (by decide +kernel) (by decide) (by decide +kernel))) rfl rfl (sla_cons (SE.sl (se_callB (fb_b (len_ok) (bn_at Γ C 39 rfl (by decide +kernel) (by decide) (by decide +kernel))) rfl rfl (sla_cons (SE.sl (se_var (sl_at C 0 "_law_script" (by decide +kernel)))) sla_nil rfl))) (sla_cons (SE.sl se_lit) sla_nil rfl) rfl))) sla_nil rfl) rfl))) (tg_n (sw_at C 1 "_law_spot" (by decide +kernel))) (sb_cons (ss_asg (sw_at C 2 "_law_spring_here" (by decide +kernel)) rfl (se_callW (fq_at Γ C tk (ok_l_spring Γ TB) (by decide) (by decide) rfl kb_l_spring_2 rfl (fun _ _ => Rps.nil) 77 rfl (by decide +kernel)) ⟨rfl, rfl, rfl, .inr ⟨_, _, rfl, rfl⟩⟩ (sa_cons (se_var (sl_at C 0 "_law_script" (by decide +kernel))) (sa_cons (se_var (sl_at C 1 "_law_spot" (by decide +kernel))) sa_nil rfl) rfl) sk_nil)) (sb_one (ss_if (st_not (st_val (fun _ => rfl) (se_callB (fb_b (all_ok (C.calm rfl)) (bn_at Γ C 79 rfl (by decide +kernel) (by decide) (by decide +kernel))) rfl rfl (sla_cons (SE.sl (SF.se (sf_lc (C.calm rfl) (nd_at C) (own := [("_law_turn", 3)]) (blkok_at C (by decide +kernel)) (fun _ => rfl) (si_rng1 (bn_at Γ C 34 rfl (by decide +kernel) (by decide) (by decide +kernel)) rfl se_lit) (by decide) (by intro Y hY; have C1 := blk_at C hY; exact (tg_n (sw_at C1 3 "_law_turn" (by decide +kernel)))) (by intro Y hY; have C1 := blk_at C hY; exact .inl ⟨rfl, rfl⟩) (by intro Y hY; have C1 := blk_at C hY; exact (se_callW (fq_at Γ C1 take0 (ok_l_right Γ TB) (by decide) (by decide) rfl kb_l_right_1 rfl (fun _ _ => Rps.nil) 78 rfl (by decide +kernel)) ⟨rfl, rfl, rfl, .inr ⟨_, _, rfl, rfl⟩⟩ (sa_cons (se_var (sl_at C1 2 "_law_spring_here" (by decide +kernel))) sa_nil rfl) sk_nil))))) sla_nil rfl)))) (sb_one (ss_ret se_bl)) sb_nil)))) (sb_one (ss_ret se_bl)))
theorem ok_law (Γ : Gz fa fn K mg) (TB : TbsZ tl K mg base) : OkD false P w K mg base 33 d_law ["_law_script"] (spM K 1 f_law) := okd_of Γ.says 24 rfl sc_law (by decide) fun C tk po => sb_law Γ TB C tk po
end
-- ilaw 80 lvl 33
end Z
set_option Elab.async false
set_option linter.all false
set_option maxRecDepth 100000
namespace Z
open PySem PySem.Spec PyProof.Rows L2 G
/-- a spring: the cell i holds three numbers -/
def Spg (h : Store) (i : Nat) : Prop := ∃ a b c : Int, h[i]? = some (.lst [.int a, .int b, .int c]) ∧ 0 ≤ a ∧ 0 ≤ b ∧ b < 1000000007
theorem e_next1 (h : Store) (i : Nat) (a b c m : Int) (hh : h[i]? = some (.lst [.int a, .int b, .int c])) (hm : 0 < m) (hm2 : m.natAbs.log2 < 9000) (ha : 0 < a) : f_l_next [.cell i, .int m] h = .ok (.int (a.fmod m)) (h.set i (.lst [.int (a.fdiv m), .int b, .int (c + 1)])) := by
  have m0 : m ≠ 0 := by omega
  unfold f_l_next runF c_l_next
  simp [mSeq, mSetC_eq, mIfS, mBin, mVar, mLit, mAsg, mRet, mPass, mCall, mConsA, mNilA, z_c0 hh, z_c1 hh, z_c2 hh, z_s2 hh, z_c0 (hset hh), z_s0 (hset hh), ha, z_mod m0, z_div m0 hm2]
theorem e_next2 (h : Store) (i : Nat) (b c m : Int) (hh : h[i]? = some (.lst [.int 0, .int b, .int c])) (hm : 0 < m) (hb : 0 ≤ b) (hb2 : b < 1000000007) : ∃ y : Int, 0 ≤ y ∧ y < 1000000007 ∧ f_l_next [.cell i, .int m] h = .ok (.int ((y.fdiv 127).fmod m)) (h.set i (.lst [.int 0, .int y, .int (c + 1)])) := by
  have m0 : m ≠ 0 := by omega
  have k1 : (b.natAbs < 2 ^ 64 ∨ (b.fmod 65521 + 4099).natAbs < 2 ^ 64 ∨ b.natAbs.log2 + (b.fmod 65521 + 4099).natAbs.log2 < 1000000) := .inl (by omega)
  have k2 : ((7919 : Int).natAbs < 2 ^ 64 ∨ (c + 1).natAbs < 2 ^ 64 ∨ (7919 : Int).natAbs.log2 + (c + 1).natAbs.log2 < 1000000) := .inl (by decide)
  refine ⟨(b * (b.fmod 65521 + 4099) + 7919 * (c + 1) + 5).fmod 1000000007, ?_, ?_, ?_⟩
  · rw [Int.fmod_eq_emod_of_nonneg _ (by decide)]; exact Int.emod_nonneg _ (by decide)
  · rw [Int.fmod_eq_emod_of_nonneg _ (by decide)]; exact Int.emod_lt_of_pos _ (by decide)
  unfold f_l_next runF c_l_next
  simp [mSeq, mSetC_eq, mIfS, mBin, mVar, mLit, mAsg, mRet, mPass, mCall, mConsA, mNilA, z_c0 hh, z_c1 hh, z_c2 hh, z_s2 hh, z_c0 (hset hh), z_c1 (hset hh), z_c2 (hset hh), z_s1 (hset hh), z_mod m0, z_mod (i := _) (j := (65521 : Int)) (by decide), z_mod (j := (1000000007 : Int)) (by decide), z_mul k1, z_mul k2, z_div (j := (127 : Int)) (by decide) (by decide), List.set_set]
theorem e_next (h : Store) (i : Nat) (m : Int) (hs : Spg h i) (hm : 0 < m) (hm2 : m.natAbs.log2 < 9000) : ∃ (d : Int) (cc : Ce), 0 ≤ d ∧ d < m ∧ f_l_next [.cell i, .int m] h = .ok (.int d) (h.set i cc) ∧ Spg (h.set i cc) i := by
  obtain ⟨a, b, c, hh, ha, hb, hb2⟩ := hs
  by_cases h0 : 0 < a
  · refine ⟨_, _, ?_, ?_, e_next1 h i a b c m hh hm hm2 h0, _, _, _, hset hh, ?_, hb, hb2⟩
    · rw [Int.fmod_eq_emod_of_nonneg _ (by omega)]; exact Int.emod_nonneg _ (by omega)
    · rw [Int.fmod_eq_emod_of_nonneg _ (by omega)]; exact Int.emod_lt_of_pos _ hm
    · rw [Int.fdiv_eq_ediv_of_nonneg _ (by omega)]; exact Int.ediv_nonneg ha (by omega)
  · obtain rfl : a = 0 := by omega
    obtain ⟨y, y1, y2, e⟩ := e_next2 h i b c m hh hm hb hb2
    refine ⟨_, _, ?_, ?_, e, _, _, _, hset hh, by omega, y1, y2⟩
    · rw [Int.fmod_eq_emod_of_nonneg _ (by omega)]; exact Int.emod_nonneg _ (by omega)
    · rw [Int.fmod_eq_emod_of_nonneg _ (by omega)]; exact Int.emod_lt_of_pos _ hm
/-- the next draw -/
theorem s_next {h : Store} {i : Nat} {m : Int} (hs : Spg h i) (hm : 0 < m) (hm2 : m.natAbs.log2 < 9000) : Sat (f_l_next [.cell i, .int m] h) fun d h' => ∃ x : Int, d = .int x ∧ 0 ≤ x ∧ x < m ∧ Spg h' i := by
  obtain ⟨d, cc, h1, h2, e, hs'⟩ := e_next h i m hs hm hm2
  exact Sat.of e ⟨d, rfl, h1, h2, hs'⟩
theorem z_pow {O : D → D → M D} {h : Store} {i j : Int} (hj : 0 ≤ j ∧ j ≤ 1000000) (hi : i.natAbs < 2 ^ 64) : bop O .Pow (.int i) (.int j) h = .ok (.int (i ^ j.toNat)) h := by
  simp only [bop, intOp, if_pos (And.intro hj.1 (And.intro hj.2 hi))]
theorem rngD_get {n : Int} {i : Nat} {d : D} (hd : (rngD 0 n)[i]? = some d) : d = .int i ∧ (i : Int) < n := by
  have hi := (List.getElem?_eq_some_iff.mp hd).1
  have hl : i < n.toNat := by simpa [rngD] using hi
  have : (rngD 0 n)[i]? = some (.int i) := by simp [rngD, hl]
  rw [this] at hd
  cases hd
  exact ⟨rfl, by omega⟩
section
variable {h : Store} {ns : List Int}
theorem ix_scr {i : Nat} (hi : i < ns.length) : ixD (.scr ns) (.int i) h = .ok (.int ns[i]) h := z_ixs (by
  unfold atI ixN
  simp [hi])
theorem spg_new {a b : Int} (ha : 0 ≤ a) : Spg (h ++ [.lst [.int a, .int (b.fmod 1000000007), .int 0]]) h.length :=
  ⟨a, b.fmod 1000000007, 0, by simp, ha, by rw [Int.fmod_eq_emod_of_nonneg _ (by decide)]; exact Int.emod_nonneg _ (by decide), by rw [Int.fmod_eq_emod_of_nonneg _ (by decide)]; exact Int.emod_lt_of_pos _ (by decide)⟩
theorem s_spring {k : Nat} (hl : ns.length ≤ 63) (hk : k < 63) : Sat (f_l_spring [.scr ns, .int k] h) fun d h' => ∃ i, d = .cell i ∧ Spg h' i := by
  obtain ⟨ε2, h2, e, e0, m, x, rfl⟩ := loopF_inv0 (tg := .n 3) (s := w_l_spring_1) (ds := rngD 0 (if (5 : Int) < ns.length then 5 else ns.length)) (ε := [.pu (.scr ns), .pu (.int k), .pu (.int 23), .un, .un, .un]) (h := h)
    (I := fun _ ε h' => h' = h ∧ ∃ (m : Int) (x : Slt), ε = [.pu (.scr ns), .pu (.int k), .pu (.int m), x, .un, .un]) ⟨rfl, _, _, rfl⟩ (by
      rintro i d ε h' hi ⟨rfl, m, x, rfl⟩
      obtain ⟨rfl, hi2⟩ := rngD_get hi
      have hi3 : i < ns.length := by split at hi2 <;> omega
      refine ⟨_, asT_n, _, h', .inl ?_, rfl, (m * 8191 + ns[i] * (i + 3) + 17).fmod 1000000007, .pu (.int i), rfl⟩
      unfold w_l_spring_1
      simp (disch := first | omega | (simp only [len_app, str_len, emp_len, String.reduceToList, List.length_cons, List.length_nil, List.length_append, List.length_map, Nat.reduceAdd, Nat.reducePow, Nat.reduceLeDiff, Nat.le_refl, and_self, or_true, true_or]; omega) | (simp only [len_app, str_len, emp_len, String.reduceToList, List.length_cons, List.length_nil, List.length_append, List.length_map, Nat.reduceAdd, Nat.reducePow, Nat.reduceLeDiff, Nat.le_refl, and_self, or_true, true_or]; done)) [ix_scr hi3, z_mulS, z_mod])
  subst e0
  have c1 : -1000000 ≤ (if (5 : Int) < ns.length then (5 : Int) else ns.length) ∧ (if (5 : Int) < ns.length then (5 : Int) else ns.length) ≤ 1000000 := by split <;> omega
  have fin : ∀ (o : Int), Sat (finD (R.seq (mAsg 5 (mIf (orB (tB (mBin (cmpD noO .Lt) (mVar 4) (mLit (.int 0)))) (tB (mBin (cmpD noO .GtE) (mVar 4) (mBin (bop noO .Pow) (mLit (.int 10)) (mLit (.int 18)))))) (mCall (bAbs no1) (mConsA (mVar 4) mNilA)) (mLit (.int 0))) [.pu (.scr ns), .pu (.int k), .pu (.int m), x, .pu (.int o), .un] h2) (mRet (mCel (mLst (mConsA (mVar 5) (mConsA (mBin (bop noO .Mod) (mCall bInt (mConsA (mBin (bop noO .Add) (mBin (bop noO .Add) (mBin (bop noO .Mult) (mVar 4) (mLit (.int 2654435))) (mVar 2)) (mLit (.int 12345))) mNilA)) (mLit (.int 1000000007))) (mConsA (mLit (.int 0)) mNilA)))))))) fun d h' => ∃ i, d = .cell i ∧ Spg h' i := by
    intro o
    have iteR : ∀ (c : Prop) [Decidable c] (a b : Int) (h : Store), (if c then R.ok (D.int a) h else R.ok (D.int b) h) = R.ok (D.int (if c then a else b)) h := fun c _ a b h => by split <;> rfl
    have z18 : bop noO .Pow (.int 10) (.int 18) h2 = .ok (.int 1000000000000000000) h2 := z_pow (by decide) (by decide)
    by_cases o1 : o < 0
    · simp [o1, z18, z_mulS, z_mod]
      exact spg_new (by omega)
    · by_cases o2 : 1000000000000000000 ≤ o
      · simp [o1, o2, z18, z_mulS, z_mod]
        exact spg_new (by omega)
      · simp [o1, o2, z18, z_mulS, z_mod]
        exact spg_new (by omega)
  unfold f_l_spring c_l_spring
  rw [runF_eq]
  simp only [List.map_cons, List.map_nil, List.length_cons, List.length_nil, Nat.reduceAdd, Nat.reduceSub, List.replicate_succ, List.replicate_zero, List.cons_append, List.nil_append]
  by_cases hk2 : k < ns.length
  · have hk3 : (k : Int) < ns.length := by omega
    have F := fin ns[k]
    simp [-q_asg, c1, e]
    rw [q_asg]
    simp [-q_asg, e, c1]
    rw [q_asg]
    simp [-q_asg, hk3, ix_scr hk2]
    simpa [-q_asg] using F
  · have hk3 : ¬ ((k : Int) < ns.length) := by omega
    have F := fin (m * 31 + k * 7)
    simp [-q_asg, c1, e]
    rw [q_asg]
    simp [-q_asg, e, c1]
    rw [q_asg]
    simp [-q_asg, hk3, z_mulS]
    simpa [-q_asg] using F
end
section
variable {h : Store} {ns : List Int}
/-- .. behind the tables t -/
def Spt (t h : Store) (i : Nat) : Prop := Spg h i ∧ t <+: h ∧ t.length ≤ i
theorem Spt.s {t h : Store} {i : Nat} (s : Spt t h i) : Spg h i := s.1
theorem Spt.tab {t h : Store} {i j : Nat} {c : Ce} (s : Spt t h i) (e : t[j]? = some c) : h[j]? = some c := by
  obtain ⟨r, rfl⟩ := s.2.1
  rw [List.getElem?_append_left (List.getElem?_eq_some_iff.mp e).1]; exact e
theorem s_nextT {t h : Store} {i : Nat} {m : Int} (hs : Spt t h i) (hm : 0 < m) (hm2 : m.natAbs.log2 < 9000) : Sat (f_l_next [.cell i, .int m] h) fun d h' => ∃ x : Int, d = .int x ∧ 0 ≤ x ∧ x < m ∧ Spt t h' i := by
  obtain ⟨d, cc, h1, h2, e, hs'⟩ := e_next h i m hs.1 hm hm2
  refine Sat.of e ⟨d, rfl, h1, h2, hs', ?_, hs.2.2⟩
  obtain ⟨r, rfl⟩ := hs.2.1
  rw [List.set_append_right _ _ hs.2.2]
  exact List.prefix_append _ _
theorem spt_new {t h : Store} {a b : Int} (ht : t <+: h) (ha : 0 ≤ a) : Spt t (h ++ [.lst [.int a, .int (b.fmod 1000000007), .int 0]]) h.length := by
  refine ⟨spg_new ha, ?_, ht.length_le⟩
  obtain ⟨r, rfl⟩ := ht
  rw [List.append_assoc]
  exact List.prefix_append _ _
theorem s_springT {t : Store} {k : Nat} (ht : t <+: h) (hl : ns.length ≤ 63) (hk : k < 63) : Sat (f_l_spring [.scr ns, .int k] h) fun d h' => ∃ i, d = .cell i ∧ Spt t h' i := by
  obtain ⟨ε2, h2, e, e0, m, x, rfl⟩ := loopF_inv0 (tg := .n 3) (s := w_l_spring_1) (ds := rngD 0 (if (5 : Int) < ns.length then 5 else ns.length)) (ε := [.pu (.scr ns), .pu (.int k), .pu (.int 23), .un, .un, .un]) (h := h)
    (I := fun _ ε h' => h' = h ∧ ∃ (m : Int) (x : Slt), ε = [.pu (.scr ns), .pu (.int k), .pu (.int m), x, .un, .un]) ⟨rfl, _, _, rfl⟩ (by
      rintro i d ε h' hi ⟨rfl, m, x, rfl⟩
      obtain ⟨rfl, hi2⟩ := rngD_get hi
      have hi3 : i < ns.length := by split at hi2 <;> omega
      refine ⟨_, asT_n, _, h', .inl ?_, rfl, (m * 8191 + ns[i] * (i + 3) + 17).fmod 1000000007, .pu (.int i), rfl⟩
      unfold w_l_spring_1
      simp (disch := first | omega | (simp only [len_app, str_len, emp_len, String.reduceToList, List.length_cons, List.length_nil, List.length_append, List.length_map, Nat.reduceAdd, Nat.reducePow, Nat.reduceLeDiff, Nat.le_refl, and_self, or_true, true_or]; omega) | (simp only [len_app, str_len, emp_len, String.reduceToList, List.length_cons, List.length_nil, List.length_append, List.length_map, Nat.reduceAdd, Nat.reducePow, Nat.reduceLeDiff, Nat.le_refl, and_self, or_true, true_or]; done)) [ix_scr hi3, z_mulS, z_mod])
  subst e0
  have c1 : -1000000 ≤ (if (5 : Int) < ns.length then (5 : Int) else ns.length) ∧ (if (5 : Int) < ns.length then (5 : Int) else ns.length) ≤ 1000000 := by split <;> omega
  have fin : ∀ (o : Int), Sat (finD (R.seq (mAsg 5 (mIf (orB (tB (mBin (cmpD noO .Lt) (mVar 4) (mLit (.int 0)))) (tB (mBin (cmpD noO .GtE) (mVar 4) (mBin (bop noO .Pow) (mLit (.int 10)) (mLit (.int 18)))))) (mCall (bAbs no1) (mConsA (mVar 4) mNilA)) (mLit (.int 0))) [.pu (.scr ns), .pu (.int k), .pu (.int m), x, .pu (.int o), .un] h2) (mRet (mCel (mLst (mConsA (mVar 5) (mConsA (mBin (bop noO .Mod) (mCall bInt (mConsA (mBin (bop noO .Add) (mBin (bop noO .Add) (mBin (bop noO .Mult) (mVar 4) (mLit (.int 2654435))) (mVar 2)) (mLit (.int 12345))) mNilA)) (mLit (.int 1000000007))) (mConsA (mLit (.int 0)) mNilA)))))))) fun d h' => ∃ i, d = .cell i ∧ Spt t h' i := by
    intro o
    have iteR : ∀ (c : Prop) [Decidable c] (a b : Int) (h : Store), (if c then R.ok (D.int a) h else R.ok (D.int b) h) = R.ok (D.int (if c then a else b)) h := fun c _ a b h => by split <;> rfl
    have z18 : bop noO .Pow (.int 10) (.int 18) h2 = .ok (.int 1000000000000000000) h2 := z_pow (by decide) (by decide)
    by_cases o1 : o < 0
    · simp [o1, z18, z_mulS, z_mod]
      exact spt_new ht (by omega)
    · by_cases o2 : 1000000000000000000 ≤ o
      · simp [o1, o2, z18, z_mulS, z_mod]
        exact spt_new ht (by omega)
      · simp [o1, o2, z18, z_mulS, z_mod]
        exact spt_new ht (by omega)
  unfold f_l_spring c_l_spring
  rw [runF_eq]
  simp only [List.map_cons, List.map_nil, List.length_cons, List.length_nil, Nat.reduceAdd, Nat.reduceSub, List.replicate_succ, List.replicate_zero, List.cons_append, List.nil_append]
  by_cases hk2 : k < ns.length
  · have hk3 : (k : Int) < ns.length := by omega
    have F := fin ns[k]
    simp [-q_asg, c1, e]
    rw [q_asg]
    simp [-q_asg, e, c1]
    rw [q_asg]
    simp [-q_asg, hk3, ix_scr hk2]
    simpa [-q_asg] using F
  · have hk3 : ¬ ((k : Int) < ns.length) := by omega
    have F := fin (m * 31 + k * 7)
    simp [-q_asg, c1, e]
    rw [q_asg]
    simp [-q_asg, e, c1]
    rw [q_asg]
    simp [-q_asg, hk3, z_mulS]
    simpa [-q_asg] using F
end
abbrev nob (x y : Int) : D := .obj "Number" ["top", "bottom"] [.int x, .int y]
abbrev frc (x y : Int) : D := .tup [.int x, .int y]
theorem seqR {a b : SC} {ε ε' : Ev} {h h' : Store} (e : a ε h = .ok (.nx ε') h') : mSeq a b ε h = b ε' h' := by
  unfold mSeq; rw [e]; rfl
/-- Euclid's loop -/
theorem euclid {t : Ev → M Bool} {body : SC} {E : Int → Int → Ev} {h : Store} (ht : ∀ a b, t (E a b) h = .ok (!decide (b = 0)) h) (hb : ∀ a b, b ≠ 0 → body (E a b) h = .ok (.nx (E b (a.fmod b))) h) : ∀ (k n : Nat) (a b : Int), 0 ≤ a → 0 ≤ b → b < 2 ^ k → 2 * k + 1 ≤ n → loopW t body n (E a b) h = .ok (.nx (E (Int.gcd a b) 0)) h := by
  have stop : ∀ (n : Nat) (a : Int), 0 ≤ a → 1 ≤ n → loopW t body n (E a 0) h = .ok (.nx (E (Int.gcd a 0) 0)) h := by
    intro n a ha hn
    obtain ⟨n, rfl⟩ := Nat.exists_eq_add_of_le hn
    rw [Nat.add_comm]
    have e : (Int.gcd a 0 : Int) = a := by rw [Int.gcd_zero_right]; omega
    rw [e]
    unfold loopW
    rw [ht]
    rfl
  have go : ∀ (n : Nat) (a b : Int), b ≠ 0 → loopW t body (n + 1) (E a b) h = loopW t body n (E b (a.fmod b)) h := by
    intro n a b h0
    conv => lhs; unfold loopW
    rw [ht]
    simp only [h0, decide_false, Bool.not_false, up_ok, if_true, hb a b h0]
  intro k
  induction k with
  | zero =>
    intro n a b ha hb0 hb1 hn
    obtain rfl : b = 0 := by simp at hb1; omega
    exact stop n a ha (by omega)
  | succ k ih =>
    intro n a b ha hb0 hb1 hn
    by_cases h0 : b = 0
    · subst h0; exact stop n a ha (by omega)
    · obtain ⟨n, rfl⟩ : ∃ m, n = m + 2 := ⟨n - 2, by omega⟩
      have p2 : (2 : Int) ^ (k + 1) = 2 * 2 ^ k := by rw [Int.pow_succ]; omega
      have r1 : a.fmod b = a % b := Int.fmod_eq_emod_of_nonneg _ hb0
      have r2 := Int.emod_nonneg a h0
      have r3 := Int.emod_lt_of_pos a (show 0 < b by omega)
      rw [go _ a b h0, r1, ← gcdm ha hb0]
      by_cases h1 : a % b = 0
      · rw [h1]; exact stop _ _ hb0 (by omega)
      · have s1 : b.fmod (a % b) = b % (a % b) := Int.fmod_eq_emod_of_nonneg _ r2
        rw [go _ b (a % b) h1, s1, ← gcdm hb0 r2]
        refine ih n _ _ r2 (Int.emod_nonneg _ h1) ?_ (by omega)
        have q := Int.emod_add_mul_ediv b (a % b)
        have q2 := Int.emod_lt_of_pos b (show 0 < a % b by omega)
        have q3 : 1 ≤ b / (a % b) := by
          rw [Int.le_ediv_iff_mul_le (by omega)]; omega
        have q4 : a % b ≤ a % b * (b / (a % b)) := by
          have := Int.mul_le_mul_of_nonneg_left q3 r2
          omega
        omega
theorem e_gcd (k : Nat) (hk : k ≤ 100000) (a b : Int) (h : Store) (ha : 0 ≤ a) (hb : 0 ≤ b) (hb2 : b < 2 ^ k) : f_common_divisor [.int a, .int b] h = .ok (.int (Int.gcd a b)) h := by
  have e := euclid (h := h) (E := fun a b => [.pu (.int a), .pu (.int b)]) (t := tB (mBin (cmpD noO .NotEq) (mVar 1) (mLit (.int 0)))) (body := w_common_divisor_1) (fun a b => rfl) (fun a b h0 => by simp [w_common_divisor_1, mParS, mPv, mPn, mVar, mBin, z_mod h0, puts]) k 400000 a b ha hb hb2 (by omega)
  unfold f_common_divisor runF c_common_divisor
  simp only [mSeq, List.map_cons, List.map_nil, List.length_cons, List.length_nil, Nat.reduceAdd, Nat.sub_self, List.replicate_zero, List.append_nil]
  simp only [e, seq_nx]
  rfl
theorem p2lt {n k : Nat} (h : n < 2 ^ k) : ((n : Nat) : Int) < 2 ^ k := by
  have := Int.ofNat_lt.mpr h
  rwa [Int.natCast_pow] at this
theorem gcd_log {k : Nat} (hk : k ≤ 8000) {a b : Int} (h0 : b ≠ 0) (bb : b.natAbs < 2 ^ k) : (Int.gcd a b).log2 < 9000 := by
  have h1 : Int.gcd a b ≤ b.natAbs := Nat.le_of_dvd (by omega) (Nat.gcd_dvd_right _ _)
  have h2 : (Int.gcd a b).log2 < k + 1 := lgb (Nat.lt_of_le_of_lt h1 (Nat.lt_trans bb (Nat.pow_lt_pow_right (by decide) (Nat.lt_succ_self k)))) (by omega)
  omega
theorem e_init (k : Nat) (hk : k ≤ 8000) (a b : Int) (h : Store) (h0 : b ≠ 0) (bb : b.natAbs < 2 ^ k) : f_Number_init [.int a, .int b] h = .ok (["top", "bottom"], [.int (low a b).1, .int (low a b).2]) h := by
  have g : Int.gcd (if a < 0 then -a else a) (if b < 0 then -b else b) = Int.gcd a b := by
    by_cases ha : a < 0 <;> by_cases hb : b < 0 <;> simp [ha, hb]
  have e := e_gcd k (by omega) (if a < 0 then -a else a) (if b < 0 then -b else b) h (by split <;> omega) (by split <;> omega) (by have := p2lt bb; split <;> omega)
  rw [g] at e
  have dl : (dv a b).natAbs.log2 < 9000 := by rw [dv_abs]; exact gcd_log hk h0 bb
  have d0 := dv_ne (a := a) h0
  unfold f_Number_init runI c_Number_init
  simp only [List.map_cons, List.map_nil, List.length_cons, List.length_nil, Nat.reduceAdd, Nat.reduceSub, List.replicate_succ, List.replicate_zero, List.cons_append, List.nil_append]
  have s1 : ∀ x y : SC, mIfS (notB (tB (mArgs (mConsA (mVar 1) mNilA) mNilA (wArg 1 0 [0] [] f_is_integer)))) x y [.oo "Number" [] [], .pu (.int a), .pu (.int b), .un] h = y [.oo "Number" [] [], .pu (.int a), .pu (.int b), .un] h := fun _ _ => rfl
  have s2 : ∀ x y : SC, mIfS (notB (tB (mArgs (mConsA (mVar 2) mNilA) mNilA (wArg 1 0 [0] [] f_is_integer)))) x y [.oo "Number" [] [], .pu (.int a), .pu (.int b), .un] h = y [.oo "Number" [] [], .pu (.int a), .pu (.int b), .un] h := fun _ _ => rfl
  have s3 : ∀ x y : SC, mIfS (tB (mBin (cmpD noO .Eq) (mVar 2) (mLit (.int 0)))) x y [.oo "Number" [] [], .pu (.int a), .pu (.int b), .un] h = y [.oo "Number" [] [], .pu (.int a), .pu (.int b), .un] h := fun _ _ => by simp [mIfS, mBin, mVar, mLit, h0]
  have s4 : mAsg 3 (mArgs (mConsA (mCall (bAbs no1) (mConsA (mVar 1) mNilA)) (mConsA (mCall (bAbs no1) (mConsA (mVar 2) mNilA)) mNilA)) mNilA (wArg 2 0 [0, 1] [] f_common_divisor)) [.oo "Number" [] [], .pu (.int a), .pu (.int b), .un] h = .ok (.nx [.oo "Number" [] [], .pu (.int a), .pu (.int b), .pu (.int (Int.gcd a b))]) h := by
    have : (mArgs (mConsA (mCall (bAbs no1) (mConsA (mVar 1) mNilA)) (mConsA (mCall (bAbs no1) (mConsA (mVar 2) mNilA)) mNilA)) mNilA (wArg 2 0 [0, 1] [] f_common_divisor)) [.oo "Number" [] [], .pu (.int a), .pu (.int b), .un] h = f_common_divisor [.int (if a < 0 then -a else a), .int (if b < 0 then -b else b)] h := rfl
    unfold mAsg
    rw [this, e]
    rfl
  have s5 : mIfS (tB (mBin (cmpD noO .Lt) (mVar 2) (mLit (.int 0)))) (mAsg 3 (mBin (bop noO .Sub) (mLit (.int 0)) (mVar 3))) mPass [.oo "Number" [] [], .pu (.int a), .pu (.int b), .pu (.int (Int.gcd a b))] h = .ok (.nx [.oo "Number" [] [], .pu (.int a), .pu (.int b), .pu (.int (dv a b))]) h := by
    by_cases hb : b < 0 <;> simp [mIfS, mBin, mVar, mLit, mAsg, mPass, dv, hb]
  have s6 : mSetF ["Number"] 0 "top" (mBin (bop noO .FloorDiv) (mVar 1) (mVar 3)) [.oo "Number" [] [], .pu (.int a), .pu (.int b), .pu (.int (dv a b))] h = .ok (.nx [.oo "Number" ["top"] [.int (low a b).1], .pu (.int a), .pu (.int b), .pu (.int (dv a b))]) h := by
    simp [mSetF, mBin, mVar, z_div d0 dl, low, putX]
  have s7 : mSetF ["Number"] 0 "bottom" (mBin (bop noO .FloorDiv) (mVar 2) (mVar 3)) [.oo "Number" ["top"] [.int (low a b).1], .pu (.int a), .pu (.int b), .pu (.int (dv a b))] h = .ok (.nx [.oo "Number" ["top", "bottom"] [.int (low a b).1, .int (low a b).2], .pu (.int a), .pu (.int b), .pu (.int (dv a b))]) h := by
    have ne : ¬ (("top" : Str) = "bottom") := by decide +kernel
    simp [mSetF, mBin, mVar, z_div d0 dl, low, putX, ne]
  rw [seqR (s1 _ _ |>.trans rfl), seqR (s2 _ _ |>.trans rfl), seqR (s3 _ _ |>.trans rfl), seqR s4, seqR s5, seqR s6, s7]
  rfl
abbrev nlo (p : Int × Int) : D := nob p.1 p.2
abbrev flo (p : Int × Int) : D := frc p.1 p.2
theorem e_mk2 (k : Nat) (hk : k ≤ 8000) (a b : Int) (h : Store) (h0 : b ≠ 0) (bb : b.natAbs < 2 ^ k) : wMk "Number" 2 0 [0, 1] [.int 1] f_Number_init [.int a, .int b] [] h = .ok (nlo (low a b)) h := by
  have : wMk "Number" 2 0 [0, 1] [.int 1] f_Number_init [.int a, .int b] [] h = mkM "Number" f_Number_init [.int a, .int b] h := rfl
  rw [this]
  unfold mkM
  rw [e_init k hk a b h h0 bb]
  rfl
theorem e_mk1 (a : Int) (h : Store) : wMk "Number" 1 0 [0, 1] [.int 1] f_Number_init [.int a] [] h = .ok (nob a 1) h := by
  have : wMk "Number" 1 0 [0, 1] [.int 1] f_Number_init [.int a] [] h = mkM "Number" f_Number_init [.int a, .int 1] h := rfl
  rw [this]
  unfold mkM
  rw [e_init 1 (by decide) a 1 h (by decide) (by decide), low_one]
  rfl
/-! ### what is refused -/
abbrev tab4 : Store := tabs0 tl
def kN (d : D) : Bool := match d with
  | .non => true
  | .bl _ => true
  | .str _ => true
  | .tup _ => true
  | .lst _ => true
  | .dic _ _ => true
  | _ => false
section
variable {x y : Int} {h : Store} {d : D}
theorem x_numof (hd : kN d = true) : f_number_of [d] h = .ex "NotANumber" ["value"] [d] h := by
  cases d <;> first | rfl | cases hd
theorem x_add (hd : kN d = true) : f_Number_add [nob x y, d] h = .ex "NotANumber" ["value"] [d] h := by
  cases d <;> first | rfl | cases hd
theorem x_sub (hd : kN d = true) : f_Number_sub [nob x y, d] h = .ex "NotANumber" ["value"] [d] h := by
  cases d <;> first | rfl | cases hd
theorem x_mul (hd : kN d = true) : f_Number_mul [nob x y, d] h = .ex "NotANumber" ["value"] [d] h := by
  cases d <;> first | rfl | cases hd
theorem x_over (hd : kN d = true) : f_Number_over [nob x y, d] h = .ex "NotANumber" ["value"] [d] h := by
  cases d <;> first | rfl | cases hd
theorem x_radd (hd : kN d = true) : f_Number_radd [nob x y, d] h = .ex "NotANumber" ["value"] [d] h := by
  cases d <;> first | rfl | cases hd
theorem x_rsub (hd : kN d = true) : f_Number_rsub [nob x y, d] h = .ex "NotANumber" ["value"] [d] h := by
  cases d <;> first | rfl | cases hd
theorem x_join (hd : kN d = true) : ∀ w ∈ ([0, 2, 4, 5] : List Int), f_l_joined [.int w, nob x y, d] h = .ex "NotANumber" ["value"] [d] h := by
  intro w hw
  simp only [List.mem_cons, List.not_mem_nil, or_false] at hw
  rcases hw with rfl | rfl | rfl | rfl <;> cases d <;> first | rfl | cases hd
theorem x_join2 : ∀ d ∈ ([.non, .bl true, .bl false, .dic [] []] : List D), ∀ w ∈ ([0, 1, 2, 3, 5] : List Int), f_l_joined [.int w, nob x y, d] h = .ex "NotANumber" ["value"] [d] h := by
  intro d hd w hw
  simp only [List.mem_cons, List.not_mem_nil, or_false] at hd hw
  rcases hd with rfl | rfl | rfl | rfl <;> rcases hw with rfl | rfl | rfl | rfl | rfl <;> rfl
end
@[simp] theorem q_actP {act : M D} {ε : Ev} {h : Store} : mActP act ε h = act h := rfl
@[simp] theorem q_lam {t n : Nat} {x q : Str} {cap : List Nat} {g : M D → M D} {ce : EM} {ε : Ev} {h : Store} (e : h[t]? = some (.tab x q)) : mLam t x q n cap g ce ε h = (match capD ε cap with
  | some ds => g (ce (capE n cap ds)) h
  | none => .no) := by
  unfold mLam
  rw [e]
  simp only [and_self, if_true] <;> rfl
section
variable {x y : Int} {h h' : Store} {d : D} {act : M D} {r : Str}
theorem t_num (ha : act h = .ex "NotANumber" ["value"] [d] h') (hr : ∀ h, bRepd (own1S "Number" f_Number_repr) [d] h = .ok (.str r) h) : g_l_told act h = .ok (.lst [.str "number", .str r, .bl true]) h' := by
  unfold g_l_told b_l_told
  rw [runF_eq]
  simp [ha, hr]
theorem t_cnt (ha : act h = .ex "InvalidCount" ["value"] [d] h') (hr : ∀ h, bRepd (own1S "Number" f_Number_repr) [d] h = .ok (.str r) h) : g_l_told act h = .ok (.lst [.str "count", .str r, .bl true]) h' := by
  unfold g_l_told b_l_told
  rw [runF_eq]
  simp [ha, hr]
theorem t_zero (ha : act h = .ex "DividedByZero" [] [] h') : g_l_told act h = .ok (.lst [.str "zero", .str "", .bl true]) h' := by
  unfold g_l_told b_l_told
  rw [runF_eq]
  simp [ha]
theorem t_giv (ha : act h = .ok d h') : g_l_told act h = .ok (.lst [.str "given", .str "", .bl true]) h' := by
  unfold g_l_told b_l_told
  rw [runF_eq]
  simp [ha]
end
end Z
set_option Elab.async false
set_option linter.all false
set_option maxRecDepth 100000
namespace Z
open PySem PySem.Spec PyProof.Rows L2 G
/-- small parts -/
def SmN (x y : Int) : Prop := x.natAbs < 2 ^ 60 ∧ 0 < y ∧ y.natAbs < 2 ^ 60
abbrev rpN : D → M D := fun d => bRepd (own1S "Number" f_Number_repr) [d]
section
variable {x y : Int} {h : Store}
theorem s_str (s : SmN x y) : ∃ z : Str, z.length ≤ 200 ∧ PyData.strOk z = true ∧ ∀ h, f_Number_str [nob x y] h = .ok (.str z) h := by
  have l1 : x.natAbs.log2 < 60 := lgb s.1 (by decide)
  have l2 : y.natAbs.log2 < 60 := lgb s.2.2 (by decide)
  have l3 := len_itx (by decide) l1
  have l4 := len_itx (by decide) l2
  by_cases h1 : y = 1
  · refine ⟨itx x, by omega, so_itx x, fun h => ?_⟩
    unfold f_Number_str c_Number_str
    rw [runF_eq]
    simp (disch := first | omega | (simp only [len_app, str_len, emp_len, String.reduceToList, List.length_cons, List.length_nil, List.length_append, List.length_map, Nat.reduceAdd, Nat.reducePow, Nat.reduceLeDiff, Nat.le_refl, and_self, or_true, true_or]; omega) | (simp only [len_app, str_len, emp_len, String.reduceToList, List.length_cons, List.length_nil, List.length_append, List.length_map, Nat.reduceAdd, Nat.reducePow, Nat.reduceLeDiff, Nat.le_refl, and_self, or_true, true_or]; done)) [h1]
  · refine ⟨itx x ++ "/" ++ itx y, by simp only [len_app, str_len, String.reduceToList, List.length_cons, List.length_nil]; omega, so_app (so_app (so_itx x) (by decide +kernel)) (so_itx y), fun h => ?_⟩
    unfold f_Number_str c_Number_str
    rw [runF_eq]
    simp (disch := first | omega | (simp only [len_app, str_len, emp_len, String.reduceToList, List.length_cons, List.length_nil, List.length_append, List.length_map, Nat.reduceAdd, Nat.reducePow, Nat.reduceLeDiff, Nat.le_refl, and_self, or_true, true_or]; omega) | (simp only [len_app, str_len, emp_len, String.reduceToList, List.length_cons, List.length_nil, List.length_append, List.length_map, Nat.reduceAdd, Nat.reducePow, Nat.reduceLeDiff, Nat.le_refl, and_self, or_true, true_or]; done)) [h1]
theorem r_num (s : SmN x y) : ∃ r : Str, PyData.strOk r = true ∧ ∀ h, rpN (nob x y) h = .ok (.str r) h := by
  obtain ⟨z, hz, zo, e⟩ := s_str s
  refine ⟨"Number(" ++ z ++ ")", so_app (so_app (by decide +kernel) zo) (by decide +kernel), fun h => ?_⟩
  have e2 : f_Number_repr [nob x y] h = .ok (.str ("Number(" ++ z ++ ")")) h := by
    unfold f_Number_repr c_Number_repr
    rw [runF_eq]
    simp (disch := first | omega | (simp only [len_app, str_len, emp_len, String.reduceToList, List.length_cons, List.length_nil, List.length_append, List.length_map, Nat.reduceAdd, Nat.reducePow, Nat.reduceLeDiff, Nat.le_refl, and_self, or_true, true_or]; omega) | (simp only [len_app, str_len, emp_len, String.reduceToList, List.length_cons, List.length_nil, List.length_append, List.length_map, Nat.reduceAdd, Nat.reducePow, Nat.reduceLeDiff, Nat.le_refl, and_self, or_true, true_or]; done)) [own1S, own1, e]
  unfold rpN bRepd bRepr own1S own1
  simp [e2]
theorem ok3 {a r : Str} (ha : PyData.strOk a = true) (hr : PyData.strOk r = true) : okD (.lst [.str a, .str r, .bl true]) = true := by
  have e : pl (.lst [.str a, .str r, .bl true]) = true := by simp [pl, pls, ha, hr]
  unfold okD
  rw [e]
  rfl
theorem ok5 {r : Str} (hr : PyData.strOk r = true) : okD (.lst [.lst [.str "count", .str r, .bl true], .lst [.str "count", .str r, .bl true], .lst [.str "count", .str r, .bl true], .lst [.str "zero", .str "", .bl true], .lst [.str "zero", .str "", .bl true]]) = true := by
  have h1 : PyData.strOk "count" = true := by decide +kernel
  have h2 : PyData.strOk "zero" = true := by decide +kernel
  have h3 : PyData.strOk "" = true := by decide +kernel
  have e : pl (.lst [.lst [.str "count", .str r, .bl true], .lst [.str "count", .str r, .bl true], .lst [.str "count", .str r, .bl true], .lst [.str "zero", .str "", .bl true], .lst [.str "zero", .str "", .bl true]]) = true := by simp [pl, pls, h1, h2, h3, hr]
  unfold okD
  rw [e]
  rfl
end
/-- what is shown of the odd ones -/
def rOk (d : D) : Prop := ∃ r : Str, PyData.strOk r = true ∧ ∀ h, rpN d h = .ok (.str r) h
theorem rOk_of {d : D} (h1 : okR d = true) (h2 : PyData.strOk (py d).shown = true) (h3 : (∀ c ns ds, d ≠ .obj c ns ds) ∧ (∀ ks ds, d ≠ .dic ks ds)) : rOk d := by
  refine ⟨_, h2, fun h => ?_⟩
  cases d with
  | obj c ns ds => exact (h3.1 _ _ _ rfl).elim
  | dic ks ds => exact (h3.2 _ _ rfl).elim
  | _ => simp [rpN, bRepd, bRepr, h1]
theorem r_odd : ∀ d ∈ ([.non, .bl true, .bl false, .dic [] []] : List D), rOk d := by
  intro d hd
  simp only [List.mem_cons, List.not_mem_nil, or_false] at hd
  rcases hd with rfl | rfl | rfl | rfl
  · exact ⟨_, (by decide +kernel : PyData.strOk "None" = true), fun _ => rfl⟩
  · exact ⟨_, (by decide +kernel : PyData.strOk "True" = true), fun _ => rfl⟩
  · exact ⟨_, (by decide +kernel : PyData.strOk "False" = true), fun _ => rfl⟩
  · exact ⟨_, (by decide +kernel : PyData.strOk "{}" = true), fun _ => rfl⟩
abbrev lines4 : List D := [.str "1", .str "", .str "1/2", .tup [.int 1], .lst [.int 1], .tup []]
theorem r_line : ∀ d ∈ lines4, rOk d ∧ kN d = true := by
  intro d hd
  simp only [lines4, List.mem_cons, List.not_mem_nil, or_false] at hd
  rcases hd with rfl | rfl | rfl | rfl | rfl | rfl
  · exact ⟨rOk_of (by decide +kernel) (by decide +kernel) ⟨by simp, by simp⟩, rfl⟩
  · exact ⟨rOk_of (by decide +kernel) (by decide +kernel) ⟨by simp, by simp⟩, rfl⟩
  · exact ⟨rOk_of (by decide +kernel) (by decide +kernel) ⟨by simp, by simp⟩, rfl⟩
  · exact ⟨rOk_of (by decide +kernel) (by decide +kernel) ⟨by simp, by simp⟩, rfl⟩
  · exact ⟨rOk_of (by decide +kernel) (by decide +kernel) ⟨by simp, by simp⟩, rfl⟩
  · exact ⟨rOk_of (by decide +kernel) (by decide +kernel) ⟨by simp, by simp⟩, rfl⟩
abbrev bads4 (x y : Int) : List D := [.non, .bl true, .str "1", .tup [.int 1], nob x y, .lst [], .dic [] []]
theorem r_bad {x y : Int} (s : SmN x y) : ∀ d ∈ bads4 x y, rOk d := by
  intro d hd
  simp only [bads4, List.mem_cons, List.not_mem_nil, or_false] at hd
  rcases hd with rfl | rfl | rfl | rfl | rfl | rfl | rfl
  · exact ⟨_, (by decide +kernel : PyData.strOk "None" = true), fun _ => rfl⟩
  · exact ⟨_, (by decide +kernel : PyData.strOk "True" = true), fun _ => rfl⟩
  · exact rOk_of (by decide +kernel) (by decide +kernel) ⟨by simp, by simp⟩
  · exact rOk_of (by decide +kernel) (by decide +kernel) ⟨by simp, by simp⟩
  · exact r_num s
  · exact rOk_of (by decide +kernel) (by decide +kernel) ⟨by simp, by simp⟩
  · exact ⟨_, (by decide +kernel : PyData.strOk "{}" = true), fun _ => rfl⟩
theorem x_mk {x y : Int} {h : Store} : ∀ d ∈ bads4 x y, wMk "Number" 2 0 [0, 1] [.int 1] f_Number_init [d, d] [] h = .ex "InvalidCount" ["value"] [d] h ∧ wMk "Number" 2 0 [0, 1] [.int 1] f_Number_init [.int 3, d] [] h = .ex "InvalidCount" ["value"] [d] h ∧ wMk "Number" 2 0 [0, 1] [.int 1] f_Number_init [d, .int 0] [] h = .ex "InvalidCount" ["value"] [d] h := by
  intro d hd
  simp only [bads4, List.mem_cons, List.not_mem_nil, or_false] at hd
  rcases hd with rfl | rfl | rfl | rfl | rfl | rfl | rfl <;> exact ⟨rfl, rfl, rfl⟩
theorem x_mk0 {a : Int} {h : Store} : wMk "Number" 2 0 [0, 1] [.int 1] f_Number_init [.int a, .int 0] [] h = .ex "DividedByZero" [] [] h := rfl
theorem x_ov0 {x y : Int} {h : Store} : ∀ d ∈ ([.int 0, nob 0 1] : List D), f_Number_over [nob x y, d] h = .ex "DividedByZero" [] [] h := by
  intro d hd
  have en : f_number_of [d] h = .ok (nob 0 1) h := by
    simp only [List.mem_cons, List.not_mem_nil, or_false] at hd
    rcases hd with rfl | rfl
    · have e := e_mk1 0 h
      unfold f_number_of c_number_of
      rw [runF_eq]
      simp [-q_mk, e, show ∀ h, f_is_number [.int 0] h = .ok (.bl true) h from fun _ => rfl]
    · rfl
  unfold f_Number_over c_Number_over
  rw [runF_eq]
  simp [-q_mk, en, z_mul (i := x) (j := 1) (.inr (.inl (by decide))), z_mul (i := y) (j := 0) (.inr (.inl (by decide))), x_mk0]
theorem x_pow {x y : Int} {h : Store} : ∀ n ∈ ([21, 64] : List Int), f_Number_pow [nob x y, .int n] h = .ex "InvalidCount" ["value"] [.int n] h := by
  intro d hd
  simp only [List.mem_cons, List.not_mem_nil, or_false] at hd
  rcases hd with rfl | rfl <;> rfl
section
variable {h : Store} {i : Nat} {t : Store}
theorem ix_lstA {ds : List D} {x : Int} (h0 : 0 ≤ x) (h1 : x < ds.length) : ∃ d, d ∈ ds ∧ ixD (.lst ds) (.int x) h = .ok d h := by
  have hn : x.toNat < ds.length := by omega
  refine ⟨ds[x.toNat], List.getElem_mem _, ?_⟩
  obtain ⟨n, rfl⟩ := Int.eq_ofNat_of_zero_le h0
  unfold ixD
  simp only [atI, ixN]
  simp at hn
  simp [hn]
theorem s_oneT {ds : List D} (hs : Spt t h i) (h0 : 0 < ds.length) (h1 : ds.length ≤ 1000) : Sat (f_l_one [.cell i, .lst ds] h) fun d h' => d ∈ ds ∧ Spt t h' i := by
  obtain ⟨_, h2, e1, x, rfl, a1, b1, s1⟩ := (s_nextT hs (m := ds.length) (by omega) (Nat.lt_trans (lgb (k := 20) (by simp; omega) (by decide)) (by decide))).ok
  obtain ⟨d, hd, e2⟩ := ix_lstA (h := h2) a1 b1
  refine Sat.of (a := d) (h := h2) ?_ ⟨hd, s1⟩
  unfold f_l_one c_l_one
  rw [runF_eq]
  simp [e1, e2]
end
end Z
set_option Elab.async false
set_option linter.all false
set_option maxRecDepth 100000
namespace Z
open PySem PySem.Spec PyProof.Rows L2 G
theorem tab_at : tab4[0]? = some (.tab "_law_right" "_law_right.<locals>.<lambda>") := by rfl
section
variable {x y : Int} {h : Store} {i : Nat} {a b c s1 s2 s3 s4 s5 s6 : Slt} {d : D}
theorem w_1 (ht : h[0]? = some (.tab "_law_right" "_law_right.<locals>.<lambda>")) {d : D} (hd : d ∈ ([.non, .bl true, .bl false, .dic [] []] : List D)) : ∀ w ∈ ([0, 1, 2, 3, 5] : List Int), w_l_right_1 [s1, .pu (nob x y), .pu d, .pu (.int w), s4, s5, s6] h = .ok (.nx [s1, .pu (nob x y), .pu d, .pu (.int w), s4, s5, s6]) h := by
  intro w hw
  obtain ⟨r, ro, er⟩ := r_odd d hd
  have e := x_join2 (x := x) (y := y) (h := h) d hd w hw
  have et : ∀ act : M D, act h = .ex "NotANumber" ["value"] [d] h → g_l_told act h = .ok (.lst [.str "number", .str r, .bl true]) h := fun act ha => t_num ha er
  have en := z_neX (O := noO) (h := h) (ok3 (a := "number") (by decide +kernel) ro)
  unfold w_l_right_1
  simp [q_lam ht, capD, capE, e, et, er, en]
theorem w_2 (ht : h[0]? = some (.tab "_law_right" "_law_right.<locals>.<lambda>")) {d : D} (hd : d ∈ lines4) : ∀ w ∈ ([0, 2, 4, 5] : List Int), w_l_right_2 [s1, .pu (nob x y), s2, .pu (.int w), .pu d, s5, s6] h = .ok (.nx [s1, .pu (nob x y), s2, .pu (.int w), .pu d, s5, s6]) h := by
  intro w hw
  obtain ⟨⟨r, ro, er⟩, hk⟩ := r_line d hd
  have e := x_join (x := x) (y := y) (h := h) hk w hw
  have et : ∀ act : M D, act h = .ex "NotANumber" ["value"] [d] h → g_l_told act h = .ok (.lst [.str "number", .str r, .bl true]) h := fun act ha => t_num ha er
  have en := z_neX (O := noO) (h := h) (ok3 (a := "number") (by decide +kernel) ro)
  unfold w_l_right_2
  simp [q_lam ht, capD, capE, e, et, er, en]
end
theorem low_sm {a b : Int} (h1 : a.natAbs < 2 ^ 60) (h2 : b.natAbs < 2 ^ 60) (h0 : b ≠ 0) : SmN (low a b).1 (low a b).2 := ⟨Nat.lt_of_le_of_lt (low_le h0).1 h1, low_pos h0, Nat.lt_of_le_of_lt (low_le h0).2 h2⟩
theorem s_zero {h : Store} {i : Nat} {t : Store} (hs : Spt t h i) : Sat (f_l_zero [.cell i] h) fun d h' => d ∈ ([.int 0, nob 0 1] : List D) ∧ Spt t h' i := by
  have e1 := e_mk1 0 h
  have e2 : wMk "Number" 2 0 [0, 1] [.int 1] f_Number_init [.int 0, .int (-7)] [] h = .ok (nob 0 1) h := e_mk2 5 (by decide) 0 (-7) h (by decide) (by decide)
  obtain ⟨d, h2, e3, hd, s2⟩ := (s_oneT (ds := [.int 0, nob 0 1, nob 0 1]) hs (by decide) (by decide)).ok
  refine Sat.of (a := d) (h := h2) ?_ ⟨?_, s2⟩
  · unfold f_l_zero c_l_zero
    rw [runF_eq]
    simp [-q_mk, e1, e2, e3]
  · simp only [List.mem_cons, List.not_mem_nil, or_false] at hd ⊢
    rcases hd with rfl | rfl | rfl <;> simp
theorem e_numof1 (a : Int) (h : Store) : f_number_of [.int a] h = .ok (nob a 1) h := by
  have e := e_mk1 a h
  unfold f_number_of c_number_of
  rw [runF_eq]
  simp [-q_mk, e, show ∀ h, f_is_number [.int a] h = .ok (.bl true) h from fun _ => rfl]
theorem e_numofN (x y : Int) (h : Store) : f_number_of [nob x y] h = .ok (nob x y) h := rfl
theorem mul60 {x y : Int} (h1 : x.natAbs < 2 ^ 60) (h2 : y.natAbs < 2 ^ 60) : (x * y).natAbs < 2 ^ 120 := by
  rw [Int.natAbs_mul, show (2 : Nat) ^ 120 = 2 ^ 60 * 2 ^ 60 from rfl]
  exact Nat.mul_lt_mul'' h1 h2
section
variable {x y : Int} (sm : SmN x y) (h : Store)
include sm in
theorem e_sub0 : f_Number_sub [nob x y, nob x y] h = .ok (nob 0 1) h := by
  have h0 : y * y ≠ 0 := Int.mul_ne_zero (by have := sm.2.1; omega) (by have := sm.2.1; omega)
  have hp : 0 < y * y := Int.mul_pos sm.2.1 sm.2.1
  have em := e_mk2 120 (by decide) 0 (y * y) h h0 (mul60 sm.2.2 sm.2.2)
  have el : low 0 (y * y) = (0, 1) := by
    unfold low dv
    rw [if_neg (by omega), Int.gcd_zero_left]
    have e2 : ((y * y).natAbs : Int) = y * y := by omega
    rw [e2]
    simp [Int.fdiv_self h0]
  rw [el] at em
  unfold f_Number_sub c_Number_sub
  rw [runF_eq]
  have m1 : ∀ h, bop noO .Mult (.int x) (.int y) h = .ok (.int (x * y)) h := fun h => z_mul (.inl (by have := sm.1; omega))
  have m2 : ∀ h, bop noO .Mult (.int y) (.int y) h = .ok (.int (y * y)) h := fun h => z_mul (.inl (by have := sm.2.2; omega))
  simp [-q_mk, e_numofN, m1, m2, em]
theorem e_pow0 : f_Number_pow [nob x y, .int 0] h = .ok (nob 1 1) h := by
  have e := e_mk1 1 h
  unfold f_Number_pow c_Number_pow
  rw [runF_eq]
  simp [-q_mk, e, show ∀ h, f_is_integer [.int 0] h = .ok (.bl true) h from fun _ => rfl, rngD]
include sm in
theorem e_add1 : ∃ d, f_Number_add [nob x y, .int 1] h = .ok d h := by
  have em := e_mk2 120 (by decide) (x * 1 + 1 * y) (y * 1) h (by have := sm.2.1; omega) (by have := sm.2.2; omega)
  refine ⟨nlo (low (x * 1 + 1 * y) (y * 1)), ?_⟩
  unfold f_Number_add c_Number_add
  rw [runF_eq]
  have m1 : ∀ z h, bop noO .Mult (.int z) (.int 1) h = .ok (.int (z * 1)) h := fun z h => z_mul (.inr (.inl (by decide)))
  have m2 : ∀ z h, bop noO .Mult (.int 1) (.int z) h = .ok (.int (1 * z)) h := fun z h => z_mul (.inl (by decide))
  simp [-q_mk, -Int.mul_one, -Int.one_mul, e_numof1, m1, m2, em]
end
theorem e_str01 (h : Store) : f_Number_str [nob 0 1] h = .ok (.str "0") h ∧ f_Number_str [nob 1 1] h = .ok (.str "1") h := by
  constructor
  · unfold f_Number_str c_Number_str
    rw [runF_eq]
    simp [fm_i (i := 0) (show (0 : Int).natAbs.log2 < 1920 by decide), show itx 0 = "0" by decide +kernel]
  · unfold f_Number_str c_Number_str
    rw [runF_eq]
    simp [fm_i (i := 1) (show (1 : Int).natAbs.log2 < 1920 by decide), show itx 1 = "1" by decide +kernel]
end Z
set_option Elab.async false
set_option linter.all false
set_option maxRecDepth 100000
namespace Z
open PySem PySem.Spec PyProof.Rows L2 G
theorem s_right {h : Store} {i : Nat} (hs : Spt tab4 h i) : Sat (f_l_right [.cell i] h) fun d h' => d = .bl true ∧ Spt tab4 h' i := by
  obtain ⟨_, h1, e1, x1, rfl, a1, b1, s1⟩ := (s_nextT hs (m := 41) (by decide) (by decide)).ok
  obtain ⟨_, h2, e2, x2, rfl, a2, b2, s2⟩ := (s_nextT s1 (m := 12) (by decide) (by decide)).ok
  have em : wMk "Number" 2 0 [0, 1] [.int 1] f_Number_init [.int (x1 - 20), .int (1 + x2)] [] h2 = .ok (nlo (low (x1 - 20) (1 + x2))) h2 := e_mk2 60 (by decide) (x1 - 20) (1 + x2) h2 (by omega) (by omega)
  have sm : SmN (low (x1 - 20) (1 + x2)).1 (low (x1 - 20) (1 + x2)).2 := low_sm (by omega) (by omega) (by omega)
  generalize low (x1 - 20) (1 + x2) = p at em sm
  obtain ⟨x, y⟩ := p
  replace sm : SmN x y := sm
  replace em : wMk "Number" 2 0 [0, 1] [.int 1] f_Number_init [.int (x1 - 20), .int (1 + x2)] [] h2 = .ok (nob x y) h2 := em
  obtain ⟨d3, h3, e3, hd3, s3⟩ := (s_oneT (ds := [.non, .bl true, .bl false, .dic [] []]) s2 (by decide) (by decide)).ok
  obtain ⟨d4, h4, e4, hd4, s4⟩ := (s_oneT (ds := lines4) s3 (by decide) (by decide)).ok
  obtain ⟨d5, h5, e5, hd5, s5⟩ := (s_oneT (ds := bads4 x y) s4 (by simp) (by simp)).ok
  obtain ⟨d6, h6, e6, hd6, s6⟩ := (s_zero s5).ok
  have t3 := s3.tab tab_at
  have t4 := s4.tab tab_at
  have t5 := s5.tab tab_at
  have t6 := s6.tab tab_at
  have L1 := fun a b c d => w_1 (x := x) (y := y) (s1 := a) (s4 := b) (s5 := c) (s6 := d) t3 hd3
  have L2' := fun a b c d => w_2 (x := x) (y := y) (s1 := a) (s2 := b) (s5 := c) (s6 := d) t4 hd4
  simp only [List.forall_mem_cons, List.not_mem_nil, false_implies, implies_true, and_true] at L1 L2'
  obtain ⟨r, ro, er⟩ := r_bad sm d5 hd5
  obtain ⟨k1, k2, k3⟩ := x_mk (x := x) (y := y) (h := h5) d5 hd5
  have tc : ∀ (act : M D) h, act h = .ex "InvalidCount" ["value"] [d5] h → g_l_told act h = .ok (.lst [.str "count", .str r, .bl true]) h := fun act h ha => t_cnt ha er
  have tz : ∀ (act : M D) h, act h = .ex "DividedByZero" [] [] h → g_l_told act h = .ok (.lst [.str "zero", .str "", .bl true]) h := fun act h ha => t_zero ha
  have tz2 : ∀ (act : M D), act h5 = .ex "DividedByZero" [] [] h6 → g_l_told act h5 = .ok (.lst [.str "zero", .str "", .bl true]) h6 := fun act ha => t_zero ha
  have q21 : ∀ (act : M D) h, act h = .ex "InvalidCount" ["value"] [.int 21] h → g_l_told act h = .ok (.lst [.str "count", .str "21", .bl true]) h := fun act h ha => t_cnt ha fun _ => by simp [bRepd, bRepr, show okR (.int 21) = true by decide +kernel, show (py (.int 21)).shown = "21" by decide +kernel]
  have q64 : ∀ (act : M D) h, act h = .ex "InvalidCount" ["value"] [.int 64] h → g_l_told act h = .ok (.lst [.str "count", .str "64", .bl true]) h := fun act h ha => t_cnt ha fun _ => by simp [bRepd, bRepr, show okR (.int 64) = true by decide +kernel, show (py (.int 64)).shown = "64" by decide +kernel]
  have p21 := x_pow (x := x) (y := y) (h := h6) 21 (by decide)
  have p64 := x_pow (x := x) (y := y) (h := h6) 64 (by decide)
  have ov := x_ov0 (x := x) (y := y) (h := h6) d6 hd6
  have n5 := z_neX (O := noO) (h := h6) (ok5 ro)
  have n21 := z_neX (O := noO) (h := h6) (ok3 (a := "count") (r := "21") (by decide +kernel) (by decide +kernel))
  have n64 := z_neX (O := noO) (h := h6) (ok3 (a := "count") (r := "64") (by decide +kernel) (by decide +kernel))
  have eqf : cmpD noO .Eq (.lst [.str "0", .str "1", .str "given"]) (.lst [.str "0", .str "1", .str "given"]) h6 = .ok (.bl true) h6 := z_eqX (by decide +kernel)
  have es := e_sub0 sm h6
  have ep := e_pow0 (x := x) (y := y) h6
  obtain ⟨d7, ea⟩ := e_add1 sm h6
  have tg : ∀ (act : M D) h, act h = .ok d7 h → g_l_told act h = .ok (.lst [.str "given", .str "", .bl true]) h := fun act h ha => t_giv ha
  obtain ⟨st0, st1⟩ := e_str01 h6
  have m3 : ∀ O d h, bop O .Mult (.lst [d]) (.int 3) h = .ok (.lst [d, d, d]) h := fun _ _ _ => rfl
  have m2 : ∀ O d h, bop O .Mult (.lst [d]) (.int 2) h = .ok (.lst [d, d]) h := fun _ _ _ => rfl
  have m5 : ∀ O a b c d e h, bop O .Add (.lst [a, b, c]) (.lst [d, e]) h = .ok (.lst [a, b, c, d, e]) h := fun _ _ _ _ _ _ _ => rfl
  unfold f_l_right c_l_right
  rw [runF_eq]
  simp only [lines4] at e4
  simp only [bads4] at e5
  simp [-q_mk, e1, e2, em, e3, e4, e5, e6, loopF_c, L1, L2', q_lam t5, q_lam t6, capD, capE, k1, k2, k3, er, tc, tz, tz2, q21, q64, x_mk0, ov, p21, p64, es, ep, ea, st0, st1, n5, n21, n64, eqf, tg, m2, m3, m5]
  exact s6
end Z
set_option Elab.async false
set_option linter.all false
set_option maxRecDepth 100000
namespace Z
open PySem PySem.Spec PyProof.Rows L2 G
section
variable {ns : List Int}
theorem p_law (hl : ns.length ≤ 63) : ∃ h', f_law [.scr ns] tab4 = .ok (.bl true) h' := by
  obtain ⟨ε2, h2, e, _, x, y, rfl⟩ := loopF_inv0 (tg := .n 1) (s := w_law_1) (ds := rngD 0 (if (if (6 : Int) < ns.length then (6 : Int) else ns.length) > 3 then (if (6 : Int) < ns.length then 6 else ns.length) else 3)) (ε := [.pu (.scr ns), .un, .un, .un]) (h := tab4)
    (I := fun _ ε h' => tab4 <+: h' ∧ ∃ (x y : Slt), ε = [.pu (.scr ns), x, y, .un]) ⟨List.prefix_refl _, _, _, rfl⟩ (by
      rintro i d ε h' hi ⟨ht, x, y, rfl⟩
      obtain ⟨rfl, hi2⟩ := rngD_get hi
      have hi3 : i < 63 := by split at hi2 <;> split at hi2 <;> omega
      obtain ⟨_, h1, e1, j, rfl, s1⟩ := (s_springT (h := h') ht hl hi3).ok
      obtain ⟨_, h2, e2, rfl, s2⟩ := (s_right s1).ok
      obtain ⟨_, h3, e3, rfl, s3⟩ := (s_right s2).ok
      refine ⟨_, asT_n, _, h3, .inl ?_, s3.2.1, .pu (.int i), .pu (.cell j), rfl⟩
      unfold w_law_1
      have r2 : rngD 0 2 = [.int 0, .int 1] := rfl
      have a2 : bAll [.lst [.bl true, .bl true]] h3 = .ok (.bl true) h3 := rfl
      simp [e1, r2, mapE_c, e2, e3, a2])
  refine ⟨h2, ?_⟩
  have c1 : -1000000 ≤ (if (if (6 : Int) < ns.length then (6 : Int) else ns.length) > 3 then (if (6 : Int) < ns.length then (6 : Int) else ns.length) else 3) ∧ (if (if (6 : Int) < ns.length then (6 : Int) else ns.length) > 3 then (if (6 : Int) < ns.length then (6 : Int) else ns.length) else 3) ≤ 1000000 := by split <;> split <;> omega
  unfold f_law c_law
  rw [runF_eq]
  simp only [gt_iff_lt] at e c1
  simp [-q_for]
  rw [q_for]
  simp [c1.1, c1.2, e]
end
theorem plain_law (ns : List Int) (hl : ns.length ≤ 63) : ∃ h', f_law [.scr ns] (tabs0 tl) = .ok (.bl true) h' := p_law hl
end Z
set_option Elab.async false
set_option linter.all false
set_option maxRecDepth 100000
set_option maxHeartbeats 0
namespace Z
open PySem PySem.Spec PyProof.Rows L2 G
abbrev Rw : PySem.W.OpenRow := PySem.W.OpenLaw.row PySem.Challenge.rw_delaynets_k04_numbers_refused
abbrev hkZ : PySem.W.Hook := hookT 6 fa fn tl
def obZ (s : PySem.W.SharedT) : AlT := obsTG 6 fa fn tl (HandSHeadRun.getT s)
theorem obZ_eq (s : PySem.W.SharedT) : obZ s = hkZ.obs s.abs := obsTG_eq (HandSHeadRun.getT_eq s)
def looseZ : List Str := (["InputError", "StateError", "InvalidText", "InvalidCount", "NotANumber", "DividedByZero", "MAX_POWER", "is_integer", "common_divisor", "Number", "number_in", "is_number", "number_of", "_law_spring", "_law_next", "_law_one", "_law_told", "_law_joined", "_law_right", "_law_zero"] : List Str)
theorem runZ (w : World) : HandSHeadRun.RunEq Rw (PySem.W.view Rw.prog [23]) hkZ obZ 40000 looseZ w := by
  intro os
  kernel_rfl
end Z
open PySem PySem.W PySem.Calls PyProof.Rows
theorem PySem.Challenge.cw_delaynets_k04_numbers_refused_holds : PySem.Challenge.rw_delaynets_k04_numbers_refused.Holds := by
  w_on; o_law
  refine HandSHeadRun.head_any (r := OpenLaw.row PySem.Challenge.rw_delaynets_k04_numbers_refused) (q := view (OpenLaw.row PySem.Challenge.rw_delaynets_k04_numbers_refused).prog [23]) (H := Z.hkZ) (ob := Z.obZ) (M := 40000) (loose := Z.looseZ) (d := HandSHeadRun.topDef (OpenLaw.row PySem.Challenge.rw_delaynets_k04_numbers_refused).prog 23) (kwd := []) Z.obZ_eq
    (by kernel_rfl) (fun s => by kernel_rfl) Z.runZ (by kernel_rfl) (by kernel_rfl) (by kernel_rfl) (by rfl) (by first | assumption | decide +kernel) (by decide +kernel) ⟨rfl, rfl, rfl, rfl, rfl, by decide +kernel⟩ ?hw ?hc
  case hw => w_witness2
  case hc =>
    refine Z.walk_ofT (l := PySem.Challenge.rw_delaynets_k04_numbers_refused) (most := 63) (lvl := 33) (par := "_law_script") (cx := fun w => L2.CX (PySem.Challenge.rw_delaynets_k04_numbers_refused).prog w) rfl (by decide) (by kernel_rfl) ⟨rfl, by decide, by decide⟩ ?F (fun _ _ _ _ _ z => by obtain ⟨_, _, _, _, _, _, _, _, _, _, _, _, hE⟩ := z; exact hE)
    intro w mg fa h Y G hmg0
    obtain ⟨K, KX, c⟩ := Y
    have hmg : mg ("law" : PySem.Str) = some (.ref fa) := by
      have e : (HandSHeadRun.topDef (OpenLaw.row PySem.Challenge.rw_delaynets_k04_numbers_refused).prog 23).name = ("law" : PySem.Str) := by kernel_rfl
      rw [← e]
      exact hmg0
    have Γ : Z.Gz Z.fa Z.fn K mg := ⟨⟨h, KX, G⟩, c.z⟩
    have e := hmg.symm.trans (Z.fz_glo KX G (c.z.fact (f := .glo "law") 80 rfl)).1
    cases e
    obtain ⟨fd, F⟩ := c.z.def_ (d := Z.d_law) 24 rfl
    have b := L2.FunD.bindsA (ps := ["_law_script"]) F fun _ _ _ _ _ _ us hl => match us, hl with | [_], _ => rfl
    refine ⟨K, Z.csK Z.tl K, fd, Z.spM K 1 Z.f_law, KX, c.tb, c.out, fun p hp => PySem.W.codeHd_of_K KX (c.hd p hp), fun s v => b s [v] rfl, fun H G' a ns hl h1 h2 h3 hS => Z.law_startT c.nd h1 h2 h3 hS (Z.plain_law ns hl), fun base _ _ TB => ?_⟩
    have TB' : Z.TbsZ Z.tl K mg base := fun x hx => TB (Z.codeAd K (Z.ga K x), Z.tabAd K x) (List.mem_map.mpr ⟨x, hx, rfl⟩)
    obtain ⟨fd', F', ok⟩ := (Z.ok_law (P := (PySem.Challenge.rw_delaynets_k04_numbers_refused).prog) (w := w) (base := base) Γ TB').ex
    obtain rfl := Z.FunD.one F F'
    exact ok
