import PyProof.Rows.All
import Wide.All
import OpenK.AllK
import Wide.FinOn
import HandS.Base
import HandS.Call
import HandS.List
import HandS.Comp
import HandS.Ends
import HandS.Dict
import HandS.Iter
import HandS.Text
import HandS.Words
import HandS.EndBits
import HandS.Defaults
import HandS.Wide
import HandS.SlotsOwn
import HandS.More
import HandS.FStr
import PyProof.FString
import PyProof.FString4
import HandS.IsInst
import HandS.Property
import HandS.MakeKw
import HandS.MakeKwOnly
import HandS.Walk
import HandS.OwnEq
import KE.IntTextLaws
import HandS.NoneIn
import PyProof.StrLawsRepr
import PySem.Challenge.RW_delaynets_k01_numbers_made
set_option Elab.async false
set_option linter.all false
set_option maxRecDepth 100000
set_option maxHeartbeats 4000000
/-! own layer: forward steps upon the syntax -/
namespace G
open PySem PySem.Spec L2
/-- what holds behind an expression, said of the syntax itself -/
def Go (X : Cx) (e : Expr) : TE := fun σ H Q => ∀ pins s, Inv X pins σ H s → wpAny (model X.prog X.w) X.A (eval e X.env) (EP X pins σ Q) X.xe s
def Gt (X : Cx) (e : Expr) : TT := fun σ H Q => ∀ pins s, Inv X pins σ H s → wpAny (model X.prog X.w) X.A (isTrue e X.env (eval e X.env)) (TP X pins σ Q) X.xe s
def Ga (X : Cx) (es : List Expr) : TA := fun σ H Q => ∀ pos pins s, Inv X pins σ H s → wpAny (model X.prog X.w) X.A (spliced (backTo pos (starEach es X.env))) (AP X pins σ Q) X.xe s
def Gs (X : Cx) (st : Stmt) : TS := fun D σ H => ∀ pins s, Inv X pins σ H s → wpAny (model X.prog X.w) X.A (exec st X.env) (SP X pins D) X.xe s
def Gb (X : Cx) (st : List Stmt) : TS := fun D σ H => ∀ pins s, Inv X pins σ H s → wpAny (model X.prog X.w) X.A (execs st X.env) (SP X pins D) X.xe s
def Gg (X : Cx) (tg : Expr) : TG := fun v σ H Q => ∀ pins s u, Inv X pins σ H s → RelV v u → wpAny (model X.prog X.w) X.A (assign tg X.env u) (fun _ s' => ∃ σ' H', Inv X pins σ' H' s' ∧ Q σ' H') X.xe s
section
variable {X : Cx} {e : Expr} {es : List Expr} {st : Stmt} {sts : List Stmt} {σ : St} {H : Hp} {Q : VK} {D : Ends}
theorem pe : PE X e (Go X e) := ⟨fun pins s σ H Q I h => h pins s I⟩
theorem pt : PT X e (Gt X e) := ⟨fun pins s σ H Q I h => h pins s I⟩
theorem pa : PA X es (Ga X es) := ⟨fun pos pins s σ H Q I h => h pos pins s I⟩
theorem ps : PS X st (Gs X st) := ⟨fun pins s σ H D I h => h pins s I⟩
theorem pb : PSs X sts (Gb X sts) := ⟨fun pins s σ H D I h => h pins s I⟩
theorem pg : PG X e (Gg X e) := ⟨fun pins s σ H v u Q I r h => h pins s u I r⟩
theorem ge {t : TE} (p : PE X e t) (h : t σ H Q) : Go X e σ H Q := fun pins s I => p.run pins s σ H Q I h
theorem gt {t : TT} {Q : Bool → Hp → Prop} (p : PT X e t) (h : t σ H Q) : Gt X e σ H Q := fun pins s I => p.run pins s σ H Q I h
theorem ga {t : TA} {Q : List V → Hp → Prop} (p : PA X es t) (h : t σ H Q) : Ga X es σ H Q := fun pos pins s I => p.run pos pins s σ H Q I h
theorem gs {t : TS} (p : PS X st t) (h : t D σ H) : Gs X st D σ H := fun pins s I => p.run pins s σ H D I h
theorem gb {t : TS} (p : PSs X sts t) (h : t D σ H) : Gb X sts D σ H := fun pins s I => p.run pins s σ H D I h
theorem gg {t : TG} {v : V} {Q : St → Hp → Prop} (p : PG X e t) (h : t v σ H Q) : Gg X e v σ H Q := fun pins s u I r => p.run pins s σ H v u Q I r h
end
/-- a name of the def at place i -/
structure Sl (X : Cx) (i : Nat) (x : Str) : Prop where
  n : X.N[i]? = some x
  v : Vis X.env.scope x
  db : (x == ("__debug__" : Str)) = false
  cd : (x == ("__classdict__" : Str)) = false
/-- .. that may be stored -/
structure Sw (X : Cx) (i : Nat) (x : Str) : Prop where
  n : X.N[i]? = some x
  l : Loc X.env.scope x
  f : X.fn x = true ∨ X.env.scope.names.lookup x = some .local
  nd : X.N.Nodup
/-- a global name: its value -/
structure Gn (X : Cx) (x : Str) (v : V) : Prop where
  g : Gl X x
  m : ∃ u, X.mg x = some u ∧ RelV v u
  db : (x == ("__debug__" : Str)) = false
/-- a builtin's name, not of the module -/
structure Bn (X : Cx) (x : Str) (u : Value) : Prop where
  g : Gl X x
  m : X.mg x = none
  b : bootBuiltins x = some u
  nn : x ≠ "__name__"
  db : (x == ("__debug__" : Str)) = false
section
variable {X : Cx} {σ : St} {H : Hp} {Q : VK} {a b c : Expr} {pos : Pos} {x : Str} {v : V}
theorem e_name {i : Nat} (l : Sl X i x) (h : σ[i]? = some (some v)) (q : Q v H) : Go X (.Name x pos) σ H Q := ge (pe_var l.n l.v l.db l.cd) ⟨v, h, q⟩
theorem e_glob (g : Gn X x v) (q : Q v H) : Go X (.Name x pos) σ H Q := by
  obtain ⟨u, hm, r⟩ := g.m
  exact ge (pe_glob g.g hm r g.db) q
theorem e_blt {u : Value} (g : Bn X x u) (r : RelV v u) (q : Q v H) : Go X (.Name x pos) σ H Q := ge (pe_bltn g.g g.m g.b r g.nn g.db) q
theorem e_int {i j} (q : Q (.int i) H) : Go X (.Constant (.int i) j pos) σ H Q := ge pe_int q
theorem e_bl {i j} (q : Q (.bl i) H) : Go X (.Constant (.bool i) j pos) σ H Q := ge pe_bl q
theorem e_str {i j} (q : Q (.str i) H) : Go X (.Constant (.str i) j pos) σ H Q := ge pe_str q
theorem e_non {j} (q : Q .non H) : Go X (.Constant .none j pos) σ H Q := ge pe_non q
/-! ### binary operators -/
def opR (X : Cx) (op : Operator) : R2 := fun x y H Q => ∀ pins σ s v u, Inv X pins σ H s → RelV x v → RelV y u → wpAny (model X.prog X.w) X.A (binaryOp op v u) (EP X pins σ Q) X.xe s
theorem opR_ok {op : Operator} : OpR X (binaryOp op) (opR X op) := fun pins s σ H x y v u Q I r1 r2 h => h pins σ s v u I r1 r2
theorem e_bin {op : Operator} (h : Go X a σ H fun x H1 => Go X b σ H1 fun y H2 => opR X op x y H2 Q) : Go X (.BinOp a op b pos) σ H Q := ge (pe_op opR_ok pe pe) h
theorem o_of {op : Operator} {r : R2} {x y : V} (p : OpR X (binaryOp op) r) (h : r x y H Q) : opR X op x y H Q := fun pins σ s v u I r1 r2 => p pins s σ H x y v u Q I r1 r2 h
variable {i j : Int}
theorem o_add (q : Q (.int (i + j)) H) : opR X .Add (.int i) (.int j) H Q := o_of op_add ⟨i, j, rfl, rfl, q⟩
theorem o_sub (q : Q (.int (i - j)) H) : opR X .Sub (.int i) (.int j) H Q := o_of op_sub ⟨i, j, rfl, rfl, q⟩
theorem o_mul (c : CMul i j) (q : Q (.int (i * j)) H) : opR X .Mult (.int i) (.int j) H Q := o_of op_mul ⟨i, j, rfl, rfl, c, q⟩
theorem o_mod (c : 0 < j) (q : Q (.int (i % j)) H) : opR X .Mod (.int i) (.int j) H Q := o_of op_mod ⟨i, j, rfl, rfl, c, q⟩
theorem o_fdiv (c : CDiv i j) (q : Q (.int (i / j)) H) : opR X .FloorDiv (.int i) (.int j) H Q := o_of op_fdiv ⟨i, j, rfl, rfl, c, q⟩
theorem o_pow (c : CPow i j) (q : Q (.int (i ^ j.toNat)) H) : opR X .Pow (.int i) (.int j) H Q := o_of op_pow ⟨i, j, rfl, rfl, c, q⟩
theorem o_adds {s t : Str} (c : s.length + t.length ≤ sizeLine) (q : Q (.str (s ++ t)) H) : opR X .Add (.str s) (.str t) H Q := o_of op_add_str ⟨s, t, rfl, rfl, c, q⟩
end
/-! ### a test's outcome -/
abbrev cnd (c : Bool) (A B : Prop) : Prop := if c = true then A else B
theorem cT {A B : Prop} (h : A) : cnd true A B := by show (if true = true then A else B); rw [if_pos rfl]; exact h
theorem cF {A B : Prop} (h : B) : cnd false A B := by show (if false = true then A else B); rw [if_neg (by decide)]; exact h
theorem cAny {c : Bool} {A B : Prop} (h1 : c = true → A) (h2 : c = false → B) : cnd c A B := by
  cases c
  · exact cF (h2 rfl)
  · exact cT (h1 rfl)
theorem cDec {p A B : Prop} [Decidable p] (h1 : p → A) (h2 : ¬p → B) : cnd (decide p) A B := cAny (fun h => h1 (of_decide_eq_true h)) fun h => h2 (of_decide_eq_false h)
theorem cDecT {p A B : Prop} [Decidable p] (h : p) (h1 : A) : cnd (decide p) A B := cDec (fun _ => h1) fun n => absurd h n
theorem cDecF {p A B : Prop} [Decidable p] (h : ¬p) (h1 : B) : cnd (decide p) A B := cDec (fun n => absurd n h) fun _ => h1
theorem cNot {c : Bool} {A B : Prop} (h : cnd c B A) : cnd (!c) A B := by
  cases c
  · exact cT h
  · exact cF h
theorem cAnd {a b : Bool} {A B : Prop} (h : cnd a (cnd b A B) B) : cnd (a && b) A B := by
  cases a
  · exact cF h
  · exact h
theorem cOr {a b : Bool} {A B : Prop} (h : cnd a A (cnd b A B)) : cnd (a || b) A B := by
  cases a
  · exact h
  · exact cT h
/-! ### comparisons -/
def cmR (X : Cx) (op : CmpOp) : R2 := fun x y H Q => ∀ pins σ s v u, Inv X pins σ H s → RelV x v → RelV y u → wpAny (model X.prog X.w) X.A (compareOp op v u) (EP X pins σ Q) X.xe s
section
variable {X : Cx} {σ : St} {H : Hp} {Q : VK} {a b c : Expr} {pos : Pos} {x y : V} {i j : Int} {op : CmpOp}
theorem cmR_ok : OpR X (compareOp op) (cmR X op) := fun pins s σ H x y v u Q I r1 r2 h => h pins σ s v u I r1 r2
theorem c_of {r : R2} (p : OpR X (compareOp op) r) (h : r x y H Q) : cmR X op x y H Q := fun pins σ s v u I r1 r2 => p pins s σ H x y v u Q I r1 r2 h
theorem e_cmp (hm : behindInMarks op b = false) (h : Go X a σ H fun x H1 => Go X b σ H1 fun y H2 => cmR X op x y H2 Q) : Go X (.Compare a [op] [b] pos) σ H Q := ge (pe_cmpR cmR_ok pe pe hm) h
theorem t_cmp {Q : Bool → Hp → Prop} (hm : behindInMarks op b = false) (h : Go X a σ H fun x H1 => Go X b σ H1 fun y H2 => cmR X op x y H2 fun z H3 => ∃ k, z = .bl k ∧ Q k H3) : Gt X (.Compare a [op] [b] pos) σ H Q := gt (pt_cmpR cmR_ok pe pe hm) h
/-- a comparison in a chain -/
theorem t_chain {op' : CmpOp} {Q : Bool → Hp → Prop} (hm : lastMarks [op, op'] [b, c] = false) (h : Go X a σ H fun x H1 => Go X b σ H1 fun y H2 => cmR X op x y H2 fun z H3 => ∃ k, z = .bl k ∧
    cnd k (Go X c σ H3 fun w' H4 => cmR X op' y w' H4 fun z H3 => ∃ k, z = .bl k ∧ Q k H3) (∃ k, V.bl false = .bl k ∧ Q k H3)) : Gt X (.Compare a [op, op'] [b, c] pos) σ H Q := gt (pt_chain cmR_ok cmR_ok pe pe pe hm) h
theorem c_lt (q : Q (.bl (decide (i < j))) H) : cmR X .Lt (.int i) (.int j) H Q := c_of op_lt ⟨i, j, rfl, rfl, q⟩
theorem c_le (q : Q (.bl (decide (i ≤ j))) H) : cmR X .LtE (.int i) (.int j) H Q := c_of op_le ⟨i, j, rfl, rfl, q⟩
theorem c_gt (q : Q (.bl (decide (j < i))) H) : cmR X .Gt (.int i) (.int j) H Q := c_of op_gt ⟨i, j, rfl, rfl, q⟩
theorem c_ge (q : Q (.bl (decide (j ≤ i))) H) : cmR X .GtE (.int i) (.int j) H Q := c_of op_ge ⟨i, j, rfl, rfl, q⟩
theorem dI : decide (V.int i = V.int j) = decide (i = j) := by
  by_cases h : i = j
  · subst h; simp
  · rw [decide_eq_false h, decide_eq_false (fun e => h (V.int.inj e))]
theorem dS {s t : Str} : decide (V.str s = V.str t) = decide (s = t) := by
  by_cases h : s = t
  · subst h; simp
  · rw [decide_eq_false h, decide_eq_false (fun e => h (V.str.inj e))]
theorem c_eqI (q : Q (.bl (decide (i = j))) H) : cmR X .Eq (.int i) (.int j) H Q := c_of op_eq ⟨rfl, by rw [dI]; exact q⟩
theorem c_neI (q : Q (.bl (!decide (i = j))) H) : cmR X .NotEq (.int i) (.int j) H Q := c_of op_ne ⟨rfl, by rw [dI]; exact q⟩
theorem c_eqS {s t : Str} (q : Q (.bl (decide (s = t))) H) : cmR X .Eq (.str s) (.str t) H Q := c_of op_eq ⟨rfl, by rw [dS]; exact q⟩
theorem c_neS {s t : Str} (q : Q (.bl (!decide (s = t))) H) : cmR X .NotEq (.str s) (.str t) H Q := c_of op_ne ⟨rfl, by rw [dS]; exact q⟩
theorem c_isN (q : Q (.bl (decide (x = .non))) H) : cmR X .Is x .non H Q := c_of op_isN ⟨rfl, q⟩
theorem c_notN (q : Q (.bl (!decide (x = .non))) H) : cmR X .IsNot x .non H Q := c_of op_notN ⟨rfl, q⟩
end
/-! ### and, or, not, if-else -/
def Gw (X : Cx) (e : Expr) : TT := fun σ H Q => ∀ whole pins s, Inv X pins σ H s → wpAny (model X.prog X.w) X.A (isTrue e X.env whole) (TP X pins σ Q) X.xe s
section
variable {X : Cx} {σ : St} {H : Hp} {Q : VK} {a b c e : Expr} {rest : List Expr} {pos : Pos} {R : Bool → Hp → Prop}
theorem pw : PW X e (Gw X e) := ⟨fun wh pins s σ H Q I h => h wh pins s I⟩
theorem gw {t : TT} (p : PW X e t) (h : t σ H R) : Gw X e σ H R := fun wh pins s I => p.run wh pins s σ H R I h
theorem w_and1 (h : Gt X a σ H R) : Gw X (.BoolOp .And [a] pos) σ H R := gw (pw_and1 pt) h
theorem w_or1 (h : Gt X a σ H R) : Gw X (.BoolOp .Or [a] pos) σ H R := gw (pw_or1 pt) h
theorem w_and (h : Gt X a σ H fun c H1 => cnd c (Gw X (.BoolOp .And (b :: rest) pos) σ H1 R) (R false H1)) : Gw X (.BoolOp .And (a :: b :: rest) pos) σ H R := gw (pw_and pt pw) h
theorem w_or (h : Gt X a σ H fun c H1 => cnd c (R true H1) (Gw X (.BoolOp .Or (b :: rest) pos) σ H1 R)) : Gw X (.BoolOp .Or (a :: b :: rest) pos) σ H R := gw (pw_or pt pw) h
theorem t_and (h : Gw X (.BoolOp .And rest pos) σ H R) : Gt X (.BoolOp .And rest pos) σ H R := gt (PW.pt pw) h
theorem t_or (h : Gw X (.BoolOp .Or rest pos) σ H R) : Gt X (.BoolOp .Or rest pos) σ H R := gt (PW.pt pw) h
theorem t_not (h : Gt X a σ H fun c H1 => R (!c) H1) : Gt X (.UnaryOp .Not a pos) σ H R := gt (pt_not pt) h
theorem e_one {op} (h : Go X a σ H Q) : Go X (.BoolOp op [a] pos) σ H Q := ge (pe_one pe) h
theorem e_and (h : Go X a σ H fun x H1 => ∃ c, x = .bl c ∧ cnd c (Go X (.BoolOp .And (b :: rest) pos) σ H1 Q) (Q (.bl false) H1)) : Go X (.BoolOp .And (a :: b :: rest) pos) σ H Q := ge (pe_and pe pe) h
theorem e_or (h : Go X a σ H fun x H1 => ∃ c, x = .bl c ∧ cnd c (Q (.bl true) H1) (Go X (.BoolOp .Or (b :: rest) pos) σ H1 Q)) : Go X (.BoolOp .Or (a :: b :: rest) pos) σ H Q := ge (pe_or pe pe) h
theorem e_not (h : Go X a σ H fun x H1 => ∃ c, x = .bl c ∧ Q (.bl (!c)) H1) : Go X (.UnaryOp .Not a pos) σ H Q := ge (pe_not pe) h
theorem e_neg {i : Int} {x : V} (e : x = .int i) (q : Q (.int (-i)) H) : (rU fun i => V.int (-i)) x H Q := ⟨i, e, q⟩
theorem e_usub (h : Go X a σ H fun x H1 => ∃ i, x = .int i ∧ Q (.int (-i)) H1) : Go X (.UnaryOp .USub a pos) σ H Q := ge (pe_un un_neg pe) h
theorem e_if (h : Gt X c σ H fun k H1 => cnd k (Go X a σ H1 Q) (Go X b σ H1 Q)) : Go X (.IfExp c a b pos) σ H Q := ge (pe_ifExp pt pe pe) h
/-- a test that is a value, True or False -/
theorem t_val (he : ∀ whole, isTrue a X.env whole = (do let v ← whole; standAt a.pos; holding [v] (truthy v))) (h : Go X a σ H fun x H1 => ∃ c, x = .bl c ∧ R c H1) : Gt X a σ H R := gt (pt_val pe he) h
theorem t_tru (he : ∀ whole, isTrue a X.env whole = (do let v ← whole; standAt a.pos; holding [v] (truthy v))) (h : Go X a σ H fun x H1 => ∃ k, TruV X.K x H1 k ∧ R k H1) : Gt X a σ H R := gt (pt_truth pe he) h
end
/-! ### arguments, displays -/
section
variable {X : Cx} {σ : St} {H : Hp} {Q : VK} {a b c e : Expr} {es : List Expr} {pos : Pos} {R : List V → Hp → Prop}
theorem a_nil (q : R [] H) : Ga X [] σ H R := ga pa_nil q
theorem a_cons (hs : starEach (e :: es) X.env = (false, eval e X.env) :: starEach es X.env) (h : Go X e σ H fun x H1 => Ga X es σ H1 fun xs H2 => R (x :: xs) H2) : Ga X (e :: es) σ H R := ga (pa_cons pe pa hs) h
/-- the heap has grown -/
def Ex (H H' : Hp) : Prop := ∀ a o, H a = some o → H' a = some o
theorem Ex.rfl' {H : Hp} : Ex H H := fun _ _ h => h
theorem Ex.tr {H H1 H2 : Hp} (a : Ex H H1) (b : Ex H1 H2) : Ex H H2 := fun x o h => b x o (a x o h)
/-- all but p stays -/
def ExB (p : Addr) (H H' : Hp) : Prop := ∀ a o, a ≠ p → H a = some o → H' a = some o
theorem Ex.new {H : Hp} {p : Addr} {o : HO} (h : H p = none) : Ex H (upd H p o) := fun a u e => by rw [upd_ne (ne_of_none e h)]; exact e
theorem Ex.fr {H H' : Hp} (e : Ex H H') {p : Addr} (h : H' p = none) : H p = none := by
  cases q : H p with
  | none => rfl
  | some o => rw [e p o q] at h; cases h
theorem Ex.mut {H H1 : Hp} {p : Addr} {o : HO} (e : Ex H H1) (h : H p = none) : Ex H (upd H1 p o) := fun a u q => by rw [upd_ne (ne_of_none q h)]; exact e a u q
theorem e_tup {k} (h : Ga X es σ H fun xs H1 => xs.length ≤ 1000 ∧ ∀ p H2, H1 p = none → Ex H1 H2 → H2 p = some (.tup xs) → Q (.ref p) H2) : Go X (.Tuple es k pos) σ H Q := ge (pe_tup (t := Ga X es) pa) (fun pos pins s I => (thn (h pos pins s I) fun us s1 ⟨xs, H1, I1, r, hl, q⟩ => ⟨xs, H1, I1, r, Nat.le_of_lt (small1000 hl), fun p hp => q p _ hp (Ex.new hp) upd_same⟩))
theorem e_lst (h : Ga X es σ H fun xs H1 => xs.length ≤ 1000 ∧ ∀ p H2, H1 p = none → Ex H1 H2 → H2 p = some (.lst xs) → Q (.ref p) H2) : Go X (.List es pos) σ H Q := ge (pe_lst (t := Ga X es) pa) (fun pos pins s I => (thn (h pos pins s I) fun us s1 ⟨xs, H1, I1, r, hl, q⟩ => ⟨xs, H1, I1, r, Nat.le_of_lt (small1000 hl), fun p hp => q p _ hp (Ex.new hp) upd_same⟩))
end
/-! ### statements -/
section
variable {X : Cx} {σ : St} {H : Hp} {Q : VK} {a b c e tg : Expr} {es : List Expr} {st : Stmt} {rest body els : List Stmt} {pos p' : Pos} {D : Ends} {i j : Nat} {x y : Str}
theorem b_nil (q : D.nx σ H) : Gb X [] D σ H := gb pss_nil q
theorem b_one (h : Gs X st D σ H) : Gb X [st] D σ H := gb (pss_one ps) h
theorem b_cons (h : Gs X st { D with nx := Gb X rest D } σ H) : Gb X (st :: rest) D σ H := gb (pss_cons ps pb) h
theorem s_ret (h : Go X e σ H D.rt) : Gs X (.Return (some e) pos) D σ H := gs (ps_ret pe) h
theorem s_retN (h : D.rt .non H) : Gs X (.Return none pos) D σ H := gs ps_retN h
theorem s_pass (h : D.nx σ H) : Gs X (.Pass pos) D σ H := gs ps_pass h
theorem s_brk (h : D.bk σ H) : Gs X (.Break pos) D σ H := gs ps_break h
theorem s_ct (h : D.ct σ H) : Gs X (.Continue pos) D σ H := gs ps_continue h
theorem s_expr (hs : swapsWith e none pos.line X.env = pure false) (h : Go X e σ H fun _ H1 => D.nx σ H1) : Gs X (.Expr e pos) D σ H := gs (ps_expr pe hs) h
theorem s_if (h : Gt X c σ H fun k H1 => cnd k (Gb X body D σ H1) (Gb X els D σ H1)) : Gs X (.If c body els pos) D σ H := gs (ps_if pt pb pb) h
/-- a slot is stored -/
def stR (i : Nat) (v : V) (σ : St) (H : Hp) (Q : St → Hp → Prop) : Prop := Q (σ.set i (some v)) H
theorem st_ok {v : V} {σ' : St} {Q : St → Hp → Prop} (hs : σ.set i (some v) = σ') (q : Q σ' H) : stR i v σ H Q := by unfold stR; rw [hs]; exact q
theorem s_set (w : Sw X i x) (hs : swapsWith e (some (.Name x p')) pos.line X.env = pure false) (h : Go X e σ H fun v H1 => stR i v σ H1 D.nx) : Gs X (.Assign [.Name x p'] e pos) D σ H := gs (ps_set w.nd w.n w.l pe hs w.f) h
theorem s_asg (hs : swapsWithSole [tg] e pos.line X.env = pure false) (hw : swappedStores [tg] e X.env = pure none) (h1 : (assignEach [tg] X.env).map (·.2) = [assign tg X.env]) (h : Go X e σ H fun v H1 => Gg X tg v σ H1 D.nx) : Gs X (.Assign [tg] e pos) D σ H := gs (ps_asg pe pg hs hw h1) h
/-- a, b = e1, e2 of two local names -/
theorem s_par {px py pt' : Pos} {kt k2 pt2} (hc : X.calm = true) (w1 : Sw X i x) (w2 : Sw X j y) (hij : i ≠ j) (hx : X.env.scope.names.lookup x = some .local) (hy : X.env.scope.names.lookup y = some .local)
    (hw : swappedStores [.Tuple [.Name x px, .Name y py] kt pt'] (.Tuple [a, b] k2 pt2) X.env = pure (some [x, y])) (hs : swapsWithSole [.Tuple [.Name x px, .Name y py] kt pt'] (.Tuple [a, b] k2 pt2) pos.line X.env = pure false)
    (h : Ga X [a, b] σ H fun vs H1 => ∃ v w, vs = [v, w] ∧ stR i v σ H1 fun σ' H' => stR j w σ' H' D.nx) : Gs X (.Assign [.Tuple [.Name x px, .Name y py] kt pt'] (.Tuple [a, b] k2 pt2) pos) D σ H := gs (ps_par hc w1.nd w1.n w2.n hij hx hy pa hw hs) h
theorem g_name {v : V} {Q : St → Hp → Prop} (w : Sw X i x) (h : stR i v σ H Q) : Gg X (.Name x pos) v σ H Q := gg (pg_name w.nd w.n w.l w.f) h
/-! ### loops -/
def Gi (X : Cx) (tg iter : Expr) : TI := fun σ H R => ∀ pins s, Inv X pins σ H s → wpAny (model X.prog X.w) X.A (eval iter X.env) (fun v s1 => wpAny (model X.prog X.w) X.A (pyIter v) (PIE X pins σ tg R) X.xe s1) X.xe s
theorem pi : PI X tg e (Gi X tg e) := ⟨fun pins s σ H R I h => h pins s I⟩
theorem gi {t : TI} {R : It → Hp → Prop} (p : PI X tg e t) (h : t σ H R) : Gi X tg e σ H R := fun pins s I => p.run pins s σ H R I h
theorem s_for (hp : PassesOwn (model X.prog X.w) X.A X.env X.xe) (hc : X.calm = true) (hs : ∀ x, foldedSetIterable e X.env x = pure x)
    (h : Gi X tg e σ H fun J H1 => ∃ W : Nat → Nat → St → Hp → Prop, (∃ m, W 0 m σ H1) ∧ ∀ i m σ H, W i m σ H →
  (J.stop i H ∧ D.nx σ H) ∨ (J.go i H ∧ ∃ N : St → Hp → Prop, (∀ σ' H', N σ' H' → ∃ m', m' < m ∧ W (i + 1) m' σ' H') ∧ ∀ x H', J.yld i H x H' → Gg X tg x σ H' fun σ2 H2 => Gb X body { D with nx := N, ct := N, bk := D.nx } σ2 H2)) :
  Gs X (.For tg e body [] pos) D σ H := gs (ps_for hp hc pi pg pb hs) h
theorem s_while (hp : PassesOwn (model X.prog X.w) X.A X.env X.xe) (h : ∃ W : Nat → St → Hp → Prop, (∃ m, W m σ H) ∧ ∀ m σ H, W m σ H →
  Gt X c σ H fun b H1 => cnd b (∃ N : St → Hp → Prop, (∀ σ' H', N σ' H' → ∃ m', m' < m ∧ W m' σ' H') ∧ Gb X body { D with nx := N, ct := N, bk := D.nx } σ H1) (D.nx σ H1)) : Gs X (.While c body [] pos) D σ H := gs (ps_while hp pt pb) h
/-- over a list -/
theorem i_list {R : It → Hp → Prop} (h : Go X e σ H fun x H1 => ∃ a, x = .ref a ∧ (∃ xs, SqL X.K H1 a xs) ∧ R (Itl X.K a) H1) : Gi X tg e σ H R := gi (pi_list pe) h
theorem i_tup {R : It → Hp → Prop} (h : Go X e σ H fun x H1 => ∃ a, x = .ref a ∧ (∃ xs, SqT X.K H1 a xs) ∧ R (Itt X.K a) H1) : Gi X tg e σ H R := gi (pi_tup pe) h
theorem i_rng1 {R : It → Hp → Prop} {p : Pos} (bn : Bn X "range" (.type "range")) (hs : starEach [a] X.env = [(false, eval a X.env)]) (h : Go X a σ H fun x H1 => ∃ j : Int, x = .int j ∧ -(2 ^ 62) ≤ j ∧ j < 2 ^ 62 ∧ R (Itr 0 j.toNat) H1) : Gi X tg (.Call (.Name "range" p) [a] [] pos) σ H R :=
  gi (pi_range1 bn.g bn.m pa hs) (show Ga X [a] σ H _ from a_cons hs (fun pins s I => thn (h pins s I) fun v s1 ⟨x, H1, I1, r, j, e, h1, h2, q⟩ => ⟨x, H1, I1, r, a_nil ⟨j, by rw [e], h1, h2, q⟩⟩))
end
/-! ### calls -/
/-- how a global name is reached -/
inductive Rch (X : Cx) (x : Str) : Value → Prop
  | own {f : Addr} (hm : X.mg x = some (.ref f)) (hk : PySem.W.keepIn X.K (.ref f) = true) : Rch X x (.ref f)
  | blt {id : String} (bn : Bn X x (.builtin id)) : Rch X x (.builtin id)
  | typ {T : String} (bn : Bn X x (.type T)) : Rch X x (.type T)
/-- a call of the name x keeps sp -/
structure Fn (X : Cx) (x : Str) (sp : List V → Hp → VK → Prop) : Prop where
  ex : ∃ u, CallR X u sp ∧ Rch X x u
  g : Gl X x
  db : (x == ("__debug__" : Str)) = false
section
variable {X : Cx} {σ : St} {H : Hp} {Q : VK} {a b c e o : Expr} {es : List Expr} {p pos apos : Pos} {x m : Str} {sp : List V → Hp → VK → Prop} {CX : CXT} {k : Nat} {f C : Addr} {fd : FuncData} {ps : List Str} {sq : Sp} {dvs : List V} {ds : List Value} {E : XK}
theorem cr_fn (F : FnOk X.prog X.w X.K X.mg X.base CX k f fd ps sq) (hr : Room k X.A) (hb : Binds X.K fd ps ds) (hd : Vals dvs ds) (hx : Passes CX X E) : CallR X (.ref f) (fun vs H Q => sq (vs ++ dvs) H Q E) := fun _ _ _ _ _ _ _ I r h => run_fn F hr hb hd hx I r h
theorem cr_mk (M : Mk X.K C f) (F : FnOk X.prog X.w X.K X.mg X.base CX k f fd ps sq) (hr : Room (k + 1) X.A) (hb : Binds X.K fd ps ds) (hd : Vals dvs ds) (hx : Passes CX X E) :
    CallR X (.ref C) (fun vs H Q => ∀ x dx, H x = none → H dx = none → dx ≠ x → sq (.ref x :: (vs ++ dvs)) (upd (upd H dx (.own x)) x (.ins C dx [])) (fun v H2 => v = .non ∧ Q (.ref x) H2) E) := fun _ _ _ _ _ _ _ I r h => run_make M F hr hb hd hx I r h
theorem CallR.imp' {u : Value} {sp' : List V → Hp → VK → Prop} (F : CallR X u sp) (h : ∀ vs H Q, sp' vs H Q → sp vs H Q) : CallR X u sp' := fun pins s σ H xs us Q I r q => F pins s σ H xs us Q I r (h _ _ _ q)
theorem CallR.or {u : Value} {r r' : List V → Hp → VK → Prop} (h : CallR X u r) (h' : CallR X u r') : CallR X u (fun xs H Q => r xs H Q ∨ r' xs H Q) := fun pins s σ H xs us Q I rv q => q.elim (h pins s σ H xs us Q I rv) (h' pins s σ H xs us Q I rv)
theorem fn_own (F : CallR X (.ref f) sp) (hg : Gl X x) (hm : X.mg x = some (.ref f)) (hk : PySem.W.keepIn X.K (.ref f) = true) (hdb : (x == ("__debug__" : Str)) = false) : Fn X x sp := ⟨⟨_, F, .own hm hk⟩, hg, hdb⟩
theorem cb_mk {id : String} {r : List V → Hp → VK → Prop} (hc : CallR X (.builtin id) r) (bn : Bn X x (.builtin id)) : Fn X x r := ⟨⟨_, hc, .blt bn⟩, bn.g, bn.db⟩
theorem ct_mk {T : String} {r : List V → Hp → VK → Prop} (hc : CallR X (.type T) r) (bn : Bn X x (.type T)) : Fn X x r := ⟨⟨_, hc, .typ bn⟩, bn.g, bn.db⟩
theorem Fn.imp {sp' : List V → Hp → VK → Prop} (F : Fn X x sp) (h : ∀ vs H Q, sp' vs H Q → sp vs H Q) : Fn X x sp' := let ⟨u, c, r⟩ := F.ex; ⟨⟨u, CallR.imp' c h, r⟩, F.g, F.db⟩
theorem e_call (F : Fn X x sp) (he : starEach (e :: es) X.env = (false, eval e X.env) :: starEach es X.env) (hpl : (backTo pos (starEach es X.env)).any (·.1) = false) (h : Ga X (e :: es) σ H fun vs H1 => sp vs H1 Q) : Go X (.Call (.Name x p) (e :: es) [] pos) σ H Q := by
  obtain ⟨u, hc, r⟩ := F.ex
  intro pins s I
  cases r with
  | own hm hk => exact wpAny_Call_Name_kw (ld_glob I F.g hm (PySem.W.callWith_K (h₀ := X.base) I.ok.mod.kin hk (thn (h pos pins s I) fun us s1 ⟨vs, H1, I1, r, q⟩ => ⟨I1.kIn, hc pins s1 σ H1 vs us Q I1 r q⟩) he hpl) F.db)
  | blt bn => exact wpAny_Call_Name_kw (ld_blt I F.g bn.m bn.b (PyProof.Rows.callWith_builtin1 (thn (h pos pins s I) fun us s1 ⟨vs, H1, I1, r, q⟩ => hc pins s1 σ H1 vs us Q I1 r q) he hpl) bn.nn F.db)
  | typ bn => exact wpAny_Call_Name_kw (ld_blt I F.g bn.m bn.b (PyProof.Rows.callWith_type1 (thn (h pos pins s I) fun us s1 ⟨vs, H1, I1, r, q⟩ => hc pins s1 σ H1 vs us Q I1 r q) he hpl) bn.nn F.db)
/-! ### attributes -/
theorem e_fld {f : Str} (hb : attributeBase e f X.env (eval e X.env) = eval e X.env) (h : Go X e σ H fun x H1 => ∃ a C dx fs v, x = .ref a ∧ H1 a = some (.ins C dx fs) ∧ Cls X.K C ∧ NoAttr X.K C f ∧ fs.lookup f = some v ∧ Q v H1) : Go X (.Attribute e f pos) σ H Q := ge (pe_fld pe hb) h
/-- a field is stored -/
def flR (X : Cx) (f : Str) (y x : V) (H : Hp) (Q : Hp → Prop) : Prop := ∃ a C dx fs, x = .ref a ∧ H a = some (.ins C dx fs) ∧ Cls X.K C ∧ NoAttr X.K C f ∧ fs.length < 1000 ∧ Q (upd H a (.ins C dx (putF f y fs)))
theorem fl_ok {f : Str} {y : V} {a dx : Addr} {fs fs' : List (Str × V)} {Q : Hp → Prop} (c : Cls X.K C) (n : NoAttr X.K C f) (h : H a = some (.ins C dx fs)) (hl : fs.length < 1000) (hp : putF f y fs = fs') (q : ∀ H', ExB a H H' → H' a = some (.ins C dx fs') → Q H') : flR X f y (.ref a) H Q :=
  ⟨a, C, dx, fs, rfl, h, c, n, hl, q _ (fun b o n e => by rw [upd_ne n]; exact e) (by rw [hp]; exact upd_same)⟩
theorem s_fld {f : Str} {value : Expr} {pos' : Pos} {D : Ends} (hs : swapsWith value (some (.Attribute o f pos')) pos.line X.env = pure false)
    (h : Go X value σ H fun y H1 => Go X o σ H1 fun x H2 => flR X f y x H2 (D.nx σ)) : Gs X (.Assign [.Attribute o f pos'] value pos) D σ H := gs (ps_fld pe pe hs) h
/-! ### subscripts -/
def ixR (X : Cx) : R2 := fun x y H Q => ∀ (value slice : Expr) pins s σ v u, Inv X pins σ H s → RelV x v → RelV y u → subscripted slice false v u = operate [v, u] (getItem v u) → wpAny (model X.prog X.w) X.A (PyProof.Rows.subscriptTail value slice v u) (EP X pins σ Q) X.xe s
theorem ixR_ok : IxR X (ixR X) := fun value slice pins s σ H x y v u Q I r1 r2 h hs => h value slice pins s σ v u I r1 r2 hs
theorem ix_of {r : R2} {x y : V} (p : IxR X r) (h : r x y H Q) : ixR X x y H Q := fun value slice pins s σ v u I r1 r2 hs => p value slice pins s σ H x y v u Q I r1 r2 h hs
theorem e_ix (hs : PlainIx b) (h : Go X a σ H fun x H1 => Go X b σ H1 fun y H2 => ixR X x y H2 Q) : Go X (.Subscript a b pos) σ H Q := ge (pe_ix ixR_ok pe pe hs) h
theorem ix_l {p : Addr} {xs : List V} {i : Int} {v : V} (h : H p = some (.lst xs)) (hi : atI xs i = some v) (q : Q v H) : ixR X (.ref p) (.int i) H Q := ix_of ix_list ⟨p, xs, i, v, rfl, rfl, SqL.of h, hi, q⟩
theorem ix_t {p : Addr} {xs : List V} {i : Int} {v : V} (h : H p = some (.tup xs)) (hi : atI xs i = some v) (q : Q v H) : ixR X (.ref p) (.int i) H Q := ix_of ix_tup ⟨p, xs, i, v, rfl, rfl, SqT.of h, hi, q⟩
theorem ix_L {p : Addr} {xs : List V} {i : Int} {v : V} (h : SqL X.K H p xs) (hi : atI xs i = some v) (q : Q v H) : ixR X (.ref p) (.int i) H Q := ix_of ix_list ⟨p, xs, i, v, rfl, rfl, h, hi, q⟩
/-- xs[i] = v -/
def seR (o i v : V) (H : Hp) (Q : Hp → Prop) : Prop := ∃ p xs k j, o = .ref p ∧ i = .int k ∧ H p = some (.lst xs) ∧ ixN xs.length k = some j ∧ Q (upd H p (.lst (xs.set j v)))
theorem se_l {p : Addr} {xs ys : List V} {k : Int} {j : Nat} {v : V} {Q : Hp → Prop} (h : H p = some (.lst xs)) (hi : ixN xs.length k = some j) (hy : xs.set j v = ys) (q : ∀ H', ExB p H H' → H' p = some (.lst ys) → Q H') : seR (.ref p) (.int k) v H Q :=
  ⟨p, xs, k, j, rfl, rfl, h, hi, q _ (fun a o n e => by rw [upd_ne n]; exact e) (by rw [hy]; exact upd_same)⟩
theorem g_subL {v : V} {Q : St → Hp → Prop} (ha : ∀ v, assign (.Subscript a b pos) X.env v = (do
      let ov ← holding [v] (eval a X.env)
      let iv ← holding [v, ov] (eval b X.env)
      standAt pos
      holding [v, ov, iv] (setItem ov iv v)
      release [v, ov, iv] [])) (h : Go X a σ H fun o H1 => Go X b σ H1 fun i H2 => seR o i v H2 (Q σ)) : Gg X (.Subscript a b pos) v σ H Q := gg (pg_sub pe pe set_list ha) h
end
/-! ### growth; a spring -/
theorem Ex.go {H H' : Hp} {a : Addr} {o : HO} (e : Ex H H') (h : H a = some o) : H' a = some o := e a o h
theorem ExB.go {p : Addr} {H H' : Hp} {a : Addr} {o : HO} (e : ExB p H H') (n : a ≠ p) (h : H a = some o) : H' a = some o := e a o n h
theorem ExB.rfl' {p : Addr} {H : Hp} : ExB p H H := fun _ _ _ h => h
theorem ExB.tr {p : Addr} {H H1 H2 : Hp} (a : ExB p H H1) (b : ExB p H1 H2) : ExB p H H2 := fun x o n h => b x o n (a x o n h)
theorem Ex.b {p : Addr} {H H1 : Hp} (a : Ex H H1) : ExB p H H1 := fun x o _ h => a x o h
theorem ExB.upd {p : Addr} {H : Hp} {o : HO} : ExB p H (upd H p o) := fun a u n h => by rw [upd_ne n]; exact h
def Spr (H : Hp) (p : Addr) : Prop := ∃ a b c, H p = some (.lst [.int a, .int b, .int c]) ∧ 0 ≤ a ∧ 0 ≤ b ∧ b < 1000000007
theorem Spr.go {p : Addr} {H H' : Hp} (s : Spr H p) (e : Ex H H') : Spr H' p := let ⟨a, b, c, h, r⟩ := s; ⟨a, b, c, e _ _ h, r⟩
theorem Spr.ne {p q : Addr} {H : Hp} (s : Spr H p) (h : H q = none) : q ≠ p := let ⟨_, _, _, h', _⟩ := s; (ne_of_none h' h).symm
theorem Spr.neT {p q : Addr} {H : Hp} {xs : List V} (s : Spr H p) (h : H q = some (.tup xs)) : q ≠ p := let ⟨_, _, _, h', _⟩ := s; (ne_of h' h (by intro z; cases z)).symm
theorem Spr.neI {p q C dx : Addr} {H : Hp} {fs} (s : Spr H p) (h : H q = some (.ins C dx fs)) : q ≠ p := let ⟨_, _, _, h', _⟩ := s; (ne_of h' h (by intro z; cases z)).symm
theorem Spr.neF {p q : Addr} {H : Hp} {o u} (s : Spr H p) (h : H q = some (.frz o u)) : q ≠ p := let ⟨_, _, _, h', _⟩ := s; (ne_of h' h (by intro z; cases z)).symm
/-! ### builtins -/
def rInt1 : List V → Hp → VK → Prop := fun xs H Q => (∃ i, xs = [.int i] ∧ Q (.int i) H) ∨ ∃ k, xs = [.bl k] ∧ Q (.int (if k then 1 else 0)) H
theorem r_int {i : Int} {H : Hp} {Q : VK} (q : Q (.int i) H) : rInt1 [.int i] H Q := .inl ⟨i, rfl, q⟩
def rAbs : List V → Hp → VK → Prop := fun xs H Q => ∃ i, xs = [.int i] ∧ Q (.int (if i < 0 then -i else i)) H
theorem r_abs {i : Int} {H : Hp} {Q : VK} (q : Q (.int (if i < 0 then -i else i)) H) : rAbs [.int i] H Q := ⟨i, rfl, q⟩
def rMax2 : List V → Hp → VK → Prop := fun xs H Q => ∃ i j, xs = [.int i, .int j] ∧ Q (.int (if j > i then j else i)) H
theorem r_max {i j : Int} {H : Hp} {Q : VK} (q : Q (.int (if j > i then j else i)) H) : rMax2 [.int i, .int j] H Q := ⟨i, j, rfl, q⟩
def rMin2 : List V → Hp → VK → Prop := fun xs H Q => ∃ i j, xs = [.int i, .int j] ∧ Q (.int (if j < i then j else i)) H
theorem r_min {i j : Int} {H : Hp} {Q : VK} (q : Q (.int (if j < i then j else i)) H) : rMin2 [.int i, .int j] H Q := ⟨i, j, rfl, q⟩
def rLen (K : PySem.W.Frag) : List V → Hp → VK → Prop := fun xs H Q => ∃ x n, xs = [x] ∧ LenV K x H n ∧ Q (.int n) H
theorem r_lenL {K : PySem.W.Frag} {p : Addr} {xs : List V} {H : Hp} {Q : VK} (h : H p = some (.lst xs)) (q : Q (.int xs.length) H) : rLen K [.ref p] H Q := ⟨_, _, rfl, .inl ⟨xs, SqL.of h, rfl⟩, q⟩
theorem r_lenL' {K : PySem.W.Frag} {p : Addr} {xs : List V} {H : Hp} {Q : VK} (h : SqL K H p xs) (q : Q (.int xs.length) H) : rLen K [.ref p] H Q := ⟨_, _, rfl, .inl ⟨xs, h, rfl⟩, q⟩
theorem r_lenT {K : PySem.W.Frag} {p : Addr} {xs : List V} {H : Hp} {Q : VK} (h : H p = some (.tup xs)) (q : Q (.int xs.length) H) : rLen K [.ref p] H Q := ⟨_, _, rfl, .inr ⟨xs, SqT.of h, rfl⟩, q⟩
section
variable {X : Cx} {H : Hp} {Q : VK} {i j : Int}
/-- // of any size -/
theorem o_fdivW (c : 0 < j ∧ j.natAbs.log2 < 9000) (q : Q (.int (i / j)) H) : opR X .FloorDiv (.int i) (.int j) H Q := o_of op_fdivW ⟨i, j, rfl, rfl, c, q⟩
theorem op_fdivWN : OpR X (binaryOp .FloorDiv) (rI (fun _ j => j ≠ 0 ∧ j.natAbs.log2 < 9000) fun i j => .int (i.fdiv j)) := opI fun _ _ _ _ _ _ _ hc q => PyProof.Rows.floordiv_int hc.1 q (.inl (PyProof.noPylong_of_log2 hc.2))
theorem o_fdivWN (c : j ≠ 0 ∧ j.natAbs.log2 < 9000) (q : Q (.int (i.fdiv j)) H) : opR X .FloorDiv (.int i) (.int j) H Q := o_of op_fdivWN ⟨i, j, rfl, rfl, c, q⟩
theorem o_mulW (c : CMulW i j) (q : Q (.int (i * j)) H) : opR X .Mult (.int i) (.int j) H Q := o_of op_mulW ⟨i, j, rfl, rfl, c, q⟩
theorem o_modN (c : j ≠ 0) (q : Q (.int (i.fmod j)) H) : opR X .Mod (.int i) (.int j) H Q := o_of op_modN ⟨i, j, rfl, rfl, c, q⟩
theorem b_int {x : Str} (bn : Bn X x (.type "int")) : Fn X x rInt1 := ct_mk call_int1 bn
theorem b_abs {x : Str} (bn : Bn X x (.builtin "abs")) : Fn X x rAbs := cb_mk call_abs bn
theorem b_max {x : Str} (hc : X.calm = true) (bn : Bn X x (.builtin "max")) : Fn X x rMax2 := cb_mk (call_max2 hc) bn
theorem b_min {x : Str} (hc : X.calm = true) (bn : Bn X x (.builtin "min")) : Fn X x rMin2 := cb_mk (call_min2 hc) bn
theorem b_len {x : Str} (bn : Bn X x (.builtin "len")) : Fn X x (rLen X.K) := cb_mk call_len bn
end
/-! ### a class's own special methods -/
/-- what a call of the class's def m promises, at any depth near the running body -/
structure Dm (X : Cx) (C : Addr) (m : Str) (sp : List V → Hp → VK → Prop) : Prop where
  ex : ∃ (f : Addr) (CX : CXT) (n : Nat) (s : Sp) (E : XK), PySem.W.findIn X.K (.ref C) m = some (some (.ref f)) ∧ PySem.W.isFn X.K (.ref f) = true ∧
    FnR X.prog X.w X.K X.mg X.base CX n f s ∧ Room (n + 4) X.A ∧ Passes CX X E ∧ ∀ vs H Q, sp vs H Q → s vs H Q E
section
variable {X : Cx} {C a dx : Addr} {m : Str} {sp : List V → Hp → VK → Prop} {pins : List (Addr × Obj)} {σ : St} {H : Hp} {s : Shared} {fs : List (Str × V)} {Q : VK}
theorem dm_mk {f : Addr} {CX : CXT} {n : Nat} {fd : FuncData} {ps : List Str} {s0 : Sp} {ds : List Value} {dvs : List V} {E : XK} (h1 : PySem.W.findIn X.K (.ref C) m = some (some (.ref f))) (h2 : PySem.W.isFn X.K (.ref f) = true)
    (F : FnOk X.prog X.w X.K X.mg X.base CX n f fd ps s0) (hb : Binds X.K fd ps ds) (hd : Vals dvs ds) (hr : Room (n + 4) X.A) (hx : Passes CX X E) : Dm X C m (fun vs H Q => s0 (vs ++ dvs) H Q E) := ⟨⟨f, CX, n, _, E, h1, h2, F.raw hb hd, hr, hx, fun _ _ _ h => h⟩⟩
theorem Dm.imp {sp' : List V → Hp → VK → Prop} (D : Dm X C m sp) (h : ∀ vs H Q, sp' vs H Q → sp vs H Q) : Dm X C m sp' := by
  obtain ⟨f, CX, n, s, E, h1, h2, F, hr, hx, hs⟩ := D.ex
  exact ⟨⟨f, CX, n, s, E, h1, h2, F, hr, hx, fun vs H Q q => hs vs H Q (h vs H Q q)⟩⟩
/-- the callee at a place A' of the same frames -/
theorem dm_run {A' : Around} {f : Addr} {CX : CXT} {n : Nat} {s0 : Sp} {E : XK} {vs : List V} {us : List Value} (F : FnR X.prog X.w X.K X.mg X.base CX n f s0) (hr : Room n A') (e0 : Env0 X.prog X.w X.K X.mg X.base A' X.stack s H) (hx : Passes CX X E)
    (I : Inv X pins σ H s) (r : Vals vs us) (h : s0 vs H Q E) : wpAny (model X.prog X.w) A' (call (.ref f) us) (EP X pins σ Q) X.xe s := wpAny_call (SlX.run_at F hr e0 hx I r h)
theorem ins_at (I : Inv X pins σ H s) (e : H a = some (.ins C dx fs)) : ∃ ox od, PySem.W.InstAt s.heap a ox C (some od) := by
  obtain ⟨mA, O, _⟩ := ins_get I.hok e
  obtain ⟨od, J, _⟩ := O.look
  exact ⟨_, od, J⟩
theorem EP.str {v : Value} {s' : Shared} {Q : Value → Shared → Prop} (z : ∃ x H', Inv X pins σ H' s' ∧ RelV x v ∧ ∃ t, x = .str t ∧ ∀ u, v = .str t u → Q v s') : PySem.W.StrBack Q v s' := by
  obtain ⟨x, H', I', r, t, rfl, q⟩ := z
  obtain ⟨u, rfl⟩ := r
  exact q u rfl
/-- what is asked of a def that shows the object -/
def tSh (sp : List V → Hp → VK → Prop) (C : Addr) (x : V) (H : Hp) (Q : VK) : Prop := ∃ a dx fs, x = .ref a ∧ H a = some (.ins C dx fs) ∧ sp [x] H fun z H' => ∃ t, z = .str t ∧ Q z H'
theorem strback {v : Value} {s' : Shared} (z : EP X pins σ (fun z H' => ∃ t, z = .str t ∧ Q z H') v s') : PySem.W.StrBack (EP X pins σ Q) v s' := by
  obtain ⟨x, H', I', r, t, rfl, q⟩ := z
  obtain ⟨u, rfl⟩ := r
  exact ⟨.str t, H', I', ⟨u, rfl⟩, q⟩
/-- str(o), o's class has its own __str__ -/
theorem call_strO (D : Dm X C "__str__" sp) : CallR X (.type "str") (fun xs H Q => ∃ x, xs = [x] ∧ tSh sp C x H Q) := by
  intro pins s σ H xs us Q I r h
  obtain ⟨x, rfl, a, dx, fs, rfl, e, q⟩ := h
  obtain ⟨u, rfl, ru⟩ := vals1 r
  cases ru
  obtain ⟨f, CX, n, s0, E, h1, h2, F, hr, hx, hs⟩ := D.ex
  obtain ⟨ox, od, J⟩ := ins_at I e
  have r1 := hr.in1
  have r2 := r1.in1
  refine PySem.W.kso_call r2.units0 I.kIn J h1 h2 ?_
  exact wpAny_mono (dm_run F (r2.mono (by omega)) I.env0.in1.in1 hx I (.cons (show RelV (.ref a) _ from rfl) .nil) (hs _ _ _ q)) (fun _ _ z => strback z) fun _ _ z => z
/-- repr(o) -/
theorem call_reprO (D : Dm X C "__repr__" sp) : CallR X (.builtin "repr") (fun xs H Q => ∃ x, xs = [x] ∧ tSh sp C x H Q) := by
  intro pins s σ H xs us Q I r h
  obtain ⟨x, rfl, a, dx, fs, rfl, e, q⟩ := h
  obtain ⟨u, rfl, ru⟩ := vals1 r
  cases ru
  obtain ⟨f, CX, n, s0, E, h1, h2, F, hr, hx, hs⟩ := D.ex
  obtain ⟨ox, od, J⟩ := ins_at I e
  obtain ⟨m, hF⟩ := I.fr
  have r1 := hr.in1
  refine PySem.W.repr_K r1.units0 hF I.ok.mod.kin J h1 h2 ?_
  exact wpAny_mono (dm_run F (r1.mono (by omega)) I.env0.in1 hx I (.cons (show RelV (.ref a) _ from rfl) .nil) (hs _ _ _ q)) (fun _ _ z => strback z) fun _ _ z => z
/-- {o} in an f-string -/
theorem e_fmtO {e : Expr} {pos : Pos} (D : Dm X C "__str__" sp) (hf : PySem.W.findIn X.K (.ref C) "__format__" = some (some (.builtin "object.__format__"))) (hm : PySem.W.mroIn X.K C (.type "object") = some true)
    (h : Go X e σ H fun x H1 => tSh sp C x H1 Q) : Go X (.FormattedValue e (-1) none pos) σ H Q := by
  intro pins s I
  refine wpAny_FormattedValue_plain (thn (h pins s I) fun v s1 hv => ?_)
  obtain ⟨x, H1, I1, r1, a, dx, fs, rfl, e1, q⟩ := hv
  cases r1
  obtain ⟨f, CX, n, s0, E, h1, h2, F, hr, hx, hs⟩ := D.ex
  obtain ⟨ox, od, J⟩ := ins_at I1 e1
  have r2 := hr.in1
  have I2 := I1.tok (s1.toks + 1)
  refine PySem.W.kfo_fieldS r2.units0 I1.kIn J hf hm h1 h2 ?_
  exact wpAny_mono (dm_run F (r2.mono (by omega)) I2.env0.in1 hx I2 (.cons (show RelV (.ref a) _ from rfl) .nil) (hs _ _ _ q)) (fun _ _ z => strback z) fun _ _ z => z
/-- x == y by the class's own __eq__ -/
theorem op_eqO (D : Dm X C "__eq__" sp) : OpR X (compareOp .Eq) (fun x y H Q => ∃ a dx fs t, x = .ref a ∧ H a = some (.ins C dx fs) ∧ TyX X.K H y t ∧ PySem.W.notFirst X.K C t = true ∧ sp [x, y] H Q) := by
  intro pins s σ H x y v u Q I rx ry h
  obtain ⟨a, dx, fs, t, rfl, e, ty, nf, q⟩ := h
  cases rx
  obtain ⟨f, CX, n, s0, E, h1, h2, F, hr, hx, hs⟩ := D.ex
  obtain ⟨ox, od, J⟩ := ins_at I e
  obtain ⟨m, hF⟩ := I.fr
  obtain ⟨P, kx, hP, _⟩ := kit_of I ry ty
  refine PySem.W.cmp_ofEq (PySem.W.cmp_K hr.units0 hF I.ok.mod.kin J (kx.ty _ _ I.kIn hP) nf h1 h2 ?_)
  refine wpAny_mono (dm_run F (hr.mono (by omega)) I.env0 hx I (.cons (show RelV (.ref a) _ from rfl) (.cons ry .nil)) (hs _ _ _ q)) (fun v s' z => ?_) fun _ _ z => z
  obtain ⟨z', H', I', rz, qz⟩ := z
  exact SlX.cmpback rz ⟨z', H', I', rz, qz⟩
end
/-! ### attributes by values -/
def atR (X : Cx) (f : Str) (x : V) (H : Hp) (Q : VK) : Prop := ∀ pins σ s v, Inv X pins σ H s → RelV x v → wpAny (model X.prog X.w) X.A (getAttr v f true) (EP X pins σ Q) X.xe s
section
variable {X : Cx} {C a dx : Addr} {f : Str} {m : Str} {sp : List V → Hp → VK → Prop} {σ : St} {H : Hp} {fs : List (Str × V)} {Q : VK} {e o : Expr} {pos : Pos} {v : V}
theorem e_attr (hb : attributeBase e f X.env (eval e X.env) = eval e X.env) (h : Go X e σ H fun x H1 => atR X f x H1 Q) : Go X (.Attribute e f pos) σ H Q := fun pins s I =>
  attr_of hb (thn (h pins s I) fun v s1 ⟨x, H1, I1, r1, q⟩ => q pins σ s1 v I1 r1)
theorem at_fld (c : Cls X.K C) (n : NoAttr X.K C f) (h : H a = some (.ins C dx fs)) (l : fs.lookup f = some v) (q : Q v H) : atR X f (.ref a) H Q := fun pins σ s u I r => by
  cases r
  exact getattr_ok I h c n l fun u s' I' r' => ⟨v, H, I', r', q⟩
/-- a property of the class -/
structure Pr (X : Cx) (C : Addr) (f : Str) (sp : List V → Hp → VK → Prop) : Prop where
  ex : ∃ (p g : Addr) (CX : CXT) (n : Nat) (fd : FuncData) (ps : List Str) (s0 : Sp) (ds : List Value) (dvs : List V) (E : XK), PropOf X.K C f p g ∧ FnOk X.prog X.w X.K X.mg X.base CX n g fd ps s0 ∧ Room (n + 1) X.A ∧ Binds X.K fd ps ds ∧ Vals dvs ds ∧ Passes CX X.nox E ∧ ∀ x H Q, sp [x] H Q → s0 (x :: dvs) H Q E
theorem at_prop (D : Pr X C f sp) (c : Cls X.K C) (h : H a = some (.ins C dx fs)) (q : sp [.ref a] H Q) : atR X f (.ref a) H Q := fun pins σ s u I r => by
  cases r
  obtain ⟨p, g, CX, n, fd, ps, s0, ds, dvs, E, hp, F, hr, hb, hd, hx, hs⟩ := D.ex
  exact getprop_ok I h c hp F hr hb hd hx (hs _ _ _ q)
/-! ### texts put together -/
theorem e_fmt (h : Go X e σ H fun x H1 => (∃ y : Str, x = .str y ∧ y.length ≤ sizeLine ∧ Q (.str y) H1) ∨ ∃ i : Int, x = .int i ∧ i.natAbs.log2 < 1920 ∧ Q (.str (toString i)) H1) : Go X (.FormattedValue e (-1) none pos) σ H Q := ge (pe_fmt pe) h
/-- the parts of an f-string, from acc on -/
def Gj (X : Cx) : List Expr → Str → St → Hp → (Str → Hp → Prop) → Prop
  | [], acc, _, H, Q => Q acc H
  | e :: es, acc, σ, H, Q => Go X e σ H fun x H1 => ∃ y : Str, x = .str y ∧ (acc ++ y).length ≤ sizeLine ∧ Gj X es (acc ++ y) σ H1 Q
theorem pj_go : ∀ es : List Expr, ∃ ts : List TE, PJ X es ts ∧ ∀ acc σ H Q, Gj X es acc σ H Q → tJs ts acc σ H Q
  | [] => ⟨[], .nil, fun _ _ _ _ h => h⟩
  | e :: es => by
    obtain ⟨ts, p, k⟩ := pj_go es
    refine ⟨Go X e :: ts, .cons pe p, fun acc σ H Q h => ?_⟩
    exact fun pins s I => thn (h pins s I) fun u s1 ⟨x, H1, I1, r, y, e1, hl, q⟩ => ⟨x, H1, I1, r, y, e1, hl, k _ _ _ _ q⟩
theorem e_fstr {e1 e2 : Expr} {es : List Expr} (h : Gj X (e1 :: e2 :: es) Str.empty σ H fun t H' => Q (.str t) H') : Go X (.JoinedStr (e1 :: e2 :: es) pos) σ H Q := by
  obtain ⟨ts, p, k⟩ := pj_go (X := X) (e1 :: e2 :: es)
  exact ge (pe_joined p) (k _ _ _ _ h)
theorem e_fstr1 (h : Go X e σ H Q) : Go X (.JoinedStr [e] pos) σ H Q := ge (pe_joined1 pe) h
theorem j_nil {acc : Str} {Q : Str → Hp → Prop} (q : Q acc H) : Gj X [] acc σ H Q := q
theorem j_cons {acc : Str} {es : List Expr} {Q : Str → Hp → Prop} (h : Go X e σ H fun x H1 => ∃ y : Str, x = .str y ∧ (acc ++ y).length ≤ sizeLine ∧ Gj X es (acc ++ y) σ H1 Q) : Gj X (e :: es) acc σ H Q := h
/-! ### isinstance -/
theorem b_isi {x : Str} (bn : Bn X x (.builtin "isinstance")) : Fn X x (rIsi X.K) := cb_mk call_isi bn
theorem r_isi {K : PySem.W.Frag} {x c : V} {t u : Value} {b : Bool} (hc : ClsV c u) (ty : TyX K H x t) (k : PySem.W.kitOne K t u = some b) (q : Q (.bl b) H) : rIsi K [x, c] H Q := ⟨x, c, t, u, b, rfl, hc, ty, k, q⟩
/-! ### small operators -/
theorem o_subB {p q : Bool} (h : Q (.int (PyProof.Rows.b2i p - PyProof.Rows.b2i q)) H) : opR X .Sub (.bl p) (.bl q) H Q := fun pins σ s v u I r1 r2 => by
  cases r1
  cases r2
  exact PyProof.Rows.sub_bool ⟨.int _, H, I.tok _, ⟨_, rfl⟩, h⟩
/-! ### strings and lists of the builtins -/
theorem b_strI {x : Str} (bn : Bn X x (.type "str")) : Fn X x (fun xs H Q => ∃ i : Int, xs = [.int i] ∧ i.natAbs.log2 < 1920 ∧ Q (.str (toString i)) H) := ct_mk call_str_int bn
end
/-! ### a, b = x, y of local names -/
structure Sk (X : Cx) (x : Str) : Prop where
  s : X.env.scope.names.lookup x = some .local
theorem sw_by {X : Cx} {sc : Scope} {tg : List Expr} {v : Expr} {r : Sem (Option (List Str))} (hsc : X.env.scope = sc) (h : ∀ env : Env, swappedStores tg v { env with scope := sc } = r) : swappedStores tg v X.env = r := by
  have q := h X.env
  rw [← hsc] at q
  exact q
/-! ### while -/
section
variable {X : Cx} {c : Expr} {body : List Stmt} {D : Ends} {σ : St} {H : Hp} {pos : Pos}
/-- W: what holds ahead of each turn, by a number that falls -/
theorem s_wh (hp : PassesOwn (model X.prog X.w) X.A X.env X.xe) (W : Nat → St → Hp → Prop) (m : Nat) (w0 : W m σ H)
    (hs : ∀ m σ H, W m σ H → Gt X c σ H fun b H1 => cnd b (∃ N : St → Hp → Prop, (∀ σ' H', N σ' H' → ∃ m', m' < m ∧ W m' σ' H') ∧ Gb X body { D with nx := N, ct := N, bk := D.nx } σ H1) (D.nx σ H1)) : Gs X (.While c body [] pos) D σ H := s_while hp ⟨W, ⟨m, w0⟩, hs⟩
end
theorem e_bty {X : Cx} {σ : St} {H : Hp} {Q : VK} {x : Str} {pos : Pos} {T : String} (g : Bn X x (.type T)) (q : Q (.ty T) H) : Go X (.Name x pos) σ H Q := e_blt g (v := .ty T) rfl q
theorem gcdm {x y : Int} (hx : 0 ≤ x) (hy : 0 ≤ y) : Int.gcd y (x % y) = Int.gcd x y := by
  obtain ⟨n, rfl⟩ := Int.eq_ofNat_of_zero_le hx
  obtain ⟨m, rfl⟩ := Int.eq_ofNat_of_zero_le hy
  rw [← Int.natCast_emod]
  simp only [Int.gcd, Int.natAbs_natCast]
  rw [Nat.gcd_comm m, ← Nat.gcd_rec, Nat.gcd_comm]
/-! ### fractions in lowest terms -/
def dv (a b : Int) : Int := if b < 0 then 0 - (Int.gcd a b : Int) else (Int.gcd a b : Int)
def low (a b : Int) : Int × Int := (Int.fdiv a (dv a b), Int.fdiv b (dv a b))
theorem dv_ne {a b : Int} (h : b ≠ 0) : dv a b ≠ 0 := by
  have h1 : Int.gcd a b ≠ 0 := fun e => h (Int.gcd_eq_zero_iff.mp e).2
  unfold dv
  split <;> omega
theorem dv_abs (a b : Int) : (dv a b).natAbs = Int.gcd a b := by
  unfold dv
  split <;> omega
theorem dv_l (a b : Int) : dv a b ∣ a := by
  rw [← Int.natAbs_dvd_natAbs, dv_abs]
  exact Nat.gcd_dvd_left _ _
theorem dv_r (a b : Int) : dv a b ∣ b := by
  rw [← Int.natAbs_dvd_natAbs, dv_abs]
  exact Nat.gcd_dvd_right _ _
theorem low_l (a b : Int) : (low a b).1 * dv a b = a := Int.fdiv_mul_cancel (dv_l a b)
theorem low_r (a b : Int) : (low a b).2 * dv a b = b := Int.fdiv_mul_cancel (dv_r a b)
theorem low_pos {a b : Int} (h : b ≠ 0) : 0 < (low a b).2 := by
  have e := low_r a b
  have n := dv_ne (a := a) h
  by_cases hb : b < 0
  · have d : dv a b < 0 := by
      have q : dv a b = 0 - (Int.gcd a b : Int) := by unfold dv; rw [if_pos hb]
      omega
    by_cases z : 0 < (low a b).2
    · exact z
    · have := Int.mul_nonneg_of_nonpos_of_nonpos (a := (low a b).2) (b := dv a b) (by omega) (by omega)
      omega
  · have d : 0 < dv a b := by
      have q : dv a b = (Int.gcd a b : Int) := by unfold dv; rw [if_neg hb]
      omega
    by_cases z : 0 < (low a b).2
    · exact z
    · have := Int.mul_nonpos_of_nonpos_of_nonneg (a := (low a b).2) (b := dv a b) (by omega) (by omega)
      omega
theorem low_gcd {a b : Int} (h : b ≠ 0) : Int.gcd (low a b).1 (low a b).2 = 1 := by
  have g : 0 < Int.gcd a b := Nat.pos_of_ne_zero fun e => h (Int.gcd_eq_zero_iff.mp e).2
  have e1 : Int.gcd ((low a b).1 * dv a b) ((low a b).2 * dv a b) = Int.gcd (low a b).1 (low a b).2 * (dv a b).natAbs := Int.gcd_mul_right ..
  rw [low_l, low_r, dv_abs] at e1
  exact (Nat.eq_of_mul_eq_mul_right g (by omega : 1 * Int.gcd a b = Int.gcd (low a b).1 (low a b).2 * Int.gcd a b)).symm
/-- lowest terms are one -/
theorem low_of {a b x y k : Int} (hk : k ≠ 0) (hy : 0 < y) (g : Int.gcd x y = 1) (ha : a = x * k) (hb : b = y * k) : low a b = (x, y) := by
  subst ha
  subst hb
  have e : Int.gcd (x * k) (y * k) = k.natAbs := by rw [Int.gcd_mul_right, g, Nat.one_mul]
  have d : dv (x * k) (y * k) = k := by
    unfold dv
    rw [e]
    by_cases z : k < 0
    · rw [if_pos (Int.mul_neg_of_pos_of_neg hy z)]
      omega
    · rw [if_neg (by have := Int.mul_nonneg (Int.le_of_lt hy) (by omega : 0 ≤ k); omega)]
      omega
  unfold low
  rw [d, Int.mul_fdiv_cancel _ hk, Int.mul_fdiv_cancel _ hk]
theorem low_self {x y : Int} (hy : 0 < y) (g : Int.gcd x y = 1) : low x y = (x, y) := low_of (k := 1) (by decide) hy g (by omega) (by omega)
theorem low_one (x : Int) : low x 1 = (x, 1) := low_self (by decide) (by simp)
theorem low_le {a b : Int} (h : b ≠ 0) : (low a b).1.natAbs ≤ a.natAbs ∧ (low a b).2.natAbs ≤ b.natAbs := by
  have g : 0 < (dv a b).natAbs := by have := dv_ne (a := a) h; omega
  have e1 := congrArg Int.natAbs (low_l a b)
  have e2 := congrArg Int.natAbs (low_r a b)
  rw [Int.natAbs_mul] at e1 e2
  constructor
  · rw [← e1]; exact Nat.le_mul_of_pos_right _ g
  · rw [← e2]; exact Nat.le_mul_of_pos_right _ g
theorem dv_le {a b : Int} (h : b ≠ 0) : (dv a b).natAbs ≤ b.natAbs := by
  rw [dv_abs]
  exact Nat.le_of_dvd (by omega) (Nat.gcd_dvd_right _ _)
theorem log_le {n m : Nat} (h : n ≤ m) : n.log2 ≤ m.log2 := by
  by_cases z : n = 0
  · subst z; simp
  · exact (Nat.le_log2 (by omega)).mpr (Nat.le_trans (Nat.log2_self_le z) h)
/-- the text of a fraction in lowest terms -/
def nTxt (x y : Int) : Str := if y = 1 then toString x else toString x ++ "/" ++ toString y
def nF (x y : Int) : List (Str × V) := [("top", .int x), ("bottom", .int y)]
theorem nF_t (x y : Int) : (nF x y).lookup ("top" : Str) = some (.int x) := rfl
theorem nF_ne : ¬ (("top" : Str) = "bottom") := by decide +kernel
theorem nF_b (x y : Int) : (nF x y).lookup ("bottom" : Str) = some (.int y) := by
  unfold nF
  simp [List.lookup, show (("bottom" : Str) == "top") = false by decide +kernel]
theorem nF_p1 (v : V) : putF "top" v [] = [(("top" : Str), v)] := rfl
theorem nF_p2 (v w : V) : putF "bottom" w [(("top" : Str), v)] = [(("top" : Str), v), (("bottom" : Str), w)] := by
  unfold putF
  rw [if_neg nF_ne]
  rfl
/-- a Number -/
def NumAt (C : Addr) (H : Hp) (p : Addr) (x y : Int) : Prop := ∃ dx, H p = some (.ins C dx (nF x y))
theorem NumAt.go {C : Addr} {H H' : Hp} {p : Addr} {x y : Int} (n : NumAt C H p x y) (e : Ex H H') : NumAt C H' p x y := let ⟨dx, h⟩ := n; ⟨dx, e _ _ h⟩
theorem NumAt.goB {C : Addr} {H H' : Hp} {p q : Addr} {x y : Int} (n : NumAt C H p x y) (s : Spr H q) (e : ExB q H H') : NumAt C H' p x y := let ⟨dx, h⟩ := n; ⟨dx, e _ _ (s.neI h) h⟩
theorem gcd_abs (a b : Int) : Int.gcd (if a < 0 then -a else a) (if b < 0 then -b else b) = Int.gcd a b := by
  split <;> split <;> simp [Int.gcd]
theorem lg {d b : Int} (h : d.natAbs ≤ b.natAbs) (hb : b.natAbs.log2 < 9000) : d.natAbs.log2 < 9000 := Nat.lt_of_le_of_lt (log_le h) hb
/-! ### texts of numbers: their lengths -/
theorem len_i {i : Int} {k : Nat} (h0 : 0 < k) (h : i.natAbs.log2 < k) : (Str.ofString (toString i)).length ≤ k + 1 := by
  have e := int_text_length_le h0 h
  have q := ofString_length (toString i)
  omega
theorem len_app (s t : Str) : (s ++ t).length = s.length + t.length := Str.length_append s t
theorem line_ge : (100000 : Nat) ≤ sizeLine := by decide
theorem kit_same {K : PySem.W.Frag} {t : Value} : PySem.W.kitOne K t t = some true := by unfold PySem.W.kitOne; rw [if_pos (by simp)]
theorem nTxt_len {x y : Int} (hx : x.natAbs.log2 < 1900) (hy : y.natAbs.log2 < 1900) : (nTxt x y).length ≤ 5000 := by
  have h1 := len_i (by decide) hx
  have h2 := len_i (by decide) hy
  unfold nTxt
  split
  · omega
  · rw [len_app, len_app]
    have h3 : (Str.ofString "/").length = 1 := rfl
    omega
/-! ### a comprehension's block -/
def Blk (X : Cx) (scope : Scope) (Y : Cx) : Prop := ∃ (s : Shared) (H : Hp) (C : Addr) (cl : List (Str × Addr)) (fp : List Addr), Y = X.blk s H scope (compEnvC scope cl C X.env) fp
def compS : Expr → Scope
  | .ListComp _ _ sc _ => sc
  | _ => { kind := .function, names := [], isGenerator := false, isCoroutine := false }
/-- the names of the block that runs -/
theorem blk_scope {X Y : Cx} {scope : Scope} (h : Blk X scope Y) : Y.env.scope = relS scope X.env.scope := by
  obtain ⟨s, H, C, cl, fp, rfl⟩ := h
  rfl
theorem sl_blk {X Y : Cx} {scope sc : Scope} {N : List Str} {i : Nat} {x : Str} (h : Blk X scope Y) (hsc : X.env.scope = sc) (hN : X.N = N) (h1 : N[i]? = some x) (h2 : Vis (relS scope sc) x) (h3 : (x == ("__debug__" : Str)) = false) (h4 : (x == ("__classdict__" : Str)) = false) : Sl Y i x := by
  have e := blk_scope h
  obtain ⟨s, H, C, cl, fp, rfl⟩ := h
  exact ⟨by rw [← hN] at h1; exact h1, by rw [e, hsc]; exact h2, h3, h4⟩
theorem sw_blk {X Y : Cx} {scope sc : Scope} {N : List Str} {i : Nat} {x : Str} (h : Blk X scope Y) (hsc : X.env.scope = sc) (hN : X.N = N) (h1 : N[i]? = some x) (h2 : (relS scope sc).names.lookup x = some .local) (nd : N.Nodup) : Sw Y i x := by
  have e := blk_scope h
  obtain ⟨s, H, C, cl, fp, rfl⟩ := h
  exact ⟨by rw [← hN] at h1; exact h1, .inl (by rw [e, hsc]; exact h2), .inr (by rw [e, hsc]; exact h2), by rw [← hN] at nd; exact nd⟩
theorem gl_blk {X Y : Cx} {scope sc : Scope} {x : Str} (h : Blk X scope Y) (hsc : X.env.scope = sc) (h2 : (relS scope sc).names.lookup x = some .globalImplicit) : Gl Y x := by
  have e := blk_scope h
  show Y.env.scope.names.lookup x = _
  rw [e, hsc]
  exact h2
/-- the same code may be called -/
structure Like (X Y : Cx) : Prop where
  prog : Y.prog = X.prog
  w : Y.w = X.w
  K : Y.K = X.K
  mg : Y.mg = X.mg
  base : Y.base = X.base
  A : Y.A = X.A
  calm : Y.calm = X.calm
theorem Blk.like {X Y : Cx} {scope : Scope} (h : Blk X scope Y) : Like X Y := by
  obtain ⟨s, H, C, cl, fp, rfl⟩ := h
  exact ⟨rfl, rfl, rfl, rfl, rfl, rfl, rfl⟩
theorem Like.rfl' {X : Cx} : Like X X := ⟨rfl, rfl, rfl, rfl, rfl, rfl, rfl⟩
/-- a call that never raises, wherever it stands -/
def Cal (X : Cx) (u : Value) (sp : List V → Hp → VK → Prop) : Prop := ∀ Y, Like X Y → CallR Y u sp
theorem cal_fn {X : Cx} {k : Nat} {f : Addr} {fd : FuncData} {ps : List Str} {sq : Sp} {dvs : List V} {ds : List Value} (F : FnOk X.prog X.w X.K X.mg X.base CX0 k f fd ps sq) (hr : Room k X.A) (hb : Binds X.K fd ps ds) (hd : Vals dvs ds) : Cal X (.ref f) (fun vs H Q => sq (vs ++ dvs) H Q E0) := by
  rintro Y ⟨e1, e2, e3, e4, e5, e6, _⟩
  rw [← e1, ← e2, ← e3, ← e4, ← e5] at F
  rw [← e6] at hr
  rw [← e3] at hb
  exact cr_fn F hr hb hd pass0
theorem Cal.at {X Y : Cx} {f : Addr} {x : Str} {sp : List V → Hp → VK → Prop} (c : Cal X (.ref f) sp) (l : Like X Y) (hg : Gl Y x) (hm : X.mg x = some (.ref f)) (hk : PySem.W.keepIn X.K (.ref f) = true) (hdb : (x == ("__debug__" : Str)) = false) : Fn Y x sp :=
  ⟨⟨_, c Y l, .own (by rw [l.mg]; exact hm) (by rw [l.K]; exact hk)⟩, hg, hdb⟩
section
variable {X : Cx} {σ : St} {H : Hp} {Q : VK} {elt iter : Expr} {scope : Scope} {own : List (Str × Nat)} {pos tp : Pos} {tn : Str} {j : Nat}
/-- [elt for tn in iter], by its walk: Pv of the turn and the heap, the new list at D within -/
theorem e_lcw (hc : X.calm = true) (hN : X.N.Nodup) (ok : BlkOk X.N X.env.scope scope own) (hf : ∀ x, foldedSetIterable iter X.env x = pure x) (hw : ∀ Z, Blk X scope Z → Sw Z j tn) (hj : ∀ v, wipe ((wipe σ (own.map (·.2))).set j (some v)) (own.map (·.2)) = wipe σ (own.map (·.2)))
    (h : Gi X (.Name tn tp) iter σ H fun J H1 => ∃ (n : Nat) (G : Hp → Prop) (Y : Nat → Hp → V → Hp → Prop), Walk J n G Y ∧ ∀ D, H1 D = none → ∃ Pv : Nat → Hp → Prop, Pv 0 (upd H1 D (.lst [])) ∧ (∀ i H, i ≤ n → Pv i H → G H) ∧
      (∀ i x H H', i < n → Pv i H → Y i H x H' → ∀ Z, Blk X scope Z → Go Z elt ((wipe σ (own.map (·.2))).set j (some x)) H' fun y H4 => ∃ acc, H4 D = some (.lst acc) ∧ acc.length < sizeLine ∧ Pv (i + 1) (upd H4 D (.lst (acc ++ [y])))) ∧
      ∀ H, Pv n H → Q (.ref D) H) : Go X (.ListComp elt [⟨.Name tn tp, iter, [], 0⟩] scope pos) σ H Q := by
  refine ge (pe_lc (g := gName j) (tt := tYes) (te := fun σ H Q => ∀ Z, Blk X scope Z → Go Z elt σ H Q) hc hN pi ok
    (fun s H C cl fp => ?_) (fun _ _ _ _ _ => pts_nil) (fun s H C cl fp => ⟨fun pins s' σ H Q I h => h _ ⟨s, _, C, cl, fp, rfl⟩ pins s' I⟩) hf) ?_
  · have w := hw _ ⟨s, H, C, cl, fp, rfl⟩
    exact pg_name w.nd w.n w.l w.f
  · intro pins s I
    refine thn (h pins s I) fun v s1 q => thn q fun itv s2 ⟨it, fp, tn, J, H1, e, I2, T, st, f2, n, G, Y, w, k⟩ => ⟨it, fp, tn, J, H1, e, I2, T, st, f2, fun D hD => ?_⟩
    obtain ⟨Pv, h0, hG, hs, hd⟩ := k D hD
    exact lc_it (g := gName j) (tt := tYes) (te := fun σ H Q => ∀ Z, Blk X scope Z → Go Z elt σ H Q) (vs := own.map (·.2)) (σ := σ) (Qd := fun H => Q (.ref D) H) w Pv h0 hG (fun i x H H' hi p y => ⟨hj x, fun Z hZ => hs i x H H' hi p y Z hZ⟩) hd
/-- .. whose elements leave all as it is: R says of each value what it is -/
theorem e_map (hc : X.calm = true) (hN : X.N.Nodup) (ok : BlkOk X.N X.env.scope scope own) (hf : ∀ x, foldedSetIterable iter X.env x = pure x) (hw : ∀ Z, Blk X scope Z → Sw Z j tn) (hj : ∀ v, wipe ((wipe σ (own.map (·.2))).set j (some v)) (own.map (·.2)) = wipe σ (own.map (·.2)))
    (h : Gi X (.Name tn tp) iter σ H fun J H1 => ∃ (n : Nat) (G : Hp → Prop) (Y : Nat → Hp → V → Hp → Prop) (R : Nat → V → Prop), Walk J n G Y ∧ n ≤ 100000 ∧ (∀ H', Ex H1 H' → G H') ∧
      (∀ i x H' H2, i < n → Ex H1 H' → Y i H' x H2 → ∀ Z, Blk X scope Z → Go Z elt ((wipe σ (own.map (·.2))).set j (some x)) H2 fun y H4 => Ex H' H4 ∧ R i y) ∧
      (∀ ys D H', ys.length = n → (∀ i y, ys[i]? = some y → R i y) → H1 D = none → Ex H1 H' → H' D = some (.lst ys) → Q (.ref D) H')) : Go X (.ListComp elt [⟨.Name tn tp, iter, [], 0⟩] scope pos) σ H Q := by
  refine e_lcw hc hN ok hf hw hj fun pins s I => thn (h pins s I) fun v s1 q => thn q fun itv s2 ⟨it, fp, tn, J, H1, e, I2, T, st, f2, n, G, Y, R, w, hn, hG, hs, hd⟩ => ⟨it, fp, tn, J, H1, e, I2, T, st, f2, n, G, Y, w, fun D hD => ?_⟩
  refine ⟨fun i H' => ∃ ys, H' D = some (.lst ys) ∧ ys.length = i ∧ (∀ k y, ys[k]? = some y → R k y) ∧ Ex H1 H', ⟨[], upd_same, rfl, fun k y z => by simp at z, Ex.new hD⟩, fun i H _ ⟨_, _, _, _, e⟩ => hG H e, ?_, ?_⟩
  · rintro i x H2 H3 hi ⟨ys, e1, rfl, hr, ex⟩ hy Z hZ pins s I
    refine thn (hs _ x H2 H3 hi ex hy Z hZ pins s I) fun v s' ⟨y, H4, I4, r4, e4, hR⟩ => ⟨y, H4, I4, r4, ys, e4 _ _ e1, ?_, ys ++ [y], upd_same, by simp, fun k z hz => ?_, fun a o q => ?_⟩
    · have : (100000 : Nat) ≤ sizeLine := by decide
      omega
    · by_cases hk : k < ys.length
      · rw [List.getElem?_append_left hk] at hz
        exact hr k z hz
      · have e : k = ys.length := by
          have := (List.getElem?_eq_some_iff.mp hz).1
          simp at this
          omega
        subst e
        simp at hz
        subst hz
        exact hR
    · rw [upd_ne (ne_of_none q hD)]
      exact e4 _ _ (ex _ _ q)
  · rintro H' ⟨ys, e1, hl, hr, ex⟩
    exact hd ys D H' hl hr hD ex e1
/-- over a text -/
theorem i_str {tg e : Expr} {R : It → Hp → Prop} (h : Go X e σ H fun v H1 => ∃ x, v = .str x ∧ R (Its x) H1) : Gi X tg e σ H R := gi (pi_str pe) h
/-! ### names as a tuple's targets -/
theorem g_tup2 {a b : Str} {pa' pb' : Pos} {i j k : Nat} {v : V} {Q : St → Hp → Prop} (hc : X.calm = true) (w1 : Sw X i a) (w2 : Sw X j b) (h : ∃ p x y, v = .ref p ∧ H p = some (.tup [x, y]) ∧ stR i x σ H fun σ1 H1 => stR j y σ1 H1 Q) : Gg X (.Tuple [.Name a pa', .Name b pb'] k pos) v σ H Q := by
  obtain ⟨p, x, y, e, ht, q⟩ := h
  exact gg (pg_tup (n := 2) hc (pgs_cons (pg_name w1.nd w1.n w1.l w1.f) (pgs_cons (pg_name w2.nd w2.n w2.l w2.f) pgs_nil))) ⟨p, [x, y], e, SqT.of ht, rfl, x, [y], rfl, y, [], rfl, rfl, q⟩
theorem g_tup3 {a b c : Str} {pa' pb' pc' : Pos} {i j l k : Nat} {v : V} {Q : St → Hp → Prop} (hc : X.calm = true) (w1 : Sw X i a) (w2 : Sw X j b) (w3 : Sw X l c) (h : ∃ p x y z, v = .ref p ∧ H p = some (.tup [x, y, z]) ∧ stR i x σ H fun σ1 H1 => stR j y σ1 H1 fun σ2 H2 => stR l z σ2 H2 Q) : Gg X (.Tuple [.Name a pa', .Name b pb', .Name c pc'] k pos) v σ H Q := by
  obtain ⟨p, x, y, z, e, ht, q⟩ := h
  exact gg (pg_tup (n := 3) hc (pgs_cons (pg_name w1.nd w1.n w1.l w1.f) (pgs_cons (pg_name w2.nd w2.n w2.l w2.f) (pgs_cons (pg_name w3.nd w3.n w3.l w3.f) pgs_nil)))) ⟨p, [x, y, z], e, SqT.of ht, rfl, x, [y, z], rfl, y, [z], rfl, z, [], rfl, rfl, q⟩
/-! ### slices, methods of texts -/
theorem e_slS {lo hi : Option Expr} {tl th : TO} {e : Expr} {p2 : Pos} (hl : PO X lo tl) (hu : PO X hi th) (h : Go X e σ H fun x H1 => tl σ H1 fun l H2 => th σ H2 fun u H3 => rSlS x l u H3 Q) : Go X (.Subscript e (.Slice lo hi none p2) pos) σ H Q := ge (pe_slice sl_str pe hl hu) h
theorem e_part {o e : Expr} {apos : Pos} (hs : starEach [e] X.env = [(false, eval e X.env)]) (hbase : attributeBase o "partition" X.env (eval o X.env) = eval o X.env) (hline : (apos.endLine == pos.line) = true)
    (h : Go X o σ H fun x H1 => (∃ a, x = .str a) ∧ Go X e σ H1 fun y H2 => ∃ a b, x = .str a ∧ y = .str b ∧ (b.length == 0) = false ∧ a.length ≤ 100000 ∧ ∀ p H', H2 p = none → Ex H2 H' → H' p = some (.tup [.str (Txt.partition a b).1, .str (Txt.partition a b).2.1, .str (Txt.partition a b).2.2]) → Q (.ref p) H') : Go X (.Call (.Attribute o "partition" apos) [e] [] pos) σ H Q := by
  refine ge (pe_partition pe pe hs hbase hline) ?_
  intro pins s I
  refine thn (h pins s I) fun v s1 ⟨x, H1, I1, r1, q1, q⟩ => ⟨x, H1, I1, r1, q1, fun pins s I => thn (q pins s I) fun u s2 ⟨y, H2, I2, r2, a, b, e1, e2, h1, h2, k⟩ => ⟨y, H2, I2, r2, a, b, e1, by rw [e2], h1, Nat.le_trans h2 (by decide), fun p hp => k p _ hp (Ex.new hp) upd_same⟩⟩
theorem b_all {x : Str} (hc : X.calm = true) (bn : Bn X x (.builtin "all")) : Fn X x (rAll X.K) := cb_mk (cr_all hc) bn
theorem r_all {K : PySem.W.Frag} {p : Addr} {bs : List Bool} (h : H p = some (.lst (bs.map V.bl))) (q : Q (.bl (bs.all id)) H) : rAll K [.ref p] H Q := ⟨p, bs, rfl, SqL.of h, q⟩
def rIntS : List V → Hp → VK → Prop := fun xs H Q => rInt1 xs H Q ∨ ∃ a n, xs = [.str a] ∧ PySem.intText? a = some n ∧ a.length ≤ 640 ∧ Q (.int n) H
theorem b_intS {x : Str} (bn : Bn X x (.type "int")) : Fn X x rIntS := ct_mk (CallR.or call_int1 call_int_str) bn
theorem r_intI {i : Int} (q : Q (.int i) H) : rIntS [.int i] H Q := .inl (r_int q)
theorem r_intT {a : Str} {n : Int} (h : PySem.intText? a = some n) (hl : a.length ≤ 640) (q : Q (.int n) H) : rIntS [.str a] H Q := .inr ⟨a, n, rfl, h, hl, q⟩
/-- one sign in a text -/
theorem c_inS {c : Nat} {z : Str} (q : Q (.bl (decide (c ∈ z.cps.toList))) H) : cmR X .In (.str ⟨#[c]⟩) (.str z) H Q := c_of op_in_sign ⟨c, z, rfl, rfl, q⟩
end
/-! ### texts of numbers, read -/
section
open TL PySem.Builtin PySem.Builtin.Str
theorem np_ok {σ : St} {H : Hp} {Q : Option Int → Hp → Prop} (q : Q none H) : tNoPart σ H Q := q
theorem tp_ok {X : Cx} {e : Expr} {σ : St} {H : Hp} {Q : Option Int → Hp → Prop} (h : Go X e σ H fun x H1 => ∃ i, x = .int i ∧ Q (some i) H1) : tPart (Go X e) σ H Q := h
theorem sls_ok {z : Str} {lo hi : Option Int} {H : Hp} {Q : VK} (hl : z.length ≤ 100000) (q : Q (.str (cutS z lo hi)) H) : rSlS (.str z) lo hi H Q := ⟨z, rfl, Nat.le_trans hl (by decide), q⟩
theorem cutS_1 (z : Str) : cutS z none (some 1) = ⟨(z.cps.toList.take 1).toArray⟩ := by
  unfold cutS
  have e1 : HT.sIx z.length 0 none = 0 := rfl
  have e2 : HT.sIx z.length z.length (some 1) = min 1 z.length := HT.sIx_nat _ _ 1
  rw [e1, e2, List.drop_zero, Nat.sub_zero]
  congr 2
  have hl : z.cps.toList.length = z.length := Array.length_toList
  by_cases h : z.length = 0
  · have : z.cps.toList = [] := List.length_eq_zero_iff.mp (by omega)
    rw [this]
    simp
  · rw [show min 1 z.length = 1 by omega]
theorem cutS_t (z : Str) : cutS z (some 1) none = ⟨(z.cps.toList.drop 1).toArray⟩ := by
  unfold cutS
  have e1 : HT.sIx z.length 0 (some 1) = min 1 z.length := HT.sIx_nat _ _ 1
  have e2 : HT.sIx z.length z.length none = z.length := rfl
  rw [e1, e2]
  have hl : z.cps.toList.length = z.length := Array.length_toList
  congr 2
  by_cases h : z.length = 0
  · have : z.cps.toList = [] := List.length_eq_zero_iff.mp (by omega)
    rw [this]
    simp
  · rw [show min 1 z.length = 1 by omega, List.take_of_length_le (by rw [List.length_drop]; omega)]
theorem str_ext {s t : Str} (h : s.cps.toList = t.cps.toList) : s = t := Str.ext' (Array.ext' h)
theorem slash_tl : tl ("/" : Str) = 47 :: [] := by decide +kernel
theorem dash_tl : tl ("-" : Str) = [45] := by decide +kernel
/-- what partition makes -/
theorem part_of (t : Str) : (∃ a b, t = a ++ ("/" : Str) ++ b ∧ 47 ∉ tl a ∧ Txt.partition t "/" = (a, ("/" : Str), b)) ∨ (47 ∉ tl t ∧ Txt.partition t "/" = (t, Str.empty, Str.empty)) := by
  by_cases h : 47 ∈ tl t
  · refine .inl ?_
    obtain ⟨l, r, e, hl⟩ : ∃ l r, tl t = l ++ 47 :: r ∧ 47 ∉ l := by
      generalize tl t = cs at h
      induction cs with
      | nil => simp at h
      | cons c cs ih =>
        by_cases hc : c = 47
        · subst hc
          exact ⟨[], cs, rfl, by simp⟩
        · obtain ⟨l, r, e, hl⟩ := ih ((List.mem_cons.mp h).resolve_left (Ne.symm hc))
          exact ⟨c :: l, r, by rw [e]; rfl, by simp [hl, Ne.symm hc]⟩
    have et : t = (⟨l.toArray⟩ : Str) ++ ("/" : Str) ++ (⟨r.toArray⟩ : Str) := str_ext (by
      have q : ("/" : Str).cps.toList = [47] := slash_tl
      simp only [Str.cps_append, Array.toList_append, q]
      rw [show t.cps.toList = l ++ 47 :: r from e]
      simp)
    refine ⟨⟨l.toArray⟩, ⟨r.toArray⟩, et, by simpa [tl] using hl, ?_⟩
    conv => lhs; rw [et]
    exact partition_app slash_tl (by simpa [tl] using hl)
  · exact .inr ⟨h, partition_none slash_tl h⟩
theorem part_len (t : Str) : (Txt.partition t "/").1.length ≤ t.length ∧ (Txt.partition t "/").2.2.length ≤ t.length := by
  rcases part_of t with ⟨a, b, e, _, q⟩ | ⟨_, q⟩
  · rw [q, e, len_app, len_app]
    exact ⟨by show a.length ≤ _; omega, by show b.length ≤ _; omega⟩
  · rw [q]
    exact ⟨Nat.le_refl _, Nat.zero_le _⟩
def digs (s : Str) : Bool := decide (s ≠ "") && s.cps.toList.all fun c => decide (c ∈ ("0123456789" : Str).cps.toList)
theorem dig_in {c : Nat} : c ∈ ("0123456789" : Str).cps.toList ↔ 48 ≤ c ∧ c ≤ 57 := by
  have e : ("0123456789" : Str).cps.toList = [48, 49, 50, 51, 52, 53, 54, 55, 56, 57] := by decide +kernel
  rw [e]
  simp
  omega
theorem digs_all {s : Str} (h : digs s = true) : PySem.NumText.AllDigits s.cps.toList ∧ s.cps.toList ≠ [] := by
  unfold digs at h
  rw [Bool.and_eq_true] at h
  refine ⟨fun c hc => dig_in.mp (of_decide_eq_true (List.all_eq_true.mp h.2 c hc)), fun e => of_decide_eq_true h.1 (str_ext (e.trans (by decide +kernel)))⟩
def neg1 (t : Str) : Bool := decide (cutS t none (some 1) = "-")
theorem neg1_of {t : Str} (h : neg1 t = true) : ∃ cs, t.cps.toList = 45 :: cs := by
  have e := of_decide_eq_true h
  rw [cutS_1] at e
  have e2 : t.cps.toList.take 1 = [45] := by
    have q := congrArg (fun s : Str => s.cps.toList) e
    simpa [dash_tl] using q.trans dash_tl
  cases hc : t.cps.toList with
  | nil => rw [hc] at e2; cases e2
  | cons c cs =>
    rw [hc] at e2
    simp at e2
    rw [e2]
    exact ⟨cs, rfl⟩
def numD (t : Str) : Str := if neg1 (Txt.partition t "/").1 = true then cutS (Txt.partition t "/").1 (some 1) none else (Txt.partition t "/").1
def numB (t : Str) : Str := if (Txt.partition t "/").2.1 = "" then "1" else (Txt.partition t "/").2.2
def numV (t : Str) : Int := if neg1 (Txt.partition t "/").1 = true then -((PySem.NumText.digitsVal (numD t).cps.toList : Nat) : Int) else ((PySem.NumText.digitsVal (numD t).cps.toList : Nat) : Int)
def numW (t : Str) : Int := ((PySem.NumText.digitsVal (numB t).cps.toList : Nat) : Int)
def numIn (t : Str) : Option (Int × Int) := if digs (numD t) = true ∧ digs (numB t) = true ∧ numW t ≠ 0 then some (numV t, numW t) else none
theorem cut_len (z : Str) : (cutS z (some 1) none).length ≤ z.length := by
  rw [cutS_t]
  show (z.cps.toList.drop 1).toArray.size ≤ z.cps.size
  simp
theorem numD_len (t : Str) : (numD t).length ≤ t.length := by
  have h := (part_len t).1
  unfold numD
  split
  · exact Nat.le_trans (cut_len _) h
  · exact h
theorem numB_len (t : Str) : (numB t).length ≤ t.length + 1 := by
  have h := (part_len t).2
  unfold numB
  split
  · show 1 ≤ _; omega
  · omega
/-- int(top) -/
theorem int_top {t : Str} (hl : t.length ≤ 600) (h : digs (numD t) = true) : intText? (Txt.partition t "/").1 = some (numV t) := by
  have hp := (part_len t).1
  obtain ⟨hd, hn⟩ := digs_all h
  unfold numV
  unfold numD at hd hn ⊢
  by_cases z : neg1 (Txt.partition t "/").1 = true
  · rw [if_pos z] at hd hn ⊢
    obtain ⟨cs, e⟩ := neg1_of z
    rw [cutS_t, e] at hd hn ⊢
    simp only [List.drop_succ_cons, List.drop_zero, if_pos z] at hd hn ⊢
    exact PySem.intText_neg e hd hn (by omega)
  · rw [if_neg z] at hd hn ⊢
    simp only [if_neg z] at hd hn ⊢
    exact PySem.intText_digits hd hn (by omega)
theorem int_bot {t : Str} (hl : t.length ≤ 600) (h : digs (numB t) = true) : intText? (numB t) = some (numW t) := by
  have hp := numB_len t
  obtain ⟨hd, hn⟩ := digs_all h
  exact PySem.intText_digits hd hn (by omega)
end
/-! ### joining ways -/
theorem go_post {X : Cx} {e : Expr} {σ : St} {H : Hp} {Q : VK} (M : VK) (h : Go X e σ H M) (k : ∀ v H', M v H' → Q v H') : Go X e σ H Q := fun pins s I => thn (h pins s I) fun u s1 ⟨v, H', I', r, q⟩ => ⟨v, H', I', r, k v H' q⟩
theorem gs_post {X : Cx} {st : Stmt} {σ : St} {H : Hp} {D : Ends} (M : St → Hp → Prop) (h : Gs X st { D with nx := M } σ H) (k : ∀ σ' H', M σ' H' → D.nx σ' H') : Gs X st D σ H := fun pins s I => thn (h pins s I) fun f s1 q => by
  cases f with
  | next => obtain ⟨σ', H', I', q⟩ := q; exact ⟨σ', H', I', k _ _ q⟩
  | ret v => exact q
  | brk => exact q
  | cont => exact q
/-! ### for over a tuple, a list, a range: the invariant by the turn -/
section
variable {X : Cx} {σ : St} {H : Hp} {e : Expr} {body : List Stmt} {pos tp : Pos} {D : Ends} {tn : Str} {j : Nat}
theorem s_forT (hp : PassesOwn (model X.prog X.w) X.A X.env X.xe) (hc : X.calm = true) (hf : ∀ x, foldedSetIterable e X.env x = pure x) (w : Sw X j tn)
    (h : Go X e σ H fun x H1 => ∃ a xs, x = .ref a ∧ H1 a = some (.tup xs) ∧ ∃ Pv : Nat → St → Hp → Prop, Pv 0 σ H1 ∧ (∀ i σ H, i ≤ xs.length → Pv i σ H → H a = some (.tup xs)) ∧
      (∀ i x σ H, xs[i]? = some x → Pv i σ H → Gb X body { D with nx := Pv (i + 1), ct := Pv (i + 1), bk := D.nx } (σ.set j (some x)) H) ∧ ∀ σ H, Pv xs.length σ H → D.nx σ H) : Gs X (.For (.Name tn tp) e body [] pos) D σ H := by
  refine gs (ps_for hp hc (pi_tup pe) (pg_name w.nd w.n w.l w.f) pb hf) ?_
  intro pins s I
  refine thn (h pins s I) fun v s1 ⟨x, H1, I1, r, a, xs, e1, ht, Pv, h0, hl, hs, hd⟩ => ⟨x, H1, I1, r, a, e1, ⟨xs, SqT.of ht⟩, ?_⟩
  exact for_tup (K := X.K) (a := a) (xs := xs) Pv h0 (fun i σ H hi p => SqT.of (hl i σ H hi p)) (fun i x σ H hx p => hs i x σ H hx p) hd
theorem s_forL (hp : PassesOwn (model X.prog X.w) X.A X.env X.xe) (hc : X.calm = true) (hf : ∀ x, foldedSetIterable e X.env x = pure x) (w : Sw X j tn)
    (h : Go X e σ H fun x H1 => ∃ a xs, x = .ref a ∧ SqL X.K H1 a xs ∧ ∃ Pv : Nat → St → Hp → Prop, Pv 0 σ H1 ∧ (∀ i σ H, i ≤ xs.length → Pv i σ H → SqL X.K H a xs) ∧
      (∀ i x σ H, xs[i]? = some x → Pv i σ H → Gb X body { D with nx := Pv (i + 1), ct := Pv (i + 1), bk := D.nx } (σ.set j (some x)) H) ∧ ∀ σ H, Pv xs.length σ H → D.nx σ H) : Gs X (.For (.Name tn tp) e body [] pos) D σ H := by
  refine gs (ps_for hp hc (pi_list pe) (pg_name w.nd w.n w.l w.f) pb hf) ?_
  intro pins s I
  refine thn (h pins s I) fun v s1 ⟨x, H1, I1, r, a, xs, e1, ht, Pv, h0, hl, hs, hd⟩ => ⟨x, H1, I1, r, a, e1, ⟨xs, ht⟩, ?_⟩
  exact for_list (K := X.K) (a := a) (xs := xs) Pv h0 hl (fun i x σ H hx p => hs i x σ H hx p) hd
theorem s_forR {a : Expr} {rp cp : Pos} (hp : PassesOwn (model X.prog X.w) X.A X.env X.xe) (hc : X.calm = true) (bn : Bn X "range" (.type "range")) (hst : starEach [a] X.env = [(false, eval a X.env)]) (w : Sw X j tn)
    (h : Go X a σ H fun x H1 => ∃ n : Int, x = .int n ∧ n ≤ 1000000 ∧ -1000000 ≤ n ∧ ∃ Pv : Nat → St → Hp → Prop, Pv 0 σ H1 ∧
      (∀ (i : Nat) σ H, (i : Int) < n → Pv i σ H → Gb X body { D with nx := Pv (i + 1), ct := Pv (i + 1), bk := D.nx } (σ.set j (some (.int (i : Int)))) H) ∧ ∀ σ H, Pv n.toNat σ H → D.nx σ H) : Gs X (.For (.Name tn tp) (.Call (.Name "range" rp) [a] [] cp) body [] pos) D σ H := by
  refine gs (ps_for hp hc (pi_range1 bn.g bn.m pa hst) (pg_name w.nd w.n w.l w.f) pb (by intro _; rfl)) ?_
  refine a_cons hst fun pins s I => thn (h pins s I) fun v s1 ⟨x, H1, I1, r, n, e1, h1, h2, Pv, h0, hs, hd⟩ => ⟨x, H1, I1, r, a_nil ?_⟩
  refine ⟨n, by rw [e1], by omega, by omega, for_range (lo := 0) (n := n.toNat) Pv h0 (fun i σ H hi p => ?_) hd⟩
  have q := hs i σ H (by omega) p
  show Gb X body _ (σ.set j (some (.int (0 + (i : Int))))) H
  rw [Int.zero_add]
  exact q
end
theorem list_of {α : Type} {ys : List α} {f : Nat → α} {n : Nat} (hl : ys.length = n) (h : ∀ (i : Nat) (y : α), ys[i]? = some y → y = f i) : ys = (List.range n).map f := by
  apply List.ext_getElem?
  intro i
  by_cases hi : i < n
  · have e : ys[i]? = some (ys[i]'(by omega)) := List.getElem?_eq_getElem (by omega)
    rw [e, h i _ e]
    simp [hi]
  · rw [List.getElem?_eq_none (by omega), List.getElem?_eq_none (by simp; omega)]
/-- the list of a text's signs, each by f -/
theorem signs_of {z : Str} {ys : List V} {f : Nat → Bool} (hl : ys.length = z.cps.size) (h : ∀ (i : Nat) (y : V), ys[i]? = some y → ∃ c, z.cps[i]? = some c ∧ y = V.bl (f c)) : ys = (z.cps.toList.map f).map V.bl := by
  apply List.ext_getElem?
  intro i
  by_cases hi : i < z.cps.size
  · have e : ys[i]? = some (ys[i]'(by omega)) := List.getElem?_eq_getElem (by omega)
    obtain ⟨c, hc, e2⟩ := h i _ e
    rw [e, e2, List.getElem?_map, List.getElem?_map]
    rw [show z.cps.toList[i]? = z.cps[i]? from Array.getElem?_toList, hc]
    rfl
  · rw [List.getElem?_eq_none (by omega), List.getElem?_eq_none (by simp; omega)]
theorem dval_lt : ∀ (cs : List Nat) (acc : Nat), PySem.NumText.AllDigits cs → cs.foldl (fun acc c => acc * 10 + (c - 48)) acc < (acc + 1) * 16 ^ cs.length
  | [], acc, _ => by simp
  | c :: cs, acc, h => by
    have h1 := h.head
    have ih := dval_lt cs (acc * 10 + (c - 48)) h.tail
    rw [List.foldl_cons, List.length_cons, Nat.pow_succ]
    refine Nat.lt_of_lt_of_le ih ?_
    have e : (acc + 1) * (16 ^ cs.length * 16) = ((acc + 1) * 16) * 16 ^ cs.length := by
      rw [Nat.mul_comm (16 ^ cs.length), Nat.mul_assoc]
    rw [e]
    exact Nat.mul_le_mul_right _ (by omega)
theorem dval_log {cs : List Nat} {n : Nat} (h : PySem.NumText.AllDigits cs) (hl : cs.length ≤ n) : (PySem.NumText.digitsVal cs).log2 < 4 * n + 1 := by
  have h1 := dval_lt cs 0 h
  have h2 : (0 + 1) * 16 ^ cs.length ≤ 2 ^ (4 * n) := by
    rw [Nat.zero_add, Nat.one_mul, Nat.pow_mul]
    exact Nat.pow_le_pow_right (by decide) hl
  have h3 : PySem.NumText.digitsVal cs < 2 ^ (4 * n) := Nat.lt_of_lt_of_le h1 h2
  by_cases z : PySem.NumText.digitsVal cs = 0
  · rw [z]; simp
  · exact Nat.lt_succ_of_lt ((Nat.log2_lt z).mpr h3)
theorem numW_log {t : Str} (hl : t.length ≤ 600) (h : digs (numB t) = true) : (numW t).natAbs.log2 < 9000 := by
  have q := numB_len t
  have e : (numB t).cps.toList.length = (numB t).length := Array.length_toList
  have := dval_log (n := 601) (digs_all h).1 (by omega)
  unfold numW
  rw [Int.natAbs_natCast]
  omega
/-! ### keywords, static methods -/
def Gk (X : Cx) (kws : List Keyword) : TA := fun σ H Q => ∀ pos pins s, Inv X pins σ H s → wpAny (model X.prog X.w) X.A (evalAll ((backToKw pos (keywordEach kws X.env)).map (·.2))) (AP X pins σ Q) X.xe s
section
variable {X : Cx} {σ : St} {H : Hp} {Q : VK} {e o : Expr} {kws : List Keyword} {pos apos p : Pos} {x m : Str} {C g : Addr} {mc : Value} {ks : List Str}
theorem pk : PK X kws (Gk X kws) := ⟨fun pos pins s σ H Q I h => h pos pins s I⟩
theorem k_nil {R : List V → Hp → Prop} (q : R [] H) : Gk X [] σ H R := fun pos pins s I => pk_nil.run pos pins s σ H R I q
theorem k_cons {nm : Option Str} {kpos : Pos} {R : List V → Hp → Prop} (h : Go X e σ H fun v H1 => Gk X kws σ H1 fun vs H2 => R (v :: vs) H2) : Gk X (⟨nm, e, kpos⟩ :: kws) σ H R := fun pos pins s I => (pk_cons pe pk).run pos pins s σ H R I h
/-- a call by keywords alone -/
def CallK (X : Cx) (u : Value) (ks : List Str) (sp : List V → Hp → VK → Prop) : Prop := ∀ pins s σ H zs ws Q, Inv X pins σ H s → Vals zs ws → zs.length = ks.length → sp zs H Q → wpAny (model X.prog X.w) X.A (call u [] (ks.zip ws)) (EP X pins σ Q) X.xe s
theorem ck_fn {CX : CXT} {k : Nat} {f : Addr} {fd : FuncData} {ps : List Str} {sq : Sp} {E : XK} (F : FnOk X.prog X.w X.K X.mg X.base CX k f fd ps sq) (hr : Room k X.A)
    (hb : ∀ (s : Shared) (ws : List Value), X.K.In s.heap → ws.length = ks.length → BindsTo s fd ⟨[], ks.zip ws⟩ (ps.zip ws)) (hx : Passes CX X E) : CallK X (.ref f) ks (fun zs H Q => sq zs H Q E) := by
  intro pins s σ H zs ws Q I r hl h
  refine wpAny_call (codeAny_mono (F.run X.A X.stack s H ⟨[], ks.zip ws⟩ ws zs Q E hr I.env0 (hb s ws I.kIn (by rw [← r.length]; exact hl)) r h) fun r s' hq => ?_)
  cases r with
  | error e => exact hx pins σ H s e s' I hq
  | ok fl =>
    cases fl with
    | ret u => exact I.after hq
    | next => exact hq.elim
    | brk => exact hq.elim
    | cont => exact hq.elim
/-- what of the text a static method must have -/
structure Smt (K : PySem.W.Frag) (C : Addr) (m : Str) (g : Addr) : Prop where
  ex : ∃ (mc : Value) (p : Addr) (rest : List Value), PySem.W.typeIn K (.ref C) = some mc ∧ PySem.W.readsIn K C mc = true ∧ PySem.W.findCls K (.ref C) mc m = some (.get (.builtin "staticmethod.__get__") (.ref p) .none (.ref C)) ∧ PySem.W.recIn K p "staticmethod" = some (.ref g :: rest)
  ga : PySem.W.specialIn K (.ref C) "__getattribute__" = some (some (.builtin "type.__getattribute__"))
  kp : PySem.W.keepIn K (.ref g) = true
theorem sm_get {pins : List (Addr × Obj)} {s : Shared} {pl : Sem Bool} {A : Around} {E : Value → Shared → Prop} {Q : Value × List Value → Shared → Prop} (S : Smt X.K C m g) (I : Inv X pins σ H s) (h : ∀ s', Inv X pins σ H s' → Q (.ref g, []) s') : wpAny (model X.prog X.w) A (getMethod (.ref C) m pl) Q E s := by
  obtain ⟨mc, p, rest, h1, h2, h3, h4⟩ := S.ex
  obtain ⟨mm, hF⟩ := I.fr
  exact PySem.W.method_cls I.kIn S.ga (PySem.W.cls_sm hF I.ok.mod.kin h1 h2 h3 h4 rfl (h _ (I.tok _)))
/-- C.m(k = v, ..), m a static method -/
theorem e_smK {sp : List V → Hp → VK → Prop} {pl : Sem Bool} (S : Smt X.K C m g) (c : CallK X (.ref g) ks sp) (hall : (backToKw pos (keywordEach kws X.env)).all (·.1.isSome) = true) (hks : (backToKw pos (keywordEach kws X.env)).filterMap (·.1) = ks)
    (hpl : ((backTo pos (starEach [] X.env)).any (·.1) || (backToKw pos (keywordEach kws X.env)).any (·.1.isNone)) = false)
    (ht : eval (.Call (.Attribute o m apos) [] kws pos) X.env = (do
      let ov ← eval o X.env
      standAt apos.atName
      let (f, first) ← holding [ov] (getMethod ov m pl)
      callWith pos f first (backTo pos (starEach [] X.env)) (backToKw pos (keywordEach kws X.env))))
    (h : Go X o σ H fun x H1 => x = .ref C ∧ Gk X kws σ H1 fun zs H2 => zs.length = ks.length ∧ sp zs H2 Q) : Go X (.Call (.Attribute o m apos) [] kws pos) σ H Q := by
  intro pins s I
  refine PySem.W.methodCall_KW (pl := pl) (thn (h pins s I) fun v s1 ⟨x, H1, I1, r1, ex, q⟩ => ?_) ht
  subst ex
  cases r1
  refine sm_get S I1 fun s2 I2 => ?_
  refine PySem.W.callWith_KW0 (h₀ := X.base) I.ok.mod.kin S.kp hall (thn (q pos pins s2 I2) fun ws s3 ⟨zs, H3, I3, rz, hl, q3⟩ => ⟨I3.kIn, ?_⟩) hpl
  rw [hks]
  exact c pins s3 σ H3 zs ws Q I3 rz hl q3
/-- C.m(e, ..) -/
theorem e_sm {sp : List V → Hp → VK → Prop} {pl : Sem Bool} {es : List Expr} (S : Smt X.K C m g) (c : CallR X (.ref g) sp) (he : starEach (e :: es) X.env = (false, eval e X.env) :: starEach es X.env) (hpl : (backTo pos (starEach es X.env)).any (·.1) = false)
    (ht : eval (.Call (.Attribute o m apos) (e :: es) [] pos) X.env = (do
      let ov ← eval o X.env
      standAt apos.atName
      let (f, first) ← holding [ov] (getMethod ov m pl)
      callWith pos f first (backTo pos (starEach (e :: es) X.env)) (backToKw pos (keywordEach [] X.env))))
    (h : Go X o σ H fun x H1 => x = .ref C ∧ Ga X (e :: es) σ H1 fun vs H2 => sp vs H2 Q) : Go X (.Call (.Attribute o m apos) (e :: es) [] pos) σ H Q := by
  intro pins s I
  refine PySem.W.methodCall_KW (pl := pl) (thn (h pins s I) fun v s1 ⟨x, H1, I1, r1, ex, q⟩ => ?_) ht
  subst ex
  cases r1
  refine sm_get S I1 fun s2 I2 => ?_
  exact PySem.W.callWith_K (h₀ := X.base) I.ok.mod.kin S.kp (thn (q pos pins s2 I2) fun us s3 ⟨vs, H3, I3, r3, q3⟩ => ⟨I3.kIn, c pins s3 σ H3 vs us Q I3 r3 q3⟩) he hpl
/-- C(k = v, ..), C a class -/
theorem e_mkK {CX : CXT} {k : Nat} {f : Addr} {fd : FuncData} {ps : List Str} {sq : Sp} {E : XK} {gg : List Value → List Value → List Value} {gV : List V → List V → List V} (M : Mk X.K C f) (F : FnOk X.prog X.w X.K X.mg X.base CX k f fd ps sq) (hr : Room (k + 1) X.A) (hg : Gl X x) (hm : X.mg x = some (.ref C)) (hb : KBn X.K fd ps 1 ks gg gV) (hx : Passes CX X E)
    (hall : (backToKw pos (keywordEach kws X.env)).all (·.1.isSome) = true) (hks : (backToKw pos (keywordEach kws X.env)).filterMap (·.1) = ks) (hdb : (x == ("__debug__" : Str)) = false)
    (hpl : ((backTo pos (starEach [] X.env)).any (·.1) || (backToKw pos (keywordEach kws X.env)).any (·.1.isNone)) = false)
    (h : Gk X kws σ H fun zs H2 => zs.length = ks.length ∧ ∀ x dx, H2 x = none → H2 dx = none → dx ≠ x → sq (gV [.ref x] zs) (upd (upd H2 dx (.own x)) x (.ins C dx [])) (fun v H3 => v = .non ∧ Q (.ref x) H3) E) : Go X (.Call (.Name x p) [] kws pos) σ H Q := by
  refine ge (pe_makeK0 M F hr hg hm hb hx pk hall hks hdb hpl) ?_
  exact fun pos pins s I => thn (h pos pins s I) fun ws s' ⟨zs, H', I', r, hl, q⟩ => ⟨zs, H', I', r, rfl, hl, q⟩
end
/-! ### str, repr of ints, texts and own objects -/
section
variable {X : Cx} {H : Hp} {Q : VK} {C : Addr} {sp : List V → Hp → VK → Prop}
def rStrN (C : Addr) (sp : List V → Hp → VK → Prop) : List V → Hp → VK → Prop := fun xs H Q => (∃ i : Int, xs = [.int i] ∧ i.natAbs.log2 < 1920 ∧ Q (.str (toString i)) H) ∨ ∃ x, xs = [x] ∧ tSh sp C x H Q
theorem b_strN {x : Str} (D : Dm X C "__str__" sp) (bn : Bn X x (.type "str")) : Fn X x (rStrN C sp) := ct_mk (CallR.or call_str_int (call_strO D)) bn
end
/-! ### repr of data -/
mutual
theorem dp_go {K : PySem.W.Frag} {H H' : Hp} (e : Ex H H') : ∀ {v : V} {d : PyData}, Dp K H v d → Dp K H' v d
  | _, _, .non => .non
  | _, _, .bl b => .bl b
  | _, _, .int i => .int i
  | _, _, .str x => .str x
  | _, _, .lst h k => .lst (SqL.ext h e) (dpa_go e k)
  | _, _, .tup h k => .tup (SqT.ext h e) (dpa_go e k)
theorem dpa_go {K : PySem.W.Frag} {H H' : Hp} (e : Ex H H') : ∀ {vs : List V} {ds : List PyData}, DpAll K H vs ds → DpAll K H' vs ds
  | _, _, .nil => .nil
  | _, _, .cons h k => .cons (dp_go e h) (dpa_go e k)
end
/-! ### != of an own object that has __eq__ alone -/
section
variable {Pr0 : Program} {W0 : World} {A0 : Around} {Er : Value → Shared → Prop} {sh : Shared} {Kf : PySem.W.Frag} {ax Cx' fq : Addr} {oX : Obj} {oD : Option Obj} {other tO : Value}
open PySem.W Builtin in
theorem ne_body {R : Fin → Shared → Prop} (room : A0.units < cLine) (kin : Kf.In sh.heap) (inst : InstAt sh.heap ax oX Cx' oD) (own : findIn Kf (.ref Cx') "__eq__" = some (some (.ref fq))) (isf : isFn Kf (.ref fq) = true)
    (k : wpAny (model Pr0 W0) A0 (call (.ref fq) [.ref ax, other]) (fun r s' => ∃ c, r = .bool c ∧ R (.done (.ret (.bool (!c)))) s') Er sh) : wpAny (model Pr0 W0) A0 (Builtin.«object.__ne__» ⟨[.ref ax, other], []⟩) R Er sh := by
  unfold Builtin.«object.__ne__»
  refine wpAny_bind (m := slotArgs "__ne__" 1 _) (wpAny_pure ?_)
  refine wpAny_bind (m := cRoomFor _ _) (wpAny_cRoomFor room ?_)
  refine wpAny_bind (m := callSpecialIfBound? (.ref ax) (Str.ofString "__eq__") _) (ifBound_K kin inst own isf (thn k fun r s' z => ?_))
  obtain ⟨c, rfl, q⟩ := z
  exact wpAny_bind (m := truthy (.bool _)) (wpAny_truthy_bool (wpAny_pure q))
open PySem.W in
theorem special_slot {nm : Str} {slot : String} {more : List Value} {R : Option Value → Shared → Prop} (kin : Kf.In sh.heap) (inst : InstAt sh.heap ax oX Cx' oD) (at' : findIn Kf (.ref Cx') nm = some (some (.builtin slot))) (bd : ∀ z, bindSpecial (.builtin slot) z = pure (.builtin slot, [z]))
    (k : wpAny (model Pr0 W0) A0 (call (.builtin slot) (.ref ax :: more)) (fun r => R (some r)) Er sh) : wpAny (model Pr0 W0) A0 (callSpecialIfBound? (.ref ax) nm more) R Er sh := by
  simp only [callSpecialIfBound?, bindSpecialIfBound?]
  refine wpAny_holding (wpAny_bind (wpAny_bind (wpAny_bind (inst.type.here ((looks_findIn kin at').here ?_)))))
  refine wpAny_bind (wpAny_askSetting (wpAny_ite ?_))
  have last : wpAny (model Pr0 W0) A0 (call (.builtin slot) ([.ref ax] ++ more) >>= fun r => pure (some r)) R Er sh := wpAny_bind (thn k fun _ _ z => wpAny_pure z)
  split
  · exact wpAny_bind ((Looks.of_pure (bd _)).here (wpAny_pure (by exact last)))
  · exact wpAny_tryCatch (wpAny_bind ((Looks.of_pure (bd _)).here (wpAny_pure (by exact last))))
open PySem.W in
theorem ne_own {R : Value → Shared → Prop} (room : A0.in1.units < cLine) (kin : Kf.In sh.heap) (inst : InstAt sh.heap ax oX Cx' oD) (ot : Looks (model Pr0 W0) sh.heap (typeOf other) tO) (nf : notFirst Kf Cx' tO = true)
    (hne : findIn Kf (.ref Cx') "__ne__" = some (some (.builtin "object.__ne__"))) (hm : mroIn Kf Cx' (.type "object") = some true) (own : findIn Kf (.ref Cx') "__eq__" = some (some (.ref fq))) (isf : isFn Kf (.ref fq) = true)
    (k : wpAny (model Pr0 W0) A0.in1 (call (.ref fq) [.ref ax, other]) (fun r s' => ∃ c, r = .bool c ∧ R (.bool (!c)) s') Er sh) : wpAny (model Pr0 W0) A0 (compareOp .NotEq (.ref ax) other) R Er sh := by
  have tc : wpAny (model Pr0 W0) A0 (tryCompare (.ref ax) (cmpInfo .NotEq).2.1 other) (fun r s' => ∃ y, r = some y ∧ R y s') Er sh := by
    unfold tryCompare
    refine wpAny_bind (special_slot kin inst hne PySem.F.slot_object_ne.bind (wpAny_call (codeAny_call_builtin PySem.F.slot_object_ne.plain PySem.F.entry_object_ne
      (check_slot (i := "object.__ne__") (owner := "object") (n := "__ne__") (by decide +kernel) (by decide +kernel) (inst.type.andThen (looks_mroIn kin hm)) (PySem.F.args_object_ne_2 _ _) ?_))))
    refine ne_body room kin inst own isf (thn k fun r s' z => ?_)
    obtain ⟨c, rfl, q⟩ := z
    exact ⟨c, rfl, wpAny_pure ⟨_, rfl, q⟩⟩
  have fin : ∀ {r : Option Value} {s' : Shared} {t : Sem Value}, (∃ y, r = some y ∧ R y s') → wpAny (model Pr0 W0) A0 (match r with | some v => pure v | none => t) R Er s' := by
    rintro r s' t ⟨y, rfl, q⟩
    exact wpAny_pure q
  refine cmp_ofNotEq ?_
  unfold richCompare
  simp only [oneThing_ref]
  refine wpAny_holding (wpAny_bind (wpAny_cRoomFor (Nat.lt_of_succ_lt room) ?_))
  refine wpAny_bind (inst.type.here (wpAny_bind (ot.here ?_)))
  split
  · rename_i d
    have noSub : subIn Kf tO (.ref Cx') = some false := by
      rcases Bool.or_eq_true_iff.mp nf with z | z
      · rw [beq_iff_eq.mp z] at d; simp at d
      · exact beq_iff_eq.mp z
    refine wpAny_bind ((looks_subIn kin noSub).here ?_)
    simp only [Bool.false_eq_true, if_false]
    refine wpAny_bind (thn tc fun r s' z => ?_)
    obtain ⟨y, rfl, q⟩ := z
    exact wpAny_pure q
  · refine wpAny_bind (wpAny_pure ?_)
    simp only [Bool.false_eq_true, if_false]
    refine wpAny_bind (thn tc fun r s' z => ?_)
    obtain ⟨y, rfl, q⟩ := z
    exact wpAny_pure q
end
section
variable {X : Cx} {C a dx : Addr} {sp : List V → Hp → VK → Prop} {H : Hp} {Q : VK}
theorem op_neO (D : Dm X C "__eq__" sp) (hne : PySem.W.findIn X.K (.ref C) "__ne__" = some (some (.builtin "object.__ne__"))) (hm : PySem.W.mroIn X.K C (.type "object") = some true) :
    OpR X (compareOp .NotEq) (fun x y H Q => ∃ a dx fs t, x = .ref a ∧ H a = some (.ins C dx fs) ∧ TyX X.K H y t ∧ PySem.W.notFirst X.K C t = true ∧ sp [x, y] H fun z H' => ∃ c, z = .bl c ∧ Q (.bl (!c)) H') := by
  intro pins s σ H x y v u Q I rx ry h
  obtain ⟨a, dx, fs, t, rfl, e, ty, nf, q⟩ := h
  cases rx
  obtain ⟨f, CX, n, s0, E, h1, h2, F, hr, hx, hs⟩ := D.ex
  obtain ⟨ox, od, J⟩ := ins_at I e
  obtain ⟨P, kx, hP, _⟩ := kit_of I ry ty
  have r1 := hr.in1
  refine ne_own r1.units0 I.kIn J (kx.ty _ _ I.kIn hP) nf hne hm h1 h2 ?_
  refine thn (dm_run F (r1.mono (by omega)) I.env0.in1 hx I (.cons (show RelV (.ref a) _ from rfl) (.cons ry .nil)) (hs _ _ _ q)) fun v s' z => ?_
  obtain ⟨z', H', I', rz, c, rfl, qz⟩ := z
  cases rz
  exact ⟨c, rfl, .bl (!c), H', I', rfl, qz⟩
end
open PyProof.Rows
/-! ### functions that need the guards' list to be known and empty (repr of a list) -/
/-- as FnOk, for a place whose guards are known: none -/
structure FnG (Pg : Program) (Wd : World) (Kf : PySem.W.Frag) (gl : Str → Option Value) (bs : Heap) (T : CXT) (lvl : Nat) (at' : Addr) (code : FuncData) (pars : List Str) (pr : Sp) : Prop where
  arity : ∀ xs h k e, pr xs h k e → xs.length = pars.length
  go : ∀ (Ar : Around) (out : List Env) (sh : Shared) (h : Hp) (ar : Args) (ws : List Value) (xs : List V) (k : VK) (e : XK), Ar.guards = some [] → Room lvl Ar → Env0 Pg Wd Kf gl bs Ar out sh h → BindsTo sh code ar (pars.zip ws) → Vals xs ws → pr xs h k e →
    codeAny (model Pg Wd) Ar (.call (.ref at') ar) (CR T out Pg Wd h sh k e) sh
theorem FnOk.g {Pg : Program} {Wd : World} {Kf : PySem.W.Frag} {gl : Str → Option Value} {bs : Heap} {T : CXT} {lvl : Nat} {at' : Addr} {code : FuncData} {pars : List Str} {pr : Sp} (F : FnOk Pg Wd Kf gl bs T lvl at' code pars pr) : FnG Pg Wd Kf gl bs T lvl at' code pars pr := ⟨F.len, fun _ _ _ _ _ _ _ _ _ _ => F.run _ _ _ _ _ _ _ _ _⟩
theorem FnG.mono {Pg : Program} {Wd : World} {Kf : PySem.W.Frag} {gl : Str → Option Value} {bs : Heap} {T : CXT} {i j : Nat} {at' : Addr} {code : FuncData} {pars : List Str} {pr : Sp} (F : FnG Pg Wd Kf gl bs T i at' code pars pr) (h : i ≤ j) : FnG Pg Wd Kf gl bs T j at' code pars pr := ⟨F.arity, fun _ _ _ _ _ _ _ _ _ hg r => F.go _ _ _ _ _ _ _ _ _ hg (r.mono h)⟩
theorem fnG_of {T : CXT} {Pg : Program} {Wd : World} {Kf : PySem.W.Frag} {gl : Str → Option Value} {bs : Heap} {lvl : Nat} {at' : Addr} {nm qn : Str} {prm : Arguments} {bd : List Stmt} {sc : Scope} {d1 d2 d3 d4 cv d5 oc : Value} {o1 o2 : Option Addr}
    {sl : Array (Option Value)} {slots pars : List Str} {pr : Sp} (look : Kf.lookup at' = some ⟨oc, o2, .func (PySem.W.fnOf nm qn prm bd sc d1 d2 d3 d4 o1 cv d5), sl⟩) (isc : PySem.W.codeIn Kf cv qn = true) (S : FnScope slots pars sc)
    (ar : ∀ xs h k e, pr xs h k e → xs.length = pars.length)
    (body : ∀ (Ar : Around) (out : List Env) (sh : Shared) (h : Hp) (xs : List V) (k : VK) (e : XK), Ar.guards = some [] → Room lvl (Ar.deeper (envOfC qn sc sh.heap.objs.size at' cv)) → pr xs h k e →
      ∃ t, PSs (cxOf T Pg Wd Kf gl bs slots qn sc at' cv Ar out sh h e) bd t ∧ t { nx := fun _ h' => k .non h', rt := k } (start slots xs) h) :
    FnG Pg Wd Kf gl bs T (lvl + 1) at' (PySem.W.fnOf nm qn prm bd sc d1 d2 d3 d4 o1 cv d5) pars pr := by
  refine ⟨ar, fun Ar out sh h ag ws xs k e hg room en bnd rv hp => ?_⟩
  have kin : Kf.In sh.heap := en.mod.kin.keeps fun b o z => (en.bs b o z).1
  have nolim : sh.heap.NoLimit := en.mod.nolimit.keeps fun b o z => (en.bs b o z).1
  have kinds : ∀ y ∈ pars.zip ws, sc.names.lookup y.1 = some .local ∨ (sc.names.lookup y.1 = some .cell ∧ ((cellsFrom (sh.heap.objs.size + 1) sc.names []).lookup y.1).isSome = true) := by
    rintro ⟨y1, y2⟩ hy
    refine (S.par y1 (List.of_mem_zip hy).1).imp id fun c => ⟨c, PySem.W.cellsFrom_some _ _ _ (.inl c)⟩
  refine codeAny_call_function room.depth (kin _ _ look) rfl S.co S.gen rfl (PySem.W.codeRec_of kin isc) (bnd _ _ _ _ ?_)
  refine wpAny_newFunctionEnv_cells S.kind kinds fun ev hev s1 x => ?_
  subst hev
  refine ⟨nolim.keeps x.toInCall.keep, codeAny_func ?_⟩
  obtain ⟨t, pt, q⟩ := body Ar out sh h xs k e hg (room.deeper _) hp
  have I : Inv (cxOf T Pg Wd Kf gl bs slots qn sc at' cv Ar out sh h e) [] (start slots xs) h s1 := inv_start S room.hd en (ar _ _ _ _ hp) rv x
  refine thn (pt.run [] s1 (start slots xs) h _ I q) fun fl s' z => ?_
  cases fl with
  | ret u =>
    obtain ⟨v, σ', h', J, r, q⟩ := z
    exact ⟨v, h', J.os, J.bare, J.base, J.hok, r, q⟩
  | next =>
    obtain ⟨σ', h', J, q⟩ := z
    exact ⟨.non, h', J.os, J.bare, J.base, J.hok, rfl, q⟩
  | brk => obtain ⟨_, _, _, q⟩ := z; exact q.elim
  | cont => obtain ⟨_, _, _, q⟩ := z; exact q.elim
theorem Fun.okG {nm qn : Str} {st : Stmt} {Pg : Program} {Wd : World} {Kf : PySem.W.Frag} {gl : Str → Option Value} {bs : Heap} {at' : Addr} {code : FuncData} {slots pars : List Str} {lvl : Nat} {pr : Sp} (F : Fun Kf nm qn st at' code) (S : FnScope slots pars (defScope st))
    (ar : ∀ xs h k e, pr xs h k e → xs.length = pars.length)
    (body : ∀ (cv : Value) (Ar : Around) (out : List Env) (sh : Shared) (h : Hp) (xs : List V) (k : VK) (e : XK), Ar.guards = some [] → Room lvl (Ar.deeper (envOfC qn (defScope st) sh.heap.objs.size at' cv)) → pr xs h k e →
      ∃ t, PSs (cxOf CX0 Pg Wd Kf gl bs slots qn (defScope st) at' cv Ar out sh h e).nox (defBody st) t ∧ t { nx := fun _ h' => k .non h', rt := k } (start slots xs) h) : FnG Pg Wd Kf gl bs CX0 (lvl + 1) at' code pars pr := by
  obtain ⟨oc, od, kV, doc, pm, an, cdv, ct, osl, rfl, lk, isc⟩ := F.ex
  refine fnG_of lk isc S ar fun Ar out sh h xs k e hg room hp => ?_
  obtain ⟨t, pt, q⟩ := body cdv Ar out sh h xs k e hg room hp
  exact ⟨t, pt.nox, q⟩
theorem cr_fnG {X : Cx} {CX : CXT} {k : Nat} {f : Addr} {fd : FuncData} {ps : List Str} {sq : Sp} {dvs : List V} {ds : List Value} {E : XK} (F : FnG X.prog X.w X.K X.mg X.base CX k f fd ps sq) (hg : X.A.guards = some []) (hr : Room k X.A) (hb : Binds X.K fd ps ds) (hd : Vals dvs ds) (hx : Passes CX X E) : CallR X (.ref f) (fun vs H Q => sq (vs ++ dvs) H Q E) := by
  intro pins s σ H xs us Q I r h
  have r2 := r.append hd
  have hl : (us ++ ds).length = ps.length := by rw [← r2.length]; exact F.arity _ _ _ _ h
  refine wpAny_call (codeAny_mono (F.go X.A X.stack s H ⟨us, []⟩ (us ++ ds) (xs ++ dvs) Q E hg hr I.env0 (hb s us I.kIn hl) r2 h) fun res s' hq => ?_)
  cases res with
  | error e => exact hx pins σ H s e s' I hq
  | ok fl =>
    cases fl with
    | ret u => exact I.after hq
    | next => exact hq.elim
    | brk => exact hq.elim
    | cont => exact hq.elim
theorem cal_fnG {X : Cx} {k : Nat} {f : Addr} {fd : FuncData} {ps : List Str} {sq : Sp} {dvs : List V} {ds : List Value} (F : FnG X.prog X.w X.K X.mg X.base CX0 k f fd ps sq) (hg : X.A.guards = some []) (hr : Room k X.A) (hb : Binds X.K fd ps ds) (hd : Vals dvs ds) : Cal X (.ref f) (fun vs H Q => sq (vs ++ dvs) H Q E0) := by
  rintro Y ⟨e1, e2, e3, e4, e5, e6, _⟩
  rw [← e1, ← e2, ← e3, ← e4, ← e5] at F
  rw [← e6] at hr hg
  rw [← e3] at hb
  exact cr_fnG F hg hr hb hd pass0
/-- repr of a list -/
theorem call_reprD {X : Cx} (hg : X.A.guards = some []) (hu : X.A.units + 64 < cLine) : CallR X (.builtin "repr") (fun xs H Q => ∃ (a : Addr) (d : PyData), xs = [.ref a] ∧ Dp X.K H (.ref a) d ∧ d.showable = true ∧ d.hasDict = false ∧ d.depth < 60 ∧ d.shown.length ≤ sizeLine ∧ Q (.str d.shown) H) := by
  intro pins s σ H xs us Q I r h
  obtain ⟨a, d, rfl, hd, h1, h2, h3, h4, q⟩ := h
  obtain ⟨u, rfl, ru⟩ := vals1 r
  cases ru
  obtain ⟨as, hR⟩ := Dp.reads I d (.ref a) (.ref a) hd rfl
  refine repr_of_reads' hR h1 (fun z => by rw [h2] at z; cases z) hg (by omega) (fun _ _ z => z) (fun h' u tk hk => ?_) h4
  exact ⟨.str d.shown, H, I.kept hk, ⟨u, rfl⟩, q⟩
/-- own end: a law whose defs need the guards -/
theorem att_law {Pg : Program} {Wd : World} {Kf : PySem.W.Frag} {gl bl' : Str → Option Value} {T : CXT} {lvl : Nat} {at' ls : Addr} {code : FuncData} {par : Str} {pr : Sp} {s0 : Shared} {vals : List Value} {nums : List Int}
    (kin : Kf.In s0.heap) (nsm : s0.heap.Ns mainGlobals gl) (nsb : s0.heap.Ns builtinsNs bl') (same : ∀ y : Str, y ≠ "__name__" → bl' y = bootBuiltins y) (nolim : s0.heap.NoLimit) (nogen : s0.gens = #[])
    (obj : s0.heap.get? ls = some { cls := .type "list", data := .seq vals.toArray }) (iv : IntsAre vals nums) (small : nums.length ≤ sizeLine) (room : Room lvl callerA)
    (F : ∀ b : Heap, Kf.In b → b.Ns mainGlobals gl → FnG Pg Wd Kf gl b T lvl at' code [par] pr) (bnd : ∀ (s : Shared) (u : Value), BindsTo s code ⟨[u], []⟩ [(par, u)])
    (holds : ∀ H : Hp, Only H → SqL Kf H ls (nums.map V.int) → pr [.ref ls] H (fun v _ => v = .bl true) fun _ _ _ => False)
    (quiet : ∀ H e s', T [] H s0 (fun _ _ _ => False) e s' → False) :
    codeAny (model Pg Wd) callerA (.call (.ref at') ⟨[.ref ls], []⟩) (fun r s' => r = .ok (.ret (.bool true)) ∧ OldK s0.heap s'.heap ∧ s'.os = s0.os ∧ AllBare s'.gens) s0 := by
  have rel := vals_ints iv
  have size := iv.length
  have main : ∀ H : Hp, Only H → SqL Kf H ls (nums.map V.int) → HOk Pg Wd H s0.heap → (∀ b, H b ≠ none → b = ls) → (H ls ≠ none → Kf.lookup ls = none) →
      codeAny (model Pg Wd) callerA (.call (.ref at') ⟨[.ref ls], []⟩) (fun r s' => r = .ok (.ret (.bool true)) ∧ OldK s0.heap s'.heap ∧ s'.os = s0.os ∧ AllBare s'.gens) s0 := by
    intro H only sq hok one out
    have hid : ∀ {b : Addr} {o : Obj}, s0.heap.get? b = some o → H b = none → (hidT s0.heap H).get? b = some o := fun e n => hidT_get e n
    have dictFree : ∀ {b : Addr} {o : Obj} {es : Array DictEntry} {ep : Nat}, s0.heap.get? b = some o → o.data = .dict es ep → H b = none := by
      intro b o es ep e d
      cases q : H b with
      | none => rfl
      | some u =>
        obtain rfl : b = ls := one b (by rw [q]; simp)
        rw [obj] at e
        cases e
        exact nomatch (show Data.seq vals.toArray _ = Data.dict es ep from d)
    have nsHid : ∀ {b : Addr} {m : Str → Option Value}, s0.heap.Ns b m → (hidT s0.heap H).Ns b m := by
      rintro b m ⟨o, es, ep, e, d, r⟩
      exact ⟨o, es, ep, hid e (dictFree e d), d, r⟩
    have kHid : Kf.In (hidT s0.heap H) := by
      intro b o e
      refine hid (kin b o e) ?_
      cases q : H b with
      | none => rfl
      | some u =>
        obtain rfl : b = ls := one b (by rw [q]; simp)
        rw [out (by rw [q]; simp)] at e
        cases e
    have md : Mod Kf gl (hidT s0.heap H) := by
      obtain ⟨mc, l1, l2⟩ := nolim
      exact ⟨kHid, nsHid nsm, ⟨bl', nsHid nsb, same⟩, mc, nsHid l1, l2⟩
    have env : Env0 Pg Wd Kf gl (hidT s0.heap H) callerA [] s0 H := ⟨rfl, md, fun b o e => of_hidT e, Nat.le_of_eq (hidT_size _ _), trivial, fun b hb => absurd (show b ∈ ([] : List Addr) from hb) (by simp), hok, .of_eq nogen⟩
    refine codeAny_mono ((F _ kHid (nsHid nsm)).go callerA [] s0 H ⟨[.ref ls], []⟩ [.ref ls] [.ref ls] _ _ rfl room env (bnd s0 (.ref ls)) (.cons rfl .nil) (holds H only sq)) fun res s' h => ?_
    match res, h with
    | .error e, h => exact (quiet H e s' h).elim
    | .ok .next, h => exact h.elim
    | .ok .brk, h => exact h.elim
    | .ok .cont, h => exact h.elim
    | .ok (.ret u), ⟨v, H', os, bare, un, hok', r', q⟩ =>
      have q' : v = .bl true := q
      subst q'
      obtain rfl : u = Value.bool true := r'
      refine ⟨rfl, OldK.of_keep fun b o e => ?_, os, bare⟩
      rcases only b with z | ⟨ob, xs, z⟩
      · exact un.keep b o e z (by intro y; exact absurd (show b ∈ ([] : List Addr) from y) (by simp)) (by simp)
      · obtain ⟨e1, _⟩ := hok b _ z
        obtain ⟨e2, _⟩ := hok' b _ (un.frzs b ob _ z)
        rw [e] at e1
        cases e1
        exact e2
  cases look : Kf.lookup ls with
  | some o =>
    have e := kin ls o look
    rw [obj] at e
    cases e
    exact main (fun _ => none) (fun _ => .inl rfl) (.inr ⟨_, vals.toArray, _, look, rfl, rfl, rfl, by rw [List.size_toArray, size]; exact small, by simpa using rel⟩) (fun b u z => nomatch (show (none : Option HO) = some u from z)) (fun b z => absurd rfl z) fun z => absurd rfl z
  | none =>
    have yes : ∀ {b : Addr}, b = ls → (if b = ls then some (HO.frz { cls := .type "list", data := .seq vals.toArray } (.lst (nums.map V.int))) else none) = some (HO.frz { cls := .type "list", data := .seq vals.toArray } (.lst (nums.map V.int))) := fun h => if_pos h
    refine main (fun b => if b = ls then some (.frz { cls := .type "list", data := .seq vals.toArray } (.lst (nums.map V.int))) else none) (fun b => ?_) (.inl (.inr ⟨{ cls := .type "list", data := .seq vals.toArray }, yes rfl⟩)) (fun b u z => ?_) (fun b z => ?_) fun _ => look
    all_goals by_cases hb : b = ls
    · exact .inr ⟨_, _, yes hb⟩
    · exact .inl (if_neg hb)
    · have z' := (yes hb).symm.trans z
      cases z'
      subst hb
      exact ⟨obj, by rw [List.length_map]; exact small, vals, _, rel, obj⟩
    · exact nomatch ((if_neg hb).symm.trans z)
    · exact hb
    · exact absurd (if_neg hb) z
theorem att_walk {l : PySem.W.OpenLaw} {most lvl : Nat} {q : Program} {loose : List Str} {XP : (Str → Option Value) → Heap → Prop} {YP : World → Heap → Prop} {d : DefRec} {Kf : Params → PySem.W.Frag} {T : World → CXT} {pr : World → Sp} {par : Str}
    (h1 : l.most = some most) (h2 : most ≤ sizeLine) (h3 : d.params.defaults = []) (room : Room lvl callerA) (kin : ∀ (w : World) (h : Heap), YP w h → (Kf w.params).In h)
    (F : ∀ (w : World) (gl : Str → Option Value) (at' : Addr) (h : Heap), (Kf w.params).In h → h.Ns mainGlobals gl → gl d.name = some (.ref at') →
      ∃ code : FuncData, (∀ (s : Shared) (u : Value), BindsTo s code ⟨[u], []⟩ [(par, u)]) ∧ ∀ b : Heap, (Kf w.params).In b → b.Ns mainGlobals gl → FnG l.prog w (Kf w.params) gl b (T w) lvl at' code [par] (pr w))
    (holds : ∀ (w : World) (H : Hp) (ls : Addr) (nums : List Int), nums.length ≤ most → (∀ z ∈ nums, Builtin.Int.intBits z ≤ 1048576) → Only H → SqL (Kf w.params) H ls (nums.map V.int) → pr w [.ref ls] H (fun v _ => v = .bl true) fun _ _ _ => False)
    (quiet : ∀ (w : World) (H : Hp) (s : Shared) (e : Value) (s' : Shared), T w [] H s (fun _ _ _ => False) e s' → False) :
    PySem.W.WalkO q loose XP YP l.row.toRowW d [] (fun f vs => PySem.call f vs) := by
  refine Att.attach_callB h1 h3 fun w s₀ s₁ gl bl' at' o pm cd doc ls vals nums G Y ho hd hcd hmg hobj hints hlen hbits hg => ?_
  obtain ⟨code, bnd, hF⟩ := F w gl at' _ (kin w _ Y) G.T.g hmg
  exact att_law (kin w _ Y) G.T.g G.T.b G.T.builtins G.T.nolimit hg hobj hints (Nat.le_trans hlen h2) room hF bnd (fun H only sq => holds w H ls nums hlen hbits only sq) fun H e s' => quiet w H s₁ e s'
/-! ### the text of a fraction, read again -/
section
open TL PySem.Builtin PySem.Builtin.Str
theorem codes_nat (n : Nat) : (Str.ofString (toString (n : Int))).cps.toList = numL n := tl_num n
theorem codes_neg (n : Nat) : (Str.ofString (toString (Int.negSucc n))).cps.toList = 45 :: numL (n + 1) := by
  rw [signs_ofString]
  show ("-" ++ Nat.repr (n + 1)).toList.map Char.toNat = _
  rw [String.toList_append, List.map_append, Nat.toList_repr]
  rfl
theorem digs_num {s : Str} {n : Nat} (h : s.cps.toList = numL n) : digs s = true := by
  unfold digs
  rw [Bool.and_eq_true]
  refine ⟨decide_eq_true fun e => numL_ne n ?_, List.all_eq_true.mpr fun c hc => decide_eq_true (dig_in.mpr ?_)⟩
  · rw [← h, e]
    decide +kernel
  · rw [h] at hc
    exact numL_digits n c hc
theorem head_num (n : Nat) : (numL n).take 1 ≠ [45] := by
  intro e
  cases q : numL n with
  | nil => exact numL_ne n q
  | cons a t =>
    rw [q] at e
    have : a = 45 := by simpa using e
    have := numL_digits n a (by rw [q]; simp)
    omega
theorem neg1_iff {t : Str} : neg1 t = true ↔ t.cps.toList.take 1 = [45] := by
  unfold neg1
  rw [decide_eq_true_eq, cutS_1]
  constructor
  · intro e
    have q := congrArg (fun s : Str => s.cps.toList) e
    simpa [show ("-" : Str).cps.toList = [45] from by decide +kernel] using q
  · intro e
    refine str_ext ?_
    rw [e]
    decide +kernel
/-- the top's digits and value -/
theorem top_num (x : Int) : digs (if neg1 (Str.ofString (toString x)) = true then cutS (Str.ofString (toString x)) (some 1) none else Str.ofString (toString x)) = true ∧
    (if neg1 (Str.ofString (toString x)) = true then -((PySem.NumText.digitsVal (if neg1 (Str.ofString (toString x)) = true then cutS (Str.ofString (toString x)) (some 1) none else Str.ofString (toString x)).cps.toList : Nat) : Int)
      else ((PySem.NumText.digitsVal (if neg1 (Str.ofString (toString x)) = true then cutS (Str.ofString (toString x)) (some 1) none else Str.ofString (toString x)).cps.toList : Nat) : Int)) = x := by
  cases x with
  | ofNat n =>
    have c := codes_nat n
    have z : neg1 (Str.ofString (toString (Int.ofNat n))) = false := by
      rw [← Bool.not_eq_true, neg1_iff]
      rw [show (Str.ofString (toString (Int.ofNat n))).cps.toList = numL n from c]
      exact head_num n
    rw [z]
    simp only [Bool.false_eq_true, if_false]
    refine ⟨digs_num c, ?_⟩
    rw [show (Str.ofString (toString (Int.ofNat n))).cps.toList = numL n from c, numL_val]
    rfl
  | negSucc n =>
    have c := codes_neg n
    have z : neg1 (Str.ofString (toString (Int.negSucc n))) = true := by
      rw [neg1_iff, c]
      rfl
    rw [z]
    simp only [if_true]
    have e : (cutS (Str.ofString (toString (Int.negSucc n))) (some 1) none).cps.toList = numL (n + 1) := by
      rw [cutS_t, c]
      rfl
    refine ⟨digs_num e, ?_⟩
    rw [e, numL_val]
    rfl
theorem noslash (x : Int) : 47 ∉ tl (Str.ofString (toString x)) := by
  cases x with
  | ofNat n =>
    rw [show tl (Str.ofString (toString (Int.ofNat n))) = numL n from codes_nat n]
    exact numL_free (.inl (by decide))
  | negSucc n =>
    rw [show tl (Str.ofString (toString (Int.negSucc n))) = 45 :: numL (n + 1) from codes_neg n]
    intro h
    rcases List.mem_cons.mp h with h | h
    · exact absurd h (by decide)
    · exact numL_free (.inl (by decide)) h
theorem numIn_txt {x y : Int} (hy : 0 < y) : numIn (nTxt x y) = some (x, y) := by
  obtain ⟨h1, h2⟩ := top_num x
  obtain ⟨m, rfl⟩ := Int.eq_ofNat_of_zero_le (Int.le_of_lt hy)
  by_cases hm : (m : Int) = 1
  · have e : nTxt x m = Str.ofString (toString x) := by
      unfold nTxt
      rw [if_pos hm]
    have p : Txt.partition (Str.ofString (toString x)) "/" = (Str.ofString (toString x), Str.empty, Str.empty) := partition_none slash_tl (noslash x)
    have b : numB (Str.ofString (toString x)) = "1" := by
      unfold numB
      rw [p]
      exact if_pos rfl
    have d : digs ("1" : Str) = true := by decide +kernel
    have w : numW (Str.ofString (toString x)) = 1 := by
      unfold numW
      rw [b]
      decide +kernel
    rw [e]
    unfold numIn numD numV
    unfold numD
    rw [p, b, w]
    dsimp only
    rw [if_pos ⟨h1, d, by decide⟩, h2, hm]
  · have e : nTxt x m = Str.ofString (toString x) ++ ("/" : Str) ++ Str.ofString (toString (m : Int)) := by
      unfold nTxt
      rw [if_neg hm]
    have p : Txt.partition (nTxt x m) "/" = (Str.ofString (toString x), ("/" : Str), Str.ofString (toString (m : Int))) := by
      rw [e]
      exact partition_app slash_tl (noslash x)
    have b : numB (nTxt x m) = Str.ofString (toString (m : Int)) := by
      unfold numB
      rw [p]
      exact if_neg (show ¬ (("/" : Str) = "") by decide +kernel)
    have w : numW (nTxt x m) = m := by
      unfold numW
      rw [b, codes_nat, numL_val]
    unfold numIn numD numV
    unfold numD
    rw [b, w, p]
    dsimp only
    rw [if_pos ⟨h1, digs_num (codes_nat m), by omega⟩, h2]
end
/-! ### lists: unpacked, compared, repeated, shown -/
section
variable {X : Cx} {σ : L2.St} {H : Hp} {Q : VK} {pos : Pos}
/-- a pair, from a tuple or from a list -/
def un2 (v : V) (H : Hp) (k : V → V → Prop) : Prop := ∃ p x y, v = .ref p ∧ (H p = some (.tup [x, y]) ∨ H p = some (.lst [x, y])) ∧ k x y
theorem un_t {p : Addr} {x y : V} {k : V → V → Prop} (h : H p = some (.tup [x, y])) (q : k x y) : un2 (.ref p) H k := ⟨p, x, y, rfl, .inl h, q⟩
theorem un_l {p : Addr} {x y : V} {k : V → V → Prop} (h : H p = some (.lst [x, y])) (q : k x y) : un2 (.ref p) H k := ⟨p, x, y, rfl, .inr h, q⟩
theorem g_two {a b : Str} {pa' pb' : Pos} {i j k : Nat} {v : V} {Q : L2.St → Hp → Prop} (hc : X.calm = true) (w1 : Sw X i a) (w2 : Sw X j b) (h : un2 v H fun x y => stR i x σ H fun σ1 H1 => stR j y σ1 H1 Q) : Gg X (.Tuple [.Name a pa', .Name b pb'] k pos) v σ H Q := by
  obtain ⟨p, x, y, e, ht | ht, q⟩ := h
  · exact gg (pg_tup (n := 2) hc (pgs_cons (pg_name w1.nd w1.n w1.l w1.f) (pgs_cons (pg_name w2.nd w2.n w2.l w2.f) pgs_nil))) ⟨p, [x, y], e, SqT.of ht, rfl, x, [y], rfl, y, [], rfl, rfl, q⟩
  · exact gg (pg_unl (n := 2) hc (pgs_cons (pg_name w1.nd w1.n w1.l w1.f) (pgs_cons (pg_name w2.nd w2.n w2.l w2.f) pgs_nil))) ⟨p, [x, y], e, SqL.of ht, rfl, x, [y], rfl, y, [], rfl, rfl, q⟩
theorem c_neD {x y : V} {d e : PyData} (hu : X.A.units + 64 < cLine) (hx : Dp X.K H x d) (hy : Dp X.K H y e) (h1 : SeqAt.shaped d = true) (h2 : SeqAt.shaped e = true) (q : Q (.bl (!PyData.eqv d e)) H) : cmR X .NotEq x y H Q := c_of (op_neD hu) ⟨d, e, hx, hy, h1, h2, q⟩
theorem c_eqD {x y : V} {d e : PyData} (hu : X.A.units + 64 < cLine) (hx : Dp X.K H x d) (hy : Dp X.K H y e) (h1 : SeqAt.shaped d = true) (h2 : SeqAt.shaped e = true) (q : Q (.bl (PyData.eqv d e)) H) : cmR X .Eq x y H Q := c_of (op_eqD hu) ⟨d, e, hx, hy, h1, h2, q⟩
theorem o_rep {l : Addr} {n : Int} {xs : List V} (h : H l = some (.lst xs)) (n0 : 0 ≤ n) (n1 : n ≤ 1000) (hl : xs.length ≤ 100) (q : ∀ p H', H p = none → Ex H H' → H' p = some (.lst (List.replicate n.toNat xs).flatten) → Q (.ref p) H') : opR X .Mult (.ref l) (.int n) H Q := by
  have sz : (100000 : Nat) ≤ sizeLine := by decide
  refine o_of op_rep ⟨l, n, xs, rfl, rfl, h, by omega, by omega, ?_, fun p hp => q p _ hp (Ex.new hp) upd_same⟩
  have : xs.length * n.toNat ≤ 100 * 1000 := Nat.mul_le_mul hl (by omega)
  omega
theorem c_eqO {C a dx : Addr} {sp : List V → Hp → VK → Prop} {fs : List (Str × V)} {y : V} {t : Value} (D : Dm X C "__eq__" sp) (e : H a = some (.ins C dx fs)) (ty : TyX X.K H y t) (nf : PySem.W.notFirst X.K C t = true) (q : sp [.ref a, y] H Q) : cmR X .Eq (.ref a) y H Q := c_of (op_eqO D) ⟨a, dx, fs, t, rfl, e, ty, nf, q⟩
theorem c_neO {C a dx : Addr} {sp : List V → Hp → VK → Prop} {fs : List (Str × V)} {y : V} {t : Value} (D : Dm X C "__eq__" sp) (hne : PySem.W.findIn X.K (.ref C) "__ne__" = some (some (.builtin "object.__ne__"))) (hm : PySem.W.mroIn X.K C (.type "object") = some true) (e : H a = some (.ins C dx fs)) (ty : TyX X.K H y t) (nf : PySem.W.notFirst X.K C t = true)
    (q : sp [.ref a, y] H fun z H' => ∃ c, z = .bl c ∧ Q (.bl (!c)) H') : cmR X .NotEq (.ref a) y H Q := c_of (op_neO D hne hm) ⟨a, dx, fs, t, rfl, e, ty, nf, q⟩
def rReprD (K : PySem.W.Frag) : List V → Hp → VK → Prop := fun xs H Q => ∃ (a : Addr) (d : PyData), xs = [.ref a] ∧ Dp K H (.ref a) d ∧ d.showable = true ∧ d.hasDict = false ∧ d.depth < 60 ∧ d.shown.length ≤ sizeLine ∧ Q (.str d.shown) H
/-- repr of a list or of an own object -/
def rReprN (K : PySem.W.Frag) (C : Addr) (sp : List V → Hp → VK → Prop) : List V → Hp → VK → Prop := fun xs H Q => rReprD K xs H Q ∨ ∃ x, xs = [x] ∧ tSh sp C x H Q
theorem b_reprD {x : Str} (hg : X.A.guards = some []) (hu : X.A.units + 64 < cLine) (bn : Bn X x (.builtin "repr")) : Fn X x (rReprD X.K) := cb_mk (call_reprD hg hu) bn
theorem b_reprN {x : Str} {C : Addr} {sp : List V → Hp → VK → Prop} (D : Dm X C "__repr__" sp) (hg : X.A.guards = some []) (hu : X.A.units + 64 < cLine) (bn : Bn X x (.builtin "repr")) : Fn X x (rReprN X.K C sp) := cb_mk (CallR.or (call_reprD hg hu) (call_reprO D)) bn
end
/-! ### lengths of shown texts -/
def Asc (s : Str) : Prop := ∀ c ∈ s.cps.toList, c < 16 ^ 8
theorem Asc.app {s t : Str} (a : Asc s) (b : Asc t) : Asc (s ++ t) := by
  intro c h
  rw [Str.cps_append, Array.toList_append, List.mem_append] at h
  exact h.elim (a c) (b c)
theorem asc_int (x : Int) : Asc (Str.ofString (toString x)) := by
  intro c h
  cases x with
  | ofNat n =>
    rw [show (Str.ofString (toString (Int.ofNat n))).cps.toList = TL.numL n from codes_nat n] at h
    have := (TL.numL_digits n c h).2
    omega
  | negSucc n =>
    rw [codes_neg] at h
    rcases List.mem_cons.mp h with rfl | h
    · decide
    · have := (TL.numL_digits _ c h).2
      omega
theorem asc_nTxt (x y : Int) : Asc (nTxt x y) := by
  unfold nTxt
  split
  · exact asc_int x
  · exact ((asc_int x).app (by unfold Asc; decide +kernel)).app (asc_int y)
theorem repr_len {s : Str} (h : Asc s) : (PySem.reprText s).length ≤ 10 * s.length + 2 := PySem.StrLaws.reprText_len s h
theorem textFrom_le : ∀ (ts : List Str) (k : Nat) (acc : Str) (m : Nat), (∀ t ∈ ts, t.length ≤ m) → (PySem.textFrom k acc ts).length ≤ acc.length + ts.length * (m + 2)
  | [], _, _, _, _ => Nat.le_add_right _ _
  | t :: ts, k, acc, m, h => by
    have ih := textFrom_le ts (k + 1) (acc ++ (if k > 0 then ", " else "" : String) ++ t) m fun t ht => h t (List.mem_cons_of_mem _ ht)
    have h1 := h t (List.mem_cons_self ..)
    have h2 : (Str.ofString (if k > 0 then ", " else "" : String)).length ≤ 2 := by split <;> decide
    rw [len_app, len_app] at ih
    rw [List.length_cons, Nat.add_mul]
    show (PySem.textFrom (k + 1) (acc ++ (if k > 0 then ", " else "" : String) ++ t) ts).length ≤ _
    omega
theorem listText_le {ts : List Str} {m : Nat} (h : ∀ t ∈ ts, t.length ≤ m) (hn : ts.length ≤ 50) (hm : m ≤ 60000) : (PySem.listText ts).length ≤ sizeLine := by
  have sz : (5000000 : Nat) ≤ sizeLine := by decide
  have a := textFrom_le ts 0 "[" m h
  have e1 : (Str.ofString "[").length = 1 := rfl
  have e2 : (Str.ofString "]").length = 1 := rfl
  have b : ts.length * (m + 2) ≤ 50 * 60002 := Nat.mul_le_mul hn (by omega)
  unfold PySem.listText
  rw [len_app]
  omega
theorem ExB.fr {p q : Addr} {H H' : Hp} (e : ExB p H H') (s : Spr H' p) (h : H' q = none) : H q = none := by
  cases z : H q with
  | none => rfl
  | some o =>
    have n : q ≠ p := s.ne h
    rw [e q o n z] at h
    cases h
theorem room_u {k : Nat} {A : Around} (r : Room k A) : A.units + 64 < cLine := by have := r.un; omega
/-- C(k = v, ..) keeps sp -/
def MkK (X : Cx) (x : Str) (ks : List Str) (sp : List V → Hp → VK → Prop) : Prop := ∀ (kws : List Keyword) (pos p : Pos) (σ : L2.St) (H : Hp) (Q : VK), (backToKw pos (keywordEach kws X.env)).all (·.1.isSome) = true → (backToKw pos (keywordEach kws X.env)).filterMap (·.1) = ks →
  ((backTo pos (starEach [] X.env)).any (·.1) || (backToKw pos (keywordEach kws X.env)).any (·.1.isNone)) = false → Gk X kws σ H (fun zs H2 => zs.length = ks.length ∧ sp zs H2 Q) → Go X (.Call (.Name x p) [] kws pos) σ H Q
theorem e_kw {X : Cx} {x : Str} {ks : List Str} {sp : List V → Hp → VK → Prop} {kws : List Keyword} {pos p : Pos} {σ : L2.St} {H : Hp} {Q : VK} (m : MkK X x ks sp) (h1 : (backToKw pos (keywordEach kws X.env)).all (·.1.isSome) = true) (h2 : (backToKw pos (keywordEach kws X.env)).filterMap (·.1) = ks)
    (h3 : ((backTo pos (starEach [] X.env)).any (·.1) || (backToKw pos (keywordEach kws X.env)).any (·.1.isNone)) = false) (h : Gk X kws σ H fun zs H2 => zs.length = ks.length ∧ sp zs H2 Q) : Go X (.Call (.Name x p) [] kws pos) σ H Q := m _ _ _ _ _ _ h1 h2 h3 h
theorem lgb {n k : Nat} (h : n < 2 ^ k) (hk : 0 < k) : n.log2 < k := by
  by_cases z : n = 0
  · subst z
    simpa using hk
  · exact (Nat.log2_lt z).mpr h
/-! ### texts of low signs -/
def Lo (s : Str) : Prop := ∀ c ∈ s.cps.toList, c < 128
theorem Lo.app {s t : Str} (a : Lo s) (b : Lo t) : Lo (s ++ t) := by
  intro c h
  rw [Str.cps_append, Array.toList_append, List.mem_append] at h
  exact h.elim (a c) (b c)
theorem Lo.asc {s : Str} (a : Lo s) : Asc s := fun c h => Nat.lt_trans (a c h) (by decide)
theorem Lo.ok {s : Str} (a : Lo s) : PyData.strOk s = true := by
  unfold PyData.strOk
  rw [← Array.all_toList, List.all_eq_true]
  intro c h
  exact decide_eq_true (Nat.lt_trans (a c h) (by decide))
theorem lo_int (x : Int) : Lo (Str.ofString (toString x)) := by
  intro c h
  cases x with
  | ofNat n =>
    rw [show (Str.ofString (toString (Int.ofNat n))).cps.toList = TL.numL n from codes_nat n] at h
    have := (TL.numL_digits n c h).2
    omega
  | negSucc n =>
    rw [codes_neg] at h
    rcases List.mem_cons.mp h with rfl | h
    · decide
    · have := (TL.numL_digits _ c h).2
      omega
theorem lo_lit {s : Str} (h : (s.cps.toList.all fun c => decide (c < 128)) = true) : Lo s := fun c hc => of_decide_eq_true (List.all_eq_true.mp h c hc)
theorem lo_hex : ∀ c : Nat, c < 128 → ((List.replicate (2 - ((Nat.toDigits 16 c).map Char.toNat).length) 48 ++ (Nat.toDigits 16 c).map Char.toNat).all fun d => decide (d < 128)) = true := by decide +kernel
theorem lo_rc {q c : Nat} (hq : q < 128) (hc : c < 128) : ∀ d ∈ PySem.Builtin.Str.reprChar q c, d < 128 := by
  intro d h
  unfold PySem.Builtin.Str.reprChar at h
  have x := List.all_eq_true.mp (lo_hex c hc)
  dsimp only at h
  split at h
  · simp only [List.mem_cons, List.not_mem_nil, or_false] at h; omega
  · split at h
    · simp only [List.mem_cons, List.not_mem_nil, or_false] at h; omega
    · split at h
      · simp only [List.mem_cons, List.not_mem_nil, or_false] at h; omega
      · split at h
        · simp only [List.mem_cons, List.not_mem_nil, or_false] at h; omega
        · split at h
          · simp only [List.mem_cons, List.not_mem_nil, or_false] at h; omega
          · split at h
            · rcases List.mem_append.mp h with h | h
              · simp only [List.mem_cons, List.not_mem_nil, or_false] at h; omega
              · exact of_decide_eq_true (x d h)
            · omega
theorem lo_fold {q : Nat} (hq : q < 128) : ∀ (l : List Nat) (out : Array Nat), (∀ c ∈ l, c < 128) → (∀ c ∈ out.toList, c < 128) → ∀ c ∈ (l.foldl (fun out c => out ++ (PySem.Builtin.Str.reprChar q c).toArray) out).toList, c < 128
  | [], _, _, h => h
  | a :: l, out, hl, h => by
    refine lo_fold hq l _ (fun c hc => hl c (List.mem_cons_of_mem _ hc)) fun c hc => ?_
    rw [Array.toList_append, List.mem_append] at hc
    exact hc.elim (h c) (lo_rc hq (hl a (List.mem_cons_self ..)) c)
theorem lo_repr {s : Str} (h : Lo s) : Lo (PySem.reprText s) := by
  have hq : PySem.reprQuote s < 128 := by
    unfold PySem.reprQuote
    split <;> decide
  intro c hc
  unfold PySem.reprText at hc
  rw [Array.toList_push, List.mem_append] at hc
  rcases hc with hc | hc
  · rw [← Array.foldl_toList] at hc
    exact lo_fold hq _ _ h (fun c hc => by simp at hc; omega) c hc
  · simp at hc
    omega
theorem lo_tf : ∀ (ts : List Str) (k : Nat) (acc : Str), (∀ t ∈ ts, Lo t) → Lo acc → Lo (PySem.textFrom k acc ts)
  | [], _, _, _, h => h
  | t :: ts, k, acc, hl, h => by
    show Lo (PySem.textFrom (k + 1) (acc ++ (if k > 0 then ", " else "" : String) ++ t) ts)
    refine lo_tf ts _ _ (fun t ht => hl t (List.mem_cons_of_mem _ ht)) ((h.app ?_).app (hl t (List.mem_cons_self ..)))
    split <;> exact lo_lit (by decide +kernel)
theorem lo_list {ts : List Str} (h : ∀ t ∈ ts, Lo t) : Lo (PySem.listText ts) := (lo_tf ts 0 "[" h (lo_lit (by decide +kernel))).app (lo_lit (by decide +kernel))
theorem lo_nTxt (x y : Int) : Lo (nTxt x y) := by
  unfold nTxt
  split
  · exact lo_int x
  · exact ((lo_int x).app (lo_lit (by decide +kernel))).app (lo_int y)
theorem cFe {c : Bool} {A B : Prop} (e : c = false) (h : B) : cnd c A B := by
  subst e
  exact cF h
theorem cTe {c : Bool} {A B : Prop} (e : c = true) (h : A) : cnd c A B := by
  subst e
  exact cT h
/-- a list that was there before p stays -/
theorem SqL.goB {K : PySem.W.Frag} {H H1 H2 : Hp} {a p : Addr} {xs : List V} (h : SqL K H a xs) (n : H p = none) (e : Ex H H1) (b : ExB p H1 H2) : SqL K H2 a xs :=
  h.elim (fun h => .inl (h.elim (fun h => .inl (b _ _ (ne_of_none h n) (e _ _ h))) fun ⟨o, h⟩ => .inr ⟨o, b _ _ (ne_of_none h n) (e _ _ h)⟩)) fun h => .inr h
end G
namespace G
open PySem PySem.Spec L2
local macro_rules | `(tactic| walk_at "ne") => `(tactic| first
  | with_reducible assumption
  | (apply Ne.symm; with_reducible assumption)
  | exact Spr.neT (by with_reducible assumption) (by walk_at "hp")
  | exact Spr.neI (by with_reducible assumption) (by walk_at "hp"))
local macro_rules | `(tactic| walk_at "hp") => `(tactic| first
  | with_reducible assumption
  | (with_reducible exact upd_same)
  | (refine Ex.go (by with_reducible assumption) ?_; walk_at "hp")
  | ((refine ExB.go (by with_reducible assumption) ?hpn ?hph); (case hph => walk_at "hp"); (case hpn => walk_at "ne")))
local macro_rules | `(tactic| walk_at "sE") => `(tactic| first
  | with_reducible refine e_int ?_
  | with_reducible refine e_str ?_
  | with_reducible refine e_bl ?_
  | with_reducible refine e_non ?_
  | ((with_reducible apply e_name); (case l => with_reducible assumption); (case h => exact rfl))
  | ((with_reducible apply e_glob); (case g => with_reducible assumption))
  | ((with_reducible apply e_bty); (case g => with_reducible assumption))
  | ((with_reducible apply e_call); (case F => with_reducible assumption); (case he => rfl); (case hpl => rfl))
  | with_reducible refine e_bin ?_
  | ((with_reducible refine e_attr ?e1 ?_); (case e1 => rfl))
  | ((with_reducible refine e_ix ?e1 ?_); (case e1 => exact fun _ _ => rfl))
  | ((with_reducible refine e_cmp ?e1 ?_); (case e1 => rfl))
  | with_reducible refine e_if ?_
  | with_reducible refine e_not ?_
  | with_reducible refine e_and ?_
  | with_reducible refine e_or ?_
  | with_reducible refine e_one ?_
  | with_reducible refine e_usub ?_
  | with_reducible refine e_tup ?_
  | with_reducible refine e_lst ?_
  | ((with_reducible refine e_slS po_none (po_some pe) ?_); (show Go _ _ _ _ _))
  | ((with_reducible refine e_slS (po_some pe) po_none ?_); (show Go _ _ _ _ _))
  | ((with_reducible refine e_part ?e1 ?e2 ?e3 ?_); (case e1 => rfl); (case e2 => rfl); (case e3 => rfl))
  | with_reducible refine e_fstr ?_
  | with_reducible refine e_fstr1 ?_
  | fail)
local macro_rules | `(tactic| walk_at "sT") => `(tactic| first
  | ((with_reducible refine t_cmp ?e1 ?_); (case e1 => rfl))
  | with_reducible refine t_not ?_
  | with_reducible refine t_and ?_
  | with_reducible refine t_or ?_
  | ((with_reducible refine t_chain ?e1 ?_); (case e1 => rfl))
  | ((with_reducible refine t_val ?e1 ?_); (case e1 => intro _; rfl))
  | fail)
local macro_rules | `(tactic| walk_at "sW") => `(tactic| first
  | with_reducible refine w_and ?_
  | with_reducible refine w_and1 ?_
  | with_reducible refine w_or ?_
  | with_reducible refine w_or1 ?_
  | fail)
local macro_rules | `(tactic| walk_at "sA") => `(tactic| first
  | with_reducible refine a_nil ?_
  | ((with_reducible refine a_cons ?e1 ?_); (case e1 => rfl))
  | fail)
local macro_rules | `(tactic| walk_at "sK") => `(tactic| first
  | with_reducible refine k_nil ?_
  | with_reducible refine k_cons ?_
  | fail)
local macro_rules | `(tactic| walk_at "sS") => `(tactic| first
  | with_reducible refine s_ret ?_
  | with_reducible refine s_if ?_
  | ((with_reducible apply s_set); (case w => with_reducible assumption); (case hs => rfl))
  | ((with_reducible apply s_par); (case hc => with_reducible assumption); (case w1 => with_reducible assumption); (case w2 => with_reducible assumption); (case hij => decide); (case hx => exact Sk.s (by with_reducible assumption)); (case hy => exact Sk.s (by with_reducible assumption)); (case hw => exact sw_by (by with_reducible assumption) (fun _ => rfl)); (case hs => rfl))
  | ((with_reducible refine s_fld ?e1 ?_); (case e1 => rfl))
  | ((with_reducible refine s_asg ?e1 ?e2 ?e3 ?_); (case e1 => rfl); (case e2 => rfl); (case e3 => rfl))
  | ((with_reducible refine s_expr ?e1 ?_); (case e1 => rfl))
  | with_reducible refine s_brk ?_
  | with_reducible refine s_ct ?_
  | with_reducible refine s_pass ?_
  | fail)
local macro_rules | `(tactic| walk_at "sB") => `(tactic| first
  | with_reducible refine b_nil ?_
  | with_reducible refine b_one ?_
  | with_reducible refine b_cons ?_
  | fail)
local macro_rules | `(tactic| walk_at "sG") => `(tactic| first
  | ((with_reducible apply g_name); (case w => with_reducible assumption))
  | ((with_reducible refine g_subL ?e1 ?_); (case e1 => intro _; rfl))
  | ((with_reducible apply g_two); (case hc => with_reducible assumption); (case w1 => with_reducible assumption); (case w2 => with_reducible assumption))
  | ((with_reducible apply g_tup3); (case hc => with_reducible assumption); (case w1 => with_reducible assumption); (case w2 => with_reducible assumption); (case w3 => with_reducible assumption))
  | fail)
local macro_rules | `(tactic| walk_at "sO") => `(tactic| first
  | with_reducible refine o_add ?_
  | with_reducible refine o_sub ?_
  | ((with_reducible refine o_mod ?e1 ?_); (case e1 => omega))
  | ((with_reducible refine o_mul ?e1 ?_); (case e1 => first | exact .inl (by omega) | exact .inr (by omega)))
  | ((with_reducible refine o_fdiv ?e1 ?_); (case e1 => (constructor <;> omega)))
  | ((with_reducible refine o_fdivW ?e1 ?_); (case e1 => (constructor <;> first | omega | with_reducible assumption)))
  | with_reducible refine o_subB ?_
  | ((with_reducible refine o_pow ?e1 ?_); (case e1 => exact ⟨by decide, by decide, by decide⟩))
  | fail)
local macro_rules | `(tactic| walk_at "sC") => `(tactic| first
  | with_reducible refine c_lt ?_
  | with_reducible refine c_gt ?_
  | with_reducible refine c_le ?_
  | with_reducible refine c_ge ?_
  | with_reducible refine c_eqI ?_
  | with_reducible refine c_neI ?_
  | with_reducible refine c_eqS ?_
  | with_reducible refine c_neS ?_
  | with_reducible refine c_isN ?_
  | with_reducible refine c_notN ?_
  | fail)
local macro_rules | `(tactic| walk_at "sX") => `(tactic| first
  | with_reducible refine cNot ?_
  | with_reducible refine cT ?_
  | with_reducible refine cF ?_
  | ((with_reducible refine cDecT ?e1 ?_); (case e1 => omega))
  | ((with_reducible refine cDecF ?e1 ?_); (case e1 => omega))
  | ((with_reducible apply cDec) <;> intro _)
  | fail)
local macro_rules | `(tactic| walk_at "sR") => `(tactic| first
  | with_reducible refine r_intI ?_
  | with_reducible refine r_abs ?_
  | with_reducible refine r_min ?_
  | with_reducible refine r_max ?_
  | ((with_reducible apply ix_l); (case h => walk_at "hp"); (case hi => exact rfl))
  | ((with_reducible apply ix_t); (case h => walk_at "hp"); (case hi => exact rfl))
  | ((with_reducible apply at_fld); (case c => with_reducible assumption); (case n => with_reducible assumption); (case h => walk_at "hp"); (case l => first | exact nF_t _ _ | exact nF_b _ _ | exact rfl))
  | ((with_reducible apply se_l); (case h => walk_at "hp"); (case hi => exact rfl); (case hy => ((simp only [Int.reduceToNat, List.set_cons_zero, List.set_cons_succ]) <;> exact rfl)); intro _ _ _)
  | ((with_reducible apply st_ok); (case hs => ((simp only [List.set_cons_zero, List.set_cons_succ]) <;> exact rfl)))
  | ((with_reducible apply fl_ok); (case c => with_reducible assumption); (case n => with_reducible assumption); (case h => walk_at "hp"); (case hl => simp); (case hp => first | exact nF_p1 _ | exact nF_p2 _ _ | exact rfl); intro _ _ _)
  | ((with_reducible apply un_t); (case h => walk_at "hp"))
  | ((with_reducible apply un_l); (case h => walk_at "hp"))
  | with_reducible refine j_cons ?_
  | with_reducible refine np_ok ?_
  | with_reducible refine tp_ok ?_
  | with_reducible refine ⟨_, rfl, ?_⟩
  | with_reducible refine ⟨_, _, rfl, ?_⟩
  | fail)
local macro_rules | `(tactic| walk_at "st") => `(tactic| first
  | ((with_reducible show Go _ _ _ _ _); walk_at "sE")
  | ((with_reducible show Ga _ _ _ _ _); walk_at "sA")
  | ((with_reducible show Gk _ _ _ _ _); walk_at "sK")
  | ((with_reducible show opR _ _ _ _ _ _); walk_at "sO")
  | ((with_reducible show cmR _ _ _ _ _ _); walk_at "sC")
  | ((with_reducible show Gt _ _ _ _ _); walk_at "sT")
  | ((with_reducible show Gs _ _ _ _ _); walk_at "sS")
  | ((with_reducible show Gb _ _ _ _ _); walk_at "sB")
  | ((with_reducible show Gg _ _ _ _ _ _); walk_at "sG")
  | ((with_reducible show Gw _ _ _ _ _); walk_at "sW")
  | ((with_reducible show cnd _ _ _); walk_at "sX")
  | walk_at "sR"
  | fail)
local macro_rules | `(tactic| walk_at "go") => `(tactic| repeat' (walk_at "st"))
local macro_rules | `(tactic| walk_at "gon") => `(tactic| repeat' ((fail_if_success (with_reducible show Go _ (Expr.IfExp _ _ _ _) _ _ _)); (fail_if_success (with_reducible show Gs _ (Stmt.If _ _ _ _) _ _ _)); walk_at "st"))
def top (i : Nat) : Stmt := PySem.Challenge.pw_delaynets_k01_numbers_made.main.body.getD i (.Pass ⟨0, 0, 0, 0⟩)
structure Txt (K : PySem.W.Frag) (mg : Str → Option Value) : Prop where
  «int» : mg "int" = none
  «bool» : mg "bool" = none
  «str» : mg "str" = none
  «repr» : mg "repr" = none
  «isinstance» : mg "isinstance" = none
  «abs» : mg "abs" = none
  «max» : mg "max" = none
  «min» : mg "min" = none
  «len» : mg "len" = none
  «range» : mg "range" = none
  «all» : mg "all" = none
section
variable {P : Program} {w : World} {K : PySem.W.Frag} {mg : Str → Option Value} {base : Heap}
def spNext : Sp := fun vs H Q _ => ∃ p many, vs = [.ref p, .int many] ∧ Spr H p ∧ 0 < many ∧ many.natAbs.log2 < 9000 ∧
  ∀ d H', 0 ≤ d → d < many → Spr H' p → ExB p H H' → Q (.int d) H'
abbrev s_l_next : Stmt := top 18
theorem sc_l_next : FnScope ["_law_spring_here", "_law_many", "_law_digit", "_law_state"] ["_law_spring_here", "_law_many"] (defScope s_l_next) := ⟨rfl, rfl, rfl, by decide +kernel, rfl, by decide +kernel, by decide +kernel⟩
theorem ok_next {f : Addr} {fd : FuncData} (F : Fun K "_law_next" "_law_next" s_l_next f fd) (T : Txt K mg) : FnOk P w K mg base CX0 1 f fd ["_law_spring_here", "_law_many"] spNext := by
  refine F.ok sc_l_next (fun vs H Q E h => ?_) (fun cdv A outer s H vs Q E hr h => ?_)
  · obtain ⟨p, m, rfl, _⟩ := h
    rfl
  · obtain ⟨p, m, rfl, ⟨a, b, c, hp, ha, hb, hb2⟩, hm, hm2, k⟩ := h
    refine ⟨_, pb, ?_⟩
    have l0 : Sl (cxOf CX0 P w K mg base ["_law_spring_here", "_law_many", "_law_digit", "_law_state"] "_law_next" (defScope s_l_next) f cdv A outer s H E).nox 0 "_law_spring_here" := ⟨rfl, .inl rfl, by decide, by decide⟩
    have w0 : Sw (cxOf CX0 P w K mg base ["_law_spring_here", "_law_many", "_law_digit", "_law_state"] "_law_next" (defScope s_l_next) f cdv A outer s H E).nox 0 "_law_spring_here" := ⟨rfl, .inl rfl, .inl rfl, sc_l_next.nd⟩
    have k0 : Sk (cxOf CX0 P w K mg base ["_law_spring_here", "_law_many", "_law_digit", "_law_state"] "_law_next" (defScope s_l_next) f cdv A outer s H E).nox "_law_spring_here" := ⟨rfl⟩
    have l1 : Sl (cxOf CX0 P w K mg base ["_law_spring_here", "_law_many", "_law_digit", "_law_state"] "_law_next" (defScope s_l_next) f cdv A outer s H E).nox 1 "_law_many" := ⟨rfl, .inl rfl, by decide, by decide⟩
    have w1 : Sw (cxOf CX0 P w K mg base ["_law_spring_here", "_law_many", "_law_digit", "_law_state"] "_law_next" (defScope s_l_next) f cdv A outer s H E).nox 1 "_law_many" := ⟨rfl, .inl rfl, .inl rfl, sc_l_next.nd⟩
    have k1 : Sk (cxOf CX0 P w K mg base ["_law_spring_here", "_law_many", "_law_digit", "_law_state"] "_law_next" (defScope s_l_next) f cdv A outer s H E).nox "_law_many" := ⟨rfl⟩
    have l2 : Sl (cxOf CX0 P w K mg base ["_law_spring_here", "_law_many", "_law_digit", "_law_state"] "_law_next" (defScope s_l_next) f cdv A outer s H E).nox 2 "_law_digit" := ⟨rfl, .inl rfl, by decide, by decide⟩
    have w2 : Sw (cxOf CX0 P w K mg base ["_law_spring_here", "_law_many", "_law_digit", "_law_state"] "_law_next" (defScope s_l_next) f cdv A outer s H E).nox 2 "_law_digit" := ⟨rfl, .inl rfl, .inl rfl, sc_l_next.nd⟩
    have k2 : Sk (cxOf CX0 P w K mg base ["_law_spring_here", "_law_many", "_law_digit", "_law_state"] "_law_next" (defScope s_l_next) f cdv A outer s H E).nox "_law_digit" := ⟨rfl⟩
    have l3 : Sl (cxOf CX0 P w K mg base ["_law_spring_here", "_law_many", "_law_digit", "_law_state"] "_law_next" (defScope s_l_next) f cdv A outer s H E).nox 3 "_law_state" := ⟨rfl, .inl rfl, by decide, by decide⟩
    have w3 : Sw (cxOf CX0 P w K mg base ["_law_spring_here", "_law_many", "_law_digit", "_law_state"] "_law_next" (defScope s_l_next) f cdv A outer s H E).nox 3 "_law_state" := ⟨rfl, .inl rfl, .inl rfl, sc_l_next.nd⟩
    have k3 : Sk (cxOf CX0 P w K mg base ["_law_spring_here", "_law_many", "_law_digit", "_law_state"] "_law_next" (defScope s_l_next) f cdv A outer s H E).nox "_law_state" := ⟨rfl⟩
    have b_int_ : Fn (cxOf CX0 P w K mg base ["_law_spring_here", "_law_many", "_law_digit", "_law_state"] "_law_next" (defScope s_l_next) f cdv A outer s H E).nox "int" rIntS := b_intS ⟨rfl, T.«int», by decide +kernel, by decide, by decide⟩
    have v_int_ : Bn (cxOf CX0 P w K mg base ["_law_spring_here", "_law_many", "_law_digit", "_law_state"] "_law_next" (defScope s_l_next) f cdv A outer s H E).nox "int" (.type "int") := ⟨rfl, T.«int», by decide +kernel, by decide, by decide⟩
    have hsc_ : (cxOf CX0 P w K mg base ["_law_spring_here", "_law_many", "_law_digit", "_law_state"] "_law_next" (defScope s_l_next) f cdv A outer s H E).nox.env.scope = defScope s_l_next := rfl
    have hN_ : (cxOf CX0 P w K mg base ["_law_spring_here", "_law_many", "_law_digit", "_law_state"] "_law_next" (defScope s_l_next) f cdv A outer s H E).nox.N = (["_law_spring_here", "_law_many", "_law_digit", "_law_state"] : List Str) := rfl
    generalize (cxOf CX0 P w K mg base ["_law_spring_here", "_law_many", "_law_digit", "_law_state"] "_law_next" (defScope s_l_next) f cdv A outer s H E).nox = X at *
    change Gb _ _ _ [some _, some _, none, none] _
    first | refine b_one ?_ | refine b_cons ?_
    walk_at "go"
    · rename_i H1 e1 h1 _ H2 e2 h2
      exact k _ _ (Int.emod_nonneg _ (by omega)) (Int.emod_lt_of_pos _ hm) ⟨_, _, _, h2, Int.ediv_nonneg ha (by omega), hb, hb2⟩ (e1.tr e2)
    · rename_i H1 e1 h1 _ H2 e2 h2
      exact k _ _ (Int.emod_nonneg _ (by omega)) (Int.emod_lt_of_pos _ hm) ⟨_, _, _, h2, ha, Int.emod_nonneg _ (by omega), Int.emod_lt_of_pos _ (by omega)⟩ (e1.tr e2)
/-- is_integer's answer by a value's type -/
def KI (K : PySem.W.Frag) (t : Value) (r : Bool) : Prop := (PySem.W.kitOne K t (.type "int") = some false ∧ r = false) ∨ (PySem.W.kitOne K t (.type "int") = some true ∧ ∃ b, PySem.W.kitOne K t (.type "bool") = some b ∧ r = !b)
theorem ki_int : KI K (.type "int") true := .inr ⟨kit_ty (by decide +kernel), false, kit_ty (by decide +kernel), rfl⟩
theorem ki_bool : KI K (.type "bool") false := .inr ⟨kit_ty (by decide +kernel), true, kit_ty (by decide +kernel), rfl⟩
theorem ki_str : KI K (.type "str") false := .inl ⟨kit_ty (by decide +kernel), rfl⟩
theorem ki_none : KI K (.type "NoneType") false := .inl ⟨kit_ty (by decide +kernel), rfl⟩
def spIsI (K : PySem.W.Frag) : Sp := fun vs H Q _ => ∃ x t r, vs = [x] ∧ TyX K H x t ∧ KI K t r ∧ Q (.bl r) H
abbrev s_is_integer : Stmt := top 10
theorem sc_is_integer : FnScope ["value"] ["value"] (defScope s_is_integer) := ⟨rfl, rfl, rfl, by decide +kernel, rfl, by decide +kernel, by decide +kernel⟩
theorem ok_isi {f : Addr} {fd : FuncData} (F : Fun K "is_integer" "is_integer" s_is_integer f fd) (T : Txt K mg) : FnOk P w K mg base CX0 1 f fd ["value"] (spIsI K) := by
  refine F.ok sc_is_integer (fun vs H Q E h => ?_) (fun cdv A outer s H vs Q E hr h => ?_)
  · obtain ⟨x, t, r, rfl, _⟩ := h
    rfl
  · obtain ⟨x, t, r, rfl, ty, ki, k⟩ := h
    refine ⟨_, pb, ?_⟩
    have l0 : Sl (cxOf CX0 P w K mg base ["value"] "is_integer" (defScope s_is_integer) f cdv A outer s H E).nox 0 "value" := ⟨rfl, .inl rfl, by decide, by decide⟩
    have w0 : Sw (cxOf CX0 P w K mg base ["value"] "is_integer" (defScope s_is_integer) f cdv A outer s H E).nox 0 "value" := ⟨rfl, .inl rfl, .inl rfl, sc_is_integer.nd⟩
    have k0 : Sk (cxOf CX0 P w K mg base ["value"] "is_integer" (defScope s_is_integer) f cdv A outer s H E).nox "value" := ⟨rfl⟩
    have b_isinstance_ : Fn (cxOf CX0 P w K mg base ["value"] "is_integer" (defScope s_is_integer) f cdv A outer s H E).nox "isinstance" (rIsi K) := b_isi ⟨rfl, T.«isinstance», by decide +kernel, by decide, by decide⟩
    have b_int_ : Fn (cxOf CX0 P w K mg base ["value"] "is_integer" (defScope s_is_integer) f cdv A outer s H E).nox "int" rIntS := b_intS ⟨rfl, T.«int», by decide +kernel, by decide, by decide⟩
    have v_int_ : Bn (cxOf CX0 P w K mg base ["value"] "is_integer" (defScope s_is_integer) f cdv A outer s H E).nox "int" (.type "int") := ⟨rfl, T.«int», by decide +kernel, by decide, by decide⟩
    have v_bool_ : Bn (cxOf CX0 P w K mg base ["value"] "is_integer" (defScope s_is_integer) f cdv A outer s H E).nox "bool" (.type "bool") := ⟨rfl, T.«bool», by decide +kernel, by decide, by decide⟩
    have hsc_ : (cxOf CX0 P w K mg base ["value"] "is_integer" (defScope s_is_integer) f cdv A outer s H E).nox.env.scope = defScope s_is_integer := rfl
    have hN_ : (cxOf CX0 P w K mg base ["value"] "is_integer" (defScope s_is_integer) f cdv A outer s H E).nox.N = (["value"] : List Str) := rfl
    generalize (cxOf CX0 P w K mg base ["value"] "is_integer" (defScope s_is_integer) f cdv A outer s H E).nox = X at *
    change Gb _ _ _ [some _] _
    first | refine b_one ?_ | refine b_cons ?_
    walk_at "go"
    rcases ki with ⟨k1, rfl⟩ | ⟨k1, b, k2, rfl⟩
    · refine r_isi (.ty _) ty k1 ?_
      walk_at "go"
      exact k
    · refine r_isi (.ty _) ty k1 ?_
      walk_at "go"
      refine r_isi (.ty _) ty k2 ?_
      walk_at "go"
      exact k
/-- the greatest common divisor -/
def spGcd : Sp := fun vs H Q _ => ∃ a b : Int, vs = [.int a, .int b] ∧ 0 ≤ a ∧ 0 ≤ b ∧ Q (.int (Int.gcd a b)) H
abbrev s_common_divisor : Stmt := top 11
theorem sc_common_divisor : FnScope ["one", "other"] ["one", "other"] (defScope s_common_divisor) := ⟨rfl, rfl, rfl, by decide +kernel, rfl, by decide +kernel, by decide +kernel⟩
theorem ok_gcd {f : Addr} {fd : FuncData} (F : Fun K "common_divisor" "common_divisor" s_common_divisor f fd) : FnOk P w K mg base CX0 1 f fd ["one", "other"] spGcd := by
  refine F.ok sc_common_divisor (fun vs H Q E h => ?_) (fun cdv A outer s H vs Q E hr h => ?_)
  · obtain ⟨a, b, rfl, _⟩ := h
    rfl
  · obtain ⟨a, b, rfl, ha, hb, k⟩ := h
    refine ⟨_, pb, ?_⟩
    have l0 : Sl (cxOf CX0 P w K mg base ["one", "other"] "common_divisor" (defScope s_common_divisor) f cdv A outer s H E).nox 0 "one" := ⟨rfl, .inl rfl, by decide, by decide⟩
    have w0 : Sw (cxOf CX0 P w K mg base ["one", "other"] "common_divisor" (defScope s_common_divisor) f cdv A outer s H E).nox 0 "one" := ⟨rfl, .inl rfl, .inl rfl, sc_common_divisor.nd⟩
    have k0 : Sk (cxOf CX0 P w K mg base ["one", "other"] "common_divisor" (defScope s_common_divisor) f cdv A outer s H E).nox "one" := ⟨rfl⟩
    have l1 : Sl (cxOf CX0 P w K mg base ["one", "other"] "common_divisor" (defScope s_common_divisor) f cdv A outer s H E).nox 1 "other" := ⟨rfl, .inl rfl, by decide, by decide⟩
    have w1 : Sw (cxOf CX0 P w K mg base ["one", "other"] "common_divisor" (defScope s_common_divisor) f cdv A outer s H E).nox 1 "other" := ⟨rfl, .inl rfl, .inl rfl, sc_common_divisor.nd⟩
    have k1 : Sk (cxOf CX0 P w K mg base ["one", "other"] "common_divisor" (defScope s_common_divisor) f cdv A outer s H E).nox "other" := ⟨rfl⟩
    have po_ : PassesOwn (model (cxOf CX0 P w K mg base ["one", "other"] "common_divisor" (defScope s_common_divisor) f cdv A outer s H E).nox.prog (cxOf CX0 P w K mg base ["one", "other"] "common_divisor" (defScope s_common_divisor) f cdv A outer s H E).nox.w) (cxOf CX0 P w K mg base ["one", "other"] "common_divisor" (defScope s_common_divisor) f cdv A outer s H E).nox.A (cxOf CX0 P w K mg base ["one", "other"] "common_divisor" (defScope s_common_divisor) f cdv A outer s H E).nox.env (cxOf CX0 P w K mg base ["one", "other"] "common_divisor" (defScope s_common_divisor) f cdv A outer s H E).nox.xe := PassesOwn.never
    have cm_ : (cxOf CX0 P w K mg base ["one", "other"] "common_divisor" (defScope s_common_divisor) f cdv A outer s H E).nox.calm = true := rfl
    have hsc_ : (cxOf CX0 P w K mg base ["one", "other"] "common_divisor" (defScope s_common_divisor) f cdv A outer s H E).nox.env.scope = defScope s_common_divisor := rfl
    have hN_ : (cxOf CX0 P w K mg base ["one", "other"] "common_divisor" (defScope s_common_divisor) f cdv A outer s H E).nox.N = (["one", "other"] : List Str) := rfl
    generalize (cxOf CX0 P w K mg base ["one", "other"] "common_divisor" (defScope s_common_divisor) f cdv A outer s H E).nox = X at *
    change Gb _ _ _ [some _, some _] _
    first | refine b_one ?_ | refine b_cons ?_
    refine s_wh po_ (fun m σ H' => ∃ a b : Int, σ = [some (.int a), some (.int b)] ∧ 0 ≤ a ∧ 0 ≤ b ∧ m = b.toNat ∧ H' = H ∧ Q (.int (Int.gcd a b)) H) _ ⟨a, b, rfl, ha, hb, rfl, rfl, k⟩ ?_
    rintro m σ H' ⟨x, y, rfl, hx, hy, rfl, rfl, k⟩
    walk_at "go"
    · rename_i z
      subst z
      rw [Int.gcd_zero_right, Int.natAbs_of_nonneg hx] at k
      exact k
    · rename_i z
      refine ⟨_, fun _ _ h => h, ?_⟩
      walk_at "go"
      have p : 0 < y := by omega
      exact ⟨_, by have := Int.emod_lt_of_pos x p; have := Int.emod_nonneg x z; omega, _, _, rfl, hy, Int.emod_nonneg _ z, rfl, rfl, by rw [gcdm hx hy]; exact k⟩
end
/-- the class Number stands at C -/
structure NmT (K : PySem.W.Frag) (mg : Str → Option Value) (C : Addr) : Prop where
  cl : Cls K C
  nT : NoAttr K C "top"
  nB : NoAttr K C "bottom"
  mgC : mg "Number" = some (.ref C)
  ca : PySem.W.findIn K (.ref C) "__class__" = some (some (.builtin "object.__class__"))
  cn : PySem.W.specialIn K (.builtin "object.__class__") "__get__" = some (some (.builtin "getset_descriptor.__get__"))
  ct : PySem.W.takesIn K (.builtin "object.__class__") = some true
  cm : PySem.W.mroIn K C (.type "object") = some true
section
variable {P : Program} {w : World} {K : PySem.W.Frag} {mg : Str → Option Value} {base : Heap} {C : Addr}
def spInit (C : Addr) : Sp := fun vs H Q _ => ∃ p dx a b, vs = [.ref p, .int a, .int b] ∧ H p = some (.ins C dx []) ∧ b ≠ 0 ∧ b.natAbs.log2 < 9000 ∧
  ∀ H', ExB p H H' → H' p = some (.ins C dx (nF (low a b).1 (low a b).2)) → Q .non H'
abbrev s_Number_init : Stmt := inClass (top 12) 0
theorem sc_Number_init : FnScope ["self", "top", "bottom", "divisor"] ["self", "top", "bottom"] (defScope s_Number_init) := ⟨rfl, rfl, rfl, by decide +kernel, rfl, by decide +kernel, by decide +kernel⟩
theorem ok_ninit {f fI fG : Addr} {fd fdI fdG : FuncData} {dvs : List V} (F : FunD K "__init__" "Number.__init__" (defArgs s_Number_init) (defBody s_Number_init) (defScope s_Number_init) dvs [] f fd) (T : Txt K mg) (N : NmT K mg C)
    (FI : FnOk P w K mg base CX0 1 fI fdI ["value"] (spIsI K)) (bI : Binds K fdI ["value"] []) (mI : mg "is_integer" = some (.ref fI)) (kI : PySem.W.keepIn K (.ref fI) = true)
    (FG : FnOk P w K mg base CX0 1 fG fdG ["one", "other"] spGcd) (bG : Binds K fdG ["one", "other"] []) (mG : mg "common_divisor" = some (.ref fG)) (kG : PySem.W.keepIn K (.ref fG) = true) :
    FnOk P w K mg base CX0 2 f fd ["self", "top", "bottom"] (spInit C) := by
  refine F.ok (CX := CX0) sc_Number_init (fun vs H Q E h => ?_) (fun cdv A outer s H vs Q E hr h => ?_)
  · obtain ⟨p, dx, a, b, rfl, _⟩ := h
    rfl
  · obtain ⟨p, dx, a, b, rfl, hp, hb, hlog, k⟩ := h
    refine ⟨_, pb, ?_⟩
    have l0 : Sl (cxOf CX0 P w K mg base ["self", "top", "bottom", "divisor"] "Number.__init__" (defScope s_Number_init) f cdv A outer s H E) 0 "self" := ⟨rfl, .inl rfl, by decide, by decide⟩
    have w0 : Sw (cxOf CX0 P w K mg base ["self", "top", "bottom", "divisor"] "Number.__init__" (defScope s_Number_init) f cdv A outer s H E) 0 "self" := ⟨rfl, .inl rfl, .inl rfl, sc_Number_init.nd⟩
    have k0 : Sk (cxOf CX0 P w K mg base ["self", "top", "bottom", "divisor"] "Number.__init__" (defScope s_Number_init) f cdv A outer s H E) "self" := ⟨rfl⟩
    have l1 : Sl (cxOf CX0 P w K mg base ["self", "top", "bottom", "divisor"] "Number.__init__" (defScope s_Number_init) f cdv A outer s H E) 1 "top" := ⟨rfl, .inl rfl, by decide, by decide⟩
    have w1 : Sw (cxOf CX0 P w K mg base ["self", "top", "bottom", "divisor"] "Number.__init__" (defScope s_Number_init) f cdv A outer s H E) 1 "top" := ⟨rfl, .inl rfl, .inl rfl, sc_Number_init.nd⟩
    have k1 : Sk (cxOf CX0 P w K mg base ["self", "top", "bottom", "divisor"] "Number.__init__" (defScope s_Number_init) f cdv A outer s H E) "top" := ⟨rfl⟩
    have l2 : Sl (cxOf CX0 P w K mg base ["self", "top", "bottom", "divisor"] "Number.__init__" (defScope s_Number_init) f cdv A outer s H E) 2 "bottom" := ⟨rfl, .inl rfl, by decide, by decide⟩
    have w2 : Sw (cxOf CX0 P w K mg base ["self", "top", "bottom", "divisor"] "Number.__init__" (defScope s_Number_init) f cdv A outer s H E) 2 "bottom" := ⟨rfl, .inl rfl, .inl rfl, sc_Number_init.nd⟩
    have k2 : Sk (cxOf CX0 P w K mg base ["self", "top", "bottom", "divisor"] "Number.__init__" (defScope s_Number_init) f cdv A outer s H E) "bottom" := ⟨rfl⟩
    have l3 : Sl (cxOf CX0 P w K mg base ["self", "top", "bottom", "divisor"] "Number.__init__" (defScope s_Number_init) f cdv A outer s H E) 3 "divisor" := ⟨rfl, .inl rfl, by decide, by decide⟩
    have w3 : Sw (cxOf CX0 P w K mg base ["self", "top", "bottom", "divisor"] "Number.__init__" (defScope s_Number_init) f cdv A outer s H E) 3 "divisor" := ⟨rfl, .inl rfl, .inl rfl, sc_Number_init.nd⟩
    have k3 : Sk (cxOf CX0 P w K mg base ["self", "top", "bottom", "divisor"] "Number.__init__" (defScope s_Number_init) f cdv A outer s H E) "divisor" := ⟨rfl⟩
    -- global is_integer
    -- global InvalidCount
    -- global DividedByZero
    -- global common_divisor
    have b_abs_ : Fn (cxOf CX0 P w K mg base ["self", "top", "bottom", "divisor"] "Number.__init__" (defScope s_Number_init) f cdv A outer s H E) "abs" rAbs := b_abs ⟨rfl, T.«abs», by decide +kernel, by decide, by decide⟩
    have cl_ : Cls (cxOf CX0 P w K mg base ["self", "top", "bottom", "divisor"] "Number.__init__" (defScope s_Number_init) f cdv A outer s H E).K C := N.cl
    have nT_ : NoAttr (cxOf CX0 P w K mg base ["self", "top", "bottom", "divisor"] "Number.__init__" (defScope s_Number_init) f cdv A outer s H E).K C "top" := N.nT
    have nB_ : NoAttr (cxOf CX0 P w K mg base ["self", "top", "bottom", "divisor"] "Number.__init__" (defScope s_Number_init) f cdv A outer s H E).K C "bottom" := N.nB
    have c1_ : Fn (cxOf CX0 P w K mg base ["self", "top", "bottom", "divisor"] "Number.__init__" (defScope s_Number_init) f cdv A outer s H E) "is_integer" (fun vs H Q => spIsI K (vs ++ []) H Q E0) := fn_own (cr_fn FI hr bI .nil pass0) rfl mI kI (by decide)
    have c2_ : Fn (cxOf CX0 P w K mg base ["self", "top", "bottom", "divisor"] "Number.__init__" (defScope s_Number_init) f cdv A outer s H E) "common_divisor" (fun vs H Q => spGcd (vs ++ []) H Q E0) := fn_own (cr_fn FG hr bG .nil pass0) rfl mG kG (by decide)
    have hsc_ : (cxOf CX0 P w K mg base ["self", "top", "bottom", "divisor"] "Number.__init__" (defScope s_Number_init) f cdv A outer s H E).env.scope = defScope s_Number_init := rfl
    have hN_ : (cxOf CX0 P w K mg base ["self", "top", "bottom", "divisor"] "Number.__init__" (defScope s_Number_init) f cdv A outer s H E).N = (["self", "top", "bottom", "divisor"] : List Str) := rfl
    generalize (cxOf CX0 P w K mg base ["self", "top", "bottom", "divisor"] "Number.__init__" (defScope s_Number_init) f cdv A outer s H E) = X at *
    change Gb _ _ _ [some _, some _, some _, none] _
    first | refine b_one ?_ | refine b_cons ?_
    walk_at "go"
    refine ⟨_, _, _, rfl, .base (.int _), ki_int, ⟨_, rfl, ?_⟩⟩
    walk_at "go"
    refine ⟨_, _, _, rfl, .base (.int _), ki_int, ⟨_, rfl, ?_⟩⟩
    walk_at "go"
    refine ⟨_, _, rfl, by split <;> omega, by split <;> omega, ?_⟩
    rw [gcd_abs]
    have d0 := dv_ne (a := a) hb
    have d1 := dv_le (a := a) hb
    walk_at "go"
    · rename_i z
      have e : 0 - (Int.gcd a b : Int) = dv a b := by unfold dv; rw [if_pos z]
      rw [e]
      refine o_fdivWN ⟨d0, lg d1 hlog⟩ ?_
      walk_at "go"
      refine o_fdivWN ⟨d0, lg d1 hlog⟩ ?_
      walk_at "go"
      rename_i H1 e1 h1 H2 e2 h2
      exact k _ (e1.tr e2) h2
    · rename_i z
      have e : (Int.gcd a b : Int) = dv a b := by unfold dv; rw [if_neg z]
      rw [e]
      refine o_fdivWN ⟨d0, lg d1 hlog⟩ ?_
      walk_at "go"
      refine o_fdivWN ⟨d0, lg d1 hlog⟩ ?_
      walk_at "go"
      rename_i H1 e1 h1 H2 e2 h2
      exact k _ (e1.tr e2) h2
end
section
variable {P : Program} {w : World} {K : PySem.W.Frag} {mg : Str → Option Value} {base : Heap} {C : Addr}
theorem NmT.ty {H : Hp} {p : Addr} {x y : Int} (N : NmT K mg C) (h : NumAt C H p x y) : TyX K H (.ref p) (.ref C) := let ⟨_, e⟩ := h; .base (.ins e N.cl N.ca N.cn N.ct N.cm)
/-- == -/
def spEq (K : PySem.W.Frag) (C : Addr) : Sp := fun vs H Q _ => ∃ p y x1 y1, vs = [.ref p, y] ∧ NumAt C H p x1 y1 ∧
  ((∃ t, TyX K H y t ∧ PySem.W.kitOne K t (.ref C) = some false ∧ Q (.bl false) H) ∨ ∃ q x2 y2, y = .ref q ∧ NumAt C H q x2 y2 ∧ Q (.bl (decide (x1 = x2) && decide (y1 = y2))) H)
abbrev s_Number_eq : Stmt := inClass (top 12) 13
theorem sc_Number_eq : FnScope ["self", "other"] ["self", "other"] (defScope s_Number_eq) := ⟨rfl, rfl, rfl, by decide +kernel, rfl, by decide +kernel, by decide +kernel⟩
theorem ok_neq {f : Addr} {fd : FuncData} (F : Fun K "__eq__" "Number.__eq__" s_Number_eq f fd) (T : Txt K mg) (N : NmT K mg C) : FnOk P w K mg base CX0 1 f fd ["self", "other"] (spEq K C) := by
  refine F.ok sc_Number_eq (fun vs H Q E h => ?_) (fun cdv A outer s H vs Q E hr h => ?_)
  · obtain ⟨p, y, x1, y1, rfl, _⟩ := h
    rfl
  · obtain ⟨p, y, x1, y1, rfl, ⟨dx, hp⟩, k⟩ := h
    refine ⟨_, pb, ?_⟩
    have l0 : Sl (cxOf CX0 P w K mg base ["self", "other"] "Number.__eq__" (defScope s_Number_eq) f cdv A outer s H E).nox 0 "self" := ⟨rfl, .inl rfl, by decide, by decide⟩
    have w0 : Sw (cxOf CX0 P w K mg base ["self", "other"] "Number.__eq__" (defScope s_Number_eq) f cdv A outer s H E).nox 0 "self" := ⟨rfl, .inl rfl, .inl rfl, sc_Number_eq.nd⟩
    have k0 : Sk (cxOf CX0 P w K mg base ["self", "other"] "Number.__eq__" (defScope s_Number_eq) f cdv A outer s H E).nox "self" := ⟨rfl⟩
    have l1 : Sl (cxOf CX0 P w K mg base ["self", "other"] "Number.__eq__" (defScope s_Number_eq) f cdv A outer s H E).nox 1 "other" := ⟨rfl, .inl rfl, by decide, by decide⟩
    have w1 : Sw (cxOf CX0 P w K mg base ["self", "other"] "Number.__eq__" (defScope s_Number_eq) f cdv A outer s H E).nox 1 "other" := ⟨rfl, .inl rfl, .inl rfl, sc_Number_eq.nd⟩
    have k1 : Sk (cxOf CX0 P w K mg base ["self", "other"] "Number.__eq__" (defScope s_Number_eq) f cdv A outer s H E).nox "other" := ⟨rfl⟩
    have b_isinstance_ : Fn (cxOf CX0 P w K mg base ["self", "other"] "Number.__eq__" (defScope s_Number_eq) f cdv A outer s H E).nox "isinstance" (rIsi K) := b_isi ⟨rfl, T.«isinstance», by decide +kernel, by decide, by decide⟩
    -- global Number
    have cl_ : Cls (cxOf CX0 P w K mg base ["self", "other"] "Number.__eq__" (defScope s_Number_eq) f cdv A outer s H E).nox.K C := N.cl
    have nT_ : NoAttr (cxOf CX0 P w K mg base ["self", "other"] "Number.__eq__" (defScope s_Number_eq) f cdv A outer s H E).nox.K C "top" := N.nT
    have nB_ : NoAttr (cxOf CX0 P w K mg base ["self", "other"] "Number.__eq__" (defScope s_Number_eq) f cdv A outer s H E).nox.K C "bottom" := N.nB
    have g1_ : Gn (cxOf CX0 P w K mg base ["self", "other"] "Number.__eq__" (defScope s_Number_eq) f cdv A outer s H E).nox "Number" (.ref C) := ⟨rfl, ⟨_, N.mgC, rfl⟩, by decide⟩
    have hsc_ : (cxOf CX0 P w K mg base ["self", "other"] "Number.__eq__" (defScope s_Number_eq) f cdv A outer s H E).nox.env.scope = defScope s_Number_eq := rfl
    have hN_ : (cxOf CX0 P w K mg base ["self", "other"] "Number.__eq__" (defScope s_Number_eq) f cdv A outer s H E).nox.N = (["self", "other"] : List Str) := rfl
    generalize (cxOf CX0 P w K mg base ["self", "other"] "Number.__eq__" (defScope s_Number_eq) f cdv A outer s H E).nox = X at *
    change Gb _ _ _ [some _, some _] _
    first | refine b_one ?_ | refine b_cons ?_
    walk_at "go"
    rcases k with ⟨t, ty, kt, k⟩ | ⟨q, x2, y2, rfl, ⟨dy, hq⟩, k⟩
    · refine r_isi (.own C) ty kt ?_
      walk_at "go"
      exact k
    · refine r_isi (.own C) (N.ty ⟨dy, hq⟩) kit_same ?_
      walk_at "go"
      · rename_i z
        rw [decide_eq_true z, Bool.true_and] at k
        exact k
      · rename_i z
        rw [decide_eq_false z, Bool.false_and] at k
        exact k
/-- str -/
def spStr (C : Addr) : Sp := fun vs H Q _ => ∃ p x y, vs = [.ref p] ∧ NumAt C H p x y ∧ x.natAbs.log2 < 1900 ∧ y.natAbs.log2 < 1900 ∧ Q (.str (nTxt x y)) H
abbrev s_Number_str : Stmt := inClass (top 12) 14
theorem sc_Number_str : FnScope ["self"] ["self"] (defScope s_Number_str) := ⟨rfl, rfl, rfl, by decide +kernel, rfl, by decide +kernel, by decide +kernel⟩
theorem ok_nstr {f : Addr} {fd : FuncData} (F : Fun K "__str__" "Number.__str__" s_Number_str f fd) (N : NmT K mg C) : FnOk P w K mg base CX0 1 f fd ["self"] (spStr C) := by
  refine F.ok sc_Number_str (fun vs H Q E h => ?_) (fun cdv A outer s H vs Q E hr h => ?_)
  · obtain ⟨p, x, y, rfl, _⟩ := h
    rfl
  · obtain ⟨p, x, y, rfl, ⟨dx, hp⟩, hx, hy, k⟩ := h
    refine ⟨_, pb, ?_⟩
    have l0 : Sl (cxOf CX0 P w K mg base ["self"] "Number.__str__" (defScope s_Number_str) f cdv A outer s H E).nox 0 "self" := ⟨rfl, .inl rfl, by decide, by decide⟩
    have w0 : Sw (cxOf CX0 P w K mg base ["self"] "Number.__str__" (defScope s_Number_str) f cdv A outer s H E).nox 0 "self" := ⟨rfl, .inl rfl, .inl rfl, sc_Number_str.nd⟩
    have k0 : Sk (cxOf CX0 P w K mg base ["self"] "Number.__str__" (defScope s_Number_str) f cdv A outer s H E).nox "self" := ⟨rfl⟩
    have cl_ : Cls (cxOf CX0 P w K mg base ["self"] "Number.__str__" (defScope s_Number_str) f cdv A outer s H E).nox.K C := N.cl
    have nT_ : NoAttr (cxOf CX0 P w K mg base ["self"] "Number.__str__" (defScope s_Number_str) f cdv A outer s H E).nox.K C "top" := N.nT
    have nB_ : NoAttr (cxOf CX0 P w K mg base ["self"] "Number.__str__" (defScope s_Number_str) f cdv A outer s H E).nox.K C "bottom" := N.nB
    have hsc_ : (cxOf CX0 P w K mg base ["self"] "Number.__str__" (defScope s_Number_str) f cdv A outer s H E).nox.env.scope = defScope s_Number_str := rfl
    have hN_ : (cxOf CX0 P w K mg base ["self"] "Number.__str__" (defScope s_Number_str) f cdv A outer s H E).nox.N = (["self"] : List Str) := rfl
    generalize (cxOf CX0 P w K mg base ["self"] "Number.__str__" (defScope s_Number_str) f cdv A outer s H E).nox = X at *
    change Gb _ _ _ [some _] _
    first | refine b_one ?_ | refine b_cons ?_
    walk_at "go"
    · rename_i z
      unfold nTxt at k
      rw [if_pos z] at k
      refine e_fmt ?_
      walk_at "go"
      exact .inr ⟨_, rfl, by omega, k⟩
    · rename_i z
      have hx' := len_i (by decide) hx
      have hy' := len_i (by decide) hy
      have h1 : (Str.ofString "/").length = 1 := rfl
      have hl := line_ge
      unfold nTxt at k
      rw [if_neg z] at k
      refine e_fmt ?_
      walk_at "go"
      refine .inr ⟨_, rfl, by omega, ⟨_, rfl, by rw [Str.empty_append]; omega, ?_⟩⟩
      rw [Str.empty_append]
      walk_at "go"
      refine ⟨by rw [len_app]; omega, ?_⟩
      walk_at "go"
      refine e_fmt ?_
      walk_at "go"
      refine .inr ⟨_, rfl, by omega, ⟨_, rfl, by rw [len_app, len_app]; omega, ?_⟩⟩
      exact k
/-- repr -/
def spRepr (C : Addr) : Sp := fun vs H Q _ => ∃ p x y, vs = [.ref p] ∧ NumAt C H p x y ∧ x.natAbs.log2 < 1900 ∧ y.natAbs.log2 < 1900 ∧ Q (.str ("Number(" ++ nTxt x y ++ ")")) H
abbrev s_Number_repr : Stmt := inClass (top 12) 15
theorem sc_Number_repr : FnScope ["self"] ["self"] (defScope s_Number_repr) := ⟨rfl, rfl, rfl, by decide +kernel, rfl, by decide +kernel, by decide +kernel⟩
theorem ok_nrepr {f fS : Addr} {fd fdS : FuncData} (F : Fun K "__repr__" "Number.__repr__" s_Number_repr f fd) (N : NmT K mg C)
    (FS : FnOk P w K mg base CX0 1 fS fdS ["self"] (spStr C)) (bS : Binds K fdS ["self"] []) (aS : PySem.W.findIn K (.ref C) "__str__" = some (some (.ref fS))) (iS : PySem.W.isFn K (.ref fS) = true)
    (fm : PySem.W.findIn K (.ref C) "__format__" = some (some (.builtin "object.__format__"))) : FnOk P w K mg base CX0 6 f fd ["self"] (spRepr C) := by
  refine F.ok sc_Number_repr (fun vs H Q E h => ?_) (fun cdv A outer s H vs Q E hr h => ?_)
  · obtain ⟨p, x, y, rfl, _⟩ := h
    rfl
  · obtain ⟨p, x, y, rfl, ⟨dx, hp⟩, hx, hy, k⟩ := h
    refine ⟨_, pb, ?_⟩
    have l0 : Sl (cxOf CX0 P w K mg base ["self"] "Number.__repr__" (defScope s_Number_repr) f cdv A outer s H E).nox 0 "self" := ⟨rfl, .inl rfl, by decide, by decide⟩
    have w0 : Sw (cxOf CX0 P w K mg base ["self"] "Number.__repr__" (defScope s_Number_repr) f cdv A outer s H E).nox 0 "self" := ⟨rfl, .inl rfl, .inl rfl, sc_Number_repr.nd⟩
    have k0 : Sk (cxOf CX0 P w K mg base ["self"] "Number.__repr__" (defScope s_Number_repr) f cdv A outer s H E).nox "self" := ⟨rfl⟩
    have D_ : Dm (cxOf CX0 P w K mg base ["self"] "Number.__repr__" (defScope s_Number_repr) f cdv A outer s H E).nox C "__str__" (fun vs H Q => spStr C (vs ++ []) H Q E0) := dm_mk aS iS FS bS .nil hr pass0
    have fm_ : PySem.W.findIn (cxOf CX0 P w K mg base ["self"] "Number.__repr__" (defScope s_Number_repr) f cdv A outer s H E).nox.K (.ref C) "__format__" = some (some (.builtin "object.__format__")) := fm
    have cm_ : PySem.W.mroIn (cxOf CX0 P w K mg base ["self"] "Number.__repr__" (defScope s_Number_repr) f cdv A outer s H E).nox.K C (.type "object") = some true := N.cm
    have hsc_ : (cxOf CX0 P w K mg base ["self"] "Number.__repr__" (defScope s_Number_repr) f cdv A outer s H E).nox.env.scope = defScope s_Number_repr := rfl
    have hN_ : (cxOf CX0 P w K mg base ["self"] "Number.__repr__" (defScope s_Number_repr) f cdv A outer s H E).nox.N = (["self"] : List Str) := rfl
    generalize (cxOf CX0 P w K mg base ["self"] "Number.__repr__" (defScope s_Number_repr) f cdv A outer s H E).nox = X at *
    change Gb _ _ _ [some _] _
    first | refine b_one ?_ | refine b_cons ?_
    have hn := nTxt_len hx hy
    have hl := line_ge
    have h7 : (Str.ofString "Number(").length = 7 := rfl
    have h1 : (Str.ofString ")").length = 1 := rfl
    walk_at "go"
    refine ⟨by rw [Str.empty_append]; omega, ?_⟩
    rw [Str.empty_append]
    walk_at "go"
    refine e_fmtO D_ fm_ cm_ ?_
    walk_at "go"
    refine ⟨p, dx, _, rfl, hp, p, x, y, rfl, ⟨dx, hp⟩, hx, hy, _, rfl, _, rfl, by rw [len_app]; omega, ?_⟩
    walk_at "go"
    exact ⟨by rw [len_app, len_app]; omega, k⟩
/-- sign -/
def sgn (x : Int) : Int := if 0 < x then 1 else if x < 0 then -1 else 0
def spSign (C : Addr) : Sp := fun vs H Q _ => ∃ p x y, vs = [.ref p] ∧ NumAt C H p x y ∧ Q (.int (sgn x)) H
abbrev s_Number_sign : Stmt := inClass (top 12) 2
theorem sc_Number_sign : FnScope ["self"] ["self"] (defScope s_Number_sign) := ⟨rfl, rfl, rfl, by decide +kernel, rfl, by decide +kernel, by decide +kernel⟩
theorem ok_nsign {f : Addr} {fd : FuncData} (F : Fun K "sign" "Number.sign" s_Number_sign f fd) (N : NmT K mg C) : FnOk P w K mg base CX0 1 f fd ["self"] (spSign C) := by
  refine F.ok sc_Number_sign (fun vs H Q E h => ?_) (fun cdv A outer s H vs Q E hr h => ?_)
  · obtain ⟨p, x, y, rfl, _⟩ := h
    rfl
  · obtain ⟨p, x, y, rfl, ⟨dx, hp⟩, k⟩ := h
    refine ⟨_, pb, ?_⟩
    have l0 : Sl (cxOf CX0 P w K mg base ["self"] "Number.sign" (defScope s_Number_sign) f cdv A outer s H E).nox 0 "self" := ⟨rfl, .inl rfl, by decide, by decide⟩
    have w0 : Sw (cxOf CX0 P w K mg base ["self"] "Number.sign" (defScope s_Number_sign) f cdv A outer s H E).nox 0 "self" := ⟨rfl, .inl rfl, .inl rfl, sc_Number_sign.nd⟩
    have k0 : Sk (cxOf CX0 P w K mg base ["self"] "Number.sign" (defScope s_Number_sign) f cdv A outer s H E).nox "self" := ⟨rfl⟩
    have cl_ : Cls (cxOf CX0 P w K mg base ["self"] "Number.sign" (defScope s_Number_sign) f cdv A outer s H E).nox.K C := N.cl
    have nT_ : NoAttr (cxOf CX0 P w K mg base ["self"] "Number.sign" (defScope s_Number_sign) f cdv A outer s H E).nox.K C "top" := N.nT
    have hsc_ : (cxOf CX0 P w K mg base ["self"] "Number.sign" (defScope s_Number_sign) f cdv A outer s H E).nox.env.scope = defScope s_Number_sign := rfl
    have hN_ : (cxOf CX0 P w K mg base ["self"] "Number.sign" (defScope s_Number_sign) f cdv A outer s H E).nox.N = (["self"] : List Str) := rfl
    generalize (cxOf CX0 P w K mg base ["self"] "Number.sign" (defScope s_Number_sign) f cdv A outer s H E).nox = X at *
    change Gb _ _ _ [some _] _
    first | refine b_one ?_ | refine b_cons ?_
    walk_at "go"
    have e : PyProof.Rows.b2i (decide (0 < x)) - PyProof.Rows.b2i (decide (x < 0)) = sgn x := by
      unfold sgn PyProof.Rows.b2i
      by_cases z : 0 < x
      · simp [z]
        omega
      · by_cases z' : x < 0 <;> simp [z, z']
    rw [e]
    exact k
end
section
variable {P : Program} {w : World} {K : PySem.W.Frag} {mg : Str → Option Value} {base : Heap} {C : Addr}
/-- a new Number of one or two ints -/
def spNew (C : Addr) (vs : List V) (H : Hp) (Q : VK) : Prop := ∃ a b, (vs = [.int a, .int b] ∨ (vs = [.int a] ∧ b = 1)) ∧ b ≠ 0 ∧ b.natAbs.log2 < 9000 ∧ ∀ p H', H p = none → Ex H H' → NumAt C H' p (low a b).1 (low a b).2 → Q (.ref p) H'
theorem cal_new {X : Cx} {k : Nat} {f : Addr} {fd : FuncData} {ds : List Value} (M : Mk X.K C f) (F : FnOk X.prog X.w X.K X.mg X.base CX0 k f fd ["self", "top", "bottom"] (spInit C)) (hr : Room (k + 1) X.A) (b2 : Binds X.K fd ["self", "top", "bottom"] []) (b1 : Binds X.K fd ["self", "top", "bottom"] ds) (hd : Vals [.int 1] ds) : Cal X (.ref C) (spNew C) := by
  rintro Y ⟨e1, e2, e3, e4, e5, e6, _⟩
  rw [← e1, ← e2, ← e3, ← e4, ← e5] at F
  rw [← e6] at hr
  rw [← e3] at b1 b2 M
  have key : ∀ (H : Hp) (Q : VK) (a b : Int), b ≠ 0 → b.natAbs.log2 < 9000 → (∀ p H', H p = none → Ex H H' → NumAt C H' p (low a b).1 (low a b).2 → Q (.ref p) H') → ∀ x dx, H x = none → H dx = none → dx ≠ x →
      spInit C [.ref x, .int a, .int b] (upd (upd H dx (.own x)) x (.ins C dx [])) (fun v H2 => v = .non ∧ Q (.ref x) H2) E0 := by
    intro H Q a b hb hl k x dx hx hdx ne
    refine ⟨x, dx, a, b, rfl, upd_same, hb, hl, fun H' e h => ⟨rfl, k x H' hx (fun c o q => ?_) ⟨dx, h⟩⟩⟩
    refine e c o (ne_of_none q hx) ?_
    rw [upd_ne (ne_of_none q hx), upd_ne (ne_of_none q hdx)]
    exact q
  refine CallR.imp' (CallR.or (cr_mk (E := E0) M F hr b2 .nil pass0) (cr_mk (E := E0) M F hr b1 hd pass0)) ?_
  rintro vs H Q ⟨a, b, e, hb, hl, k⟩
  rcases e with rfl | ⟨rfl, rfl⟩
  · exact .inl (key H Q a b hb hl k)
  · exact .inr (key H Q a 1 hb hl k)
def spNumIn (C : Addr) : Sp := fun vs H Q _ => ∃ t, vs = [.str t] ∧ t.length ≤ 600 ∧ (numIn t = none → ∀ H', Ex H H' → Q .non H') ∧ ∀ a b, numIn t = some (a, b) → ∀ p H', H p = none → Ex H H' → NumAt C H' p (low a b).1 (low a b).2 → Q (.ref p) H'
abbrev s_number_in : Stmt := top 13
theorem sc_number_in : FnScope ["text", "top", "slash", "bottom", "digits", "part", "sign"] ["text"] (defScope s_number_in) := ⟨rfl, rfl, rfl, by decide +kernel, rfl, by decide +kernel, by decide +kernel⟩
theorem ok_numin {f : Addr} {fd : FuncData} (F : Fun K "number_in" "number_in" s_number_in f fd) (T : Txt K mg) (N : NmT K mg C) {k : Nat} {fI : Addr} {fdI : FuncData} {ds : List Value} (kC : PySem.W.keepIn K (.ref C) = true)
    (M : Mk K C fI) (FI : FnOk P w K mg base CX0 2 fI fdI ["self", "top", "bottom"] (spInit C)) (b2 : Binds K fdI ["self", "top", "bottom"] []) (b1 : Binds K fdI ["self", "top", "bottom"] ds) (hd : Vals [.int 1] ds) : FnOk P w K mg base CX0 4 f fd ["text"] (spNumIn C) := by
  refine F.ok sc_number_in (fun vs H Q E h => ?_) (fun cdv A outer s H vs Q E hr h => ?_)
  · obtain ⟨t, rfl, _⟩ := h
    rfl
  · obtain ⟨t, rfl, hl, kn, kv⟩ := h
    refine ⟨_, pb, ?_⟩
    have l0 : Sl (cxOf CX0 P w K mg base ["text", "top", "slash", "bottom", "digits", "part", "sign"] "number_in" (defScope s_number_in) f cdv A outer s H E).nox 0 "text" := ⟨rfl, .inl rfl, by decide, by decide⟩
    have w0 : Sw (cxOf CX0 P w K mg base ["text", "top", "slash", "bottom", "digits", "part", "sign"] "number_in" (defScope s_number_in) f cdv A outer s H E).nox 0 "text" := ⟨rfl, .inl rfl, .inl rfl, sc_number_in.nd⟩
    have k0 : Sk (cxOf CX0 P w K mg base ["text", "top", "slash", "bottom", "digits", "part", "sign"] "number_in" (defScope s_number_in) f cdv A outer s H E).nox "text" := ⟨rfl⟩
    have l1 : Sl (cxOf CX0 P w K mg base ["text", "top", "slash", "bottom", "digits", "part", "sign"] "number_in" (defScope s_number_in) f cdv A outer s H E).nox 1 "top" := ⟨rfl, .inl rfl, by decide, by decide⟩
    have w1 : Sw (cxOf CX0 P w K mg base ["text", "top", "slash", "bottom", "digits", "part", "sign"] "number_in" (defScope s_number_in) f cdv A outer s H E).nox 1 "top" := ⟨rfl, .inl rfl, .inl rfl, sc_number_in.nd⟩
    have k1 : Sk (cxOf CX0 P w K mg base ["text", "top", "slash", "bottom", "digits", "part", "sign"] "number_in" (defScope s_number_in) f cdv A outer s H E).nox "top" := ⟨rfl⟩
    have l2 : Sl (cxOf CX0 P w K mg base ["text", "top", "slash", "bottom", "digits", "part", "sign"] "number_in" (defScope s_number_in) f cdv A outer s H E).nox 2 "slash" := ⟨rfl, .inl rfl, by decide, by decide⟩
    have w2 : Sw (cxOf CX0 P w K mg base ["text", "top", "slash", "bottom", "digits", "part", "sign"] "number_in" (defScope s_number_in) f cdv A outer s H E).nox 2 "slash" := ⟨rfl, .inl rfl, .inl rfl, sc_number_in.nd⟩
    have k2 : Sk (cxOf CX0 P w K mg base ["text", "top", "slash", "bottom", "digits", "part", "sign"] "number_in" (defScope s_number_in) f cdv A outer s H E).nox "slash" := ⟨rfl⟩
    have l3 : Sl (cxOf CX0 P w K mg base ["text", "top", "slash", "bottom", "digits", "part", "sign"] "number_in" (defScope s_number_in) f cdv A outer s H E).nox 3 "bottom" := ⟨rfl, .inl rfl, by decide, by decide⟩
    have w3 : Sw (cxOf CX0 P w K mg base ["text", "top", "slash", "bottom", "digits", "part", "sign"] "number_in" (defScope s_number_in) f cdv A outer s H E).nox 3 "bottom" := ⟨rfl, .inl rfl, .inl rfl, sc_number_in.nd⟩
    have k3 : Sk (cxOf CX0 P w K mg base ["text", "top", "slash", "bottom", "digits", "part", "sign"] "number_in" (defScope s_number_in) f cdv A outer s H E).nox "bottom" := ⟨rfl⟩
    have l4 : Sl (cxOf CX0 P w K mg base ["text", "top", "slash", "bottom", "digits", "part", "sign"] "number_in" (defScope s_number_in) f cdv A outer s H E).nox 4 "digits" := ⟨rfl, .inl rfl, by decide, by decide⟩
    have w4 : Sw (cxOf CX0 P w K mg base ["text", "top", "slash", "bottom", "digits", "part", "sign"] "number_in" (defScope s_number_in) f cdv A outer s H E).nox 4 "digits" := ⟨rfl, .inl rfl, .inl rfl, sc_number_in.nd⟩
    have k4 : Sk (cxOf CX0 P w K mg base ["text", "top", "slash", "bottom", "digits", "part", "sign"] "number_in" (defScope s_number_in) f cdv A outer s H E).nox "digits" := ⟨rfl⟩
    have l5 : Sl (cxOf CX0 P w K mg base ["text", "top", "slash", "bottom", "digits", "part", "sign"] "number_in" (defScope s_number_in) f cdv A outer s H E).nox 5 "part" := ⟨rfl, .inl rfl, by decide, by decide⟩
    have w5 : Sw (cxOf CX0 P w K mg base ["text", "top", "slash", "bottom", "digits", "part", "sign"] "number_in" (defScope s_number_in) f cdv A outer s H E).nox 5 "part" := ⟨rfl, .inl rfl, .inl rfl, sc_number_in.nd⟩
    have k5 : Sk (cxOf CX0 P w K mg base ["text", "top", "slash", "bottom", "digits", "part", "sign"] "number_in" (defScope s_number_in) f cdv A outer s H E).nox "part" := ⟨rfl⟩
    have b_all_ : Fn (cxOf CX0 P w K mg base ["text", "top", "slash", "bottom", "digits", "part", "sign"] "number_in" (defScope s_number_in) f cdv A outer s H E).nox "all" (rAll K) := b_all rfl ⟨rfl, T.«all», by decide +kernel, by decide, by decide⟩
    -- global Number
    have b_int_ : Fn (cxOf CX0 P w K mg base ["text", "top", "slash", "bottom", "digits", "part", "sign"] "number_in" (defScope s_number_in) f cdv A outer s H E).nox "int" rIntS := b_intS ⟨rfl, T.«int», by decide +kernel, by decide, by decide⟩
    have v_int_ : Bn (cxOf CX0 P w K mg base ["text", "top", "slash", "bottom", "digits", "part", "sign"] "number_in" (defScope s_number_in) f cdv A outer s H E).nox "int" (.type "int") := ⟨rfl, T.«int», by decide +kernel, by decide, by decide⟩
    have c1_ : Fn (cxOf CX0 P w K mg base ["text", "top", "slash", "bottom", "digits", "part", "sign"] "number_in" (defScope s_number_in) f cdv A outer s H E).nox "Number" (spNew C) := (cal_new (X := (cxOf CX0 P w K mg base ["text", "top", "slash", "bottom", "digits", "part", "sign"] "number_in" (defScope s_number_in) f cdv A outer s H E).nox) M FI hr b2 b1 hd).at .rfl' rfl N.mgC kC (by decide)
    have po_ : PassesOwn (model (cxOf CX0 P w K mg base ["text", "top", "slash", "bottom", "digits", "part", "sign"] "number_in" (defScope s_number_in) f cdv A outer s H E).nox.prog (cxOf CX0 P w K mg base ["text", "top", "slash", "bottom", "digits", "part", "sign"] "number_in" (defScope s_number_in) f cdv A outer s H E).nox.w) (cxOf CX0 P w K mg base ["text", "top", "slash", "bottom", "digits", "part", "sign"] "number_in" (defScope s_number_in) f cdv A outer s H E).nox.A (cxOf CX0 P w K mg base ["text", "top", "slash", "bottom", "digits", "part", "sign"] "number_in" (defScope s_number_in) f cdv A outer s H E).nox.env (cxOf CX0 P w K mg base ["text", "top", "slash", "bottom", "digits", "part", "sign"] "number_in" (defScope s_number_in) f cdv A outer s H E).nox.xe := PassesOwn.never
    have cm_ : (cxOf CX0 P w K mg base ["text", "top", "slash", "bottom", "digits", "part", "sign"] "number_in" (defScope s_number_in) f cdv A outer s H E).nox.calm = true := rfl
    have hsc_ : (cxOf CX0 P w K mg base ["text", "top", "slash", "bottom", "digits", "part", "sign"] "number_in" (defScope s_number_in) f cdv A outer s H E).nox.env.scope = defScope s_number_in := rfl
    have hN_ : (cxOf CX0 P w K mg base ["text", "top", "slash", "bottom", "digits", "part", "sign"] "number_in" (defScope s_number_in) f cdv A outer s H E).nox.N = (["text", "top", "slash", "bottom", "digits", "part", "sign"] : List Str) := rfl
    generalize (cxOf CX0 P w K mg base ["text", "top", "slash", "bottom", "digits", "part", "sign"] "number_in" (defScope s_number_in) f cdv A outer s H E).nox = X at *
    change Gb _ _ _ [some _, none, none, none, none, none, none] _
    first | refine b_one ?_ | refine b_cons ?_
    have hp := part_len t
    walk_at "go"
    refine ⟨⟨_, rfl⟩, ?_⟩
    walk_at "go"
    refine ⟨_, _, rfl, rfl, by decide, by omega, fun p1 H1 n1 e1 h1 => ?_⟩
    walk_at "go"
    refine ⟨_, _, _, _, rfl, h1, ?_⟩
    walk_at "gon"
    refine go_post (fun x H' => x = .str (numD t) ∧ H1 = H') ?_ ?_
    · walk_at "go"
      refine sls_ok (by omega) ?_
      walk_at "go"
      · rename_i z
        refine sls_ok (by omega) ⟨?_, rfl⟩
        unfold numD neg1
        rw [if_pos (decide_eq_true z)]
      · rename_i z
        refine ⟨?_, rfl⟩
        unfold numD neg1
        rw [if_neg (by rw [decide_eq_true_eq]; exact z)]
    rintro _ _ ⟨rfl, rfl⟩
    walk_at "gon"
    refine gs_post (fun σ' H' => H1 = H' ∧ σ' = [some (.str t), some (.str (Txt.partition t "/").1), some (.str (Txt.partition t "/").2.1), some (.str (numB t)), some (.str (numD t)), none, none]) ?_ ?_
    · walk_at "go"
      · rename_i z
        refine ⟨rfl, ?_⟩
        unfold numB
        rw [if_pos z]
      · rename_i z
        refine ⟨rfl, ?_⟩
        unfold numB
        rw [if_neg z]
    rintro _ _ ⟨rfl, rfl⟩
    walk_at "gon"
    refine s_forT po_ cm_ (by intro _; rfl) w5 ?_
    walk_at "gon"
    refine ⟨by simp, fun p2 H2 n2 e2 h2 => ?_⟩
    refine ⟨_, _, rfl, h2, fun i σ H' => Ex H2 H' ∧ ((0 < i → digs (numD t) = true) ∧ (1 < i → digs (numB t) = true)) ∧ ∃ o, σ = [some (.str t), some (.str (Txt.partition t "/").1), some (.str (Txt.partition t "/").2.1), some (.str (numB t)), some (.str (numD t)), o, none],
      ⟨Ex.rfl', ⟨fun z => absurd z (by decide), fun z => absurd z (by decide)⟩, _, rfl⟩, fun i σ H' _ ⟨e, _⟩ => e _ _ h2, ?_, ?_⟩
    · rintro i x σ H3 hx ⟨e3, ⟨g0, g1⟩, o, rfl⟩
      obtain ⟨y, rfl, hy, hyl⟩ : ∃ y, x = .str y ∧ ((i = 0 ∧ y = numD t) ∨ (i = 1 ∧ y = numB t)) ∧ y.length ≤ 1000 := by
        have d1 := numD_len t
        have d2 := numB_len t
        match i, hx with
        | 0, hx => exact ⟨_, (Option.some.inj hx).symm, .inl ⟨rfl, rfl⟩, by omega⟩
        | 1, hx => exact ⟨_, (Option.some.inj hx).symm, .inr ⟨rfl, rfl⟩, by omega⟩
        | n + 2, hx => simp at hx
      have bad : ∀ H', Ex H H' → digs y = false → Q .non H' := fun H' e hd => kn (by
        unfold numIn
        rw [if_neg]
        rintro ⟨a1, a2, _⟩
        rcases hy with ⟨_, rfl⟩ | ⟨_, rfl⟩
        · rw [hd] at a1; cases a1
        · rw [hd] at a2; cases a2) H' e
      show Gb X _ _ [some (.str t), some (.str (Txt.partition t "/").1), some (.str (Txt.partition t "/").2.1), some (.str (numB t)), some (.str (numD t)), some (.str y), none] H3
      walk_at "go"
      · rename_i z
        exact bad _ (e1.tr (e2.tr e3)) (by unfold digs; rw [decide_eq_false (fun n => n z)]; rfl)
      · rename_i z
        refine e_map (own := [("sign", 6)]) (j := 6) cm_ w0.nd ?ok ?hf ?hw ?hj ?_
        case ok => rw [hN_, hsc_]; exact blkOk_by (by decide +kernel)
        case hf => intro _; rfl
        case hw => exact fun Z hZ => sw_blk hZ hsc_ hN_ rfl rfl sc_number_in.nd
        case hj => exact fun _ => rfl
        refine i_str ?_
        walk_at "go"
        refine ⟨_, _, _, fun i b => ∃ c, y.cps[i]? = some c ∧ b = .bl (decide (c ∈ ("0123456789" : Str).cps.toList)), walk_str, by show y.length ≤ _; omega, fun _ _ => trivial, ?_, ?_⟩
        · rintro i x H4 H5 hi e4 ⟨rfl, c, hc, rfl⟩ Z hZ
          have l6 : Sl Z 6 "sign" := sl_blk hZ hsc_ hN_ rfl (.inl rfl) (by decide) (by decide)
          walk_at "go"
          refine c_inS ?_
          exact ⟨Ex.rfl', c, hc, rfl⟩
        · rintro ys D0 H4 hl hr nD e4 hD
          have ey := signs_of hl hr
          rw [ey] at hD
          walk_at "go"
          refine r_all hD ⟨_, rfl, ?_⟩
          have ed : (y.cps.toList.map fun c => decide (c ∈ ("0123456789" : Str).cps.toList)).all id = digs y := by
            unfold digs
            rename_i z
            rw [decide_eq_true z, Bool.true_and, List.all_map]
            rfl
          rw [ed]
          refine cAny (fun z' => ?_) fun z' => ?_
          · walk_at "go"
            exact bad _ (e1.tr (e2.tr (e3.tr e4))) (by simpa using z')
          · walk_at "go"
            have z2 : digs y = true := by simpa using z'
            refine ⟨e3.tr e4, ⟨fun _ => ?_, fun h => ?_⟩, _, rfl⟩
            · rcases hy with ⟨hi, rfl⟩ | ⟨hi, rfl⟩
              · exact z2
              · exact g0 (by omega)
            · rcases hy with ⟨hi, rfl⟩ | ⟨hi, rfl⟩
              · omega
              · exact z2
    · rintro σ H3 ⟨e3, ⟨g0, g1⟩, o, rfl⟩
      have d0 := g0 (by simp)
      have d1 := g1 (by simp)
      have i0 := int_top (by omega) d0
      have i1 := int_bot (by omega) d1
      have q1 := numB_len t
      walk_at "gon"
      refine e_if ?_
      walk_at "gon"
      refine r_intT i1 (by omega) ?_
      walk_at "go"
      · rename_i z
        exact kn (by unfold numIn; rw [if_neg (fun n => n.2.2 z)]) _ (e1.tr (e2.tr e3))
      · rename_i z
        refine r_intT i0 (by omega) ?_
        walk_at "go"
        refine r_intT i1 (by omega) ?_
        walk_at "go"
        refine ⟨_, _, .inl rfl, z, numW_log hl d1, fun p H4 n4 e4 hn => kv _ _ (by unfold numIn; rw [if_pos ⟨d0, d1, z⟩]) p _ ((e1.tr (e2.tr e3)).fr n4) (e1.tr (e2.tr (e3.tr e4))) hn⟩
end
section
variable {P : Program} {w : World} {K : PySem.W.Frag} {mg : Str → Option Value} {base : Heap} {C : Addr}
/-- Number.read of a text that a Number has -/
def spRead (C : Addr) : Sp := fun vs H Q _ => ∃ x y, vs = [.str (nTxt x y)] ∧ 0 < y ∧ Int.gcd x y = 1 ∧ x.natAbs.log2 < 250 ∧ y.natAbs.log2 < 250 ∧ ∀ p H', H p = none → Ex H H' → NumAt C H' p x y → Q (.ref p) H'
theorem nTxt_len2 {x y : Int} (hx : x.natAbs.log2 < 250) (hy : y.natAbs.log2 < 250) : (nTxt x y).length ≤ 600 := by
  have h1 := len_i (by decide) hx
  have h2 := len_i (by decide) hy
  unfold nTxt
  split
  · omega
  · rw [len_app, len_app]
    have h3 : (Str.ofString "/").length = 1 := rfl
    omega
abbrev s_Number_read : Stmt := inClass (top 12) 1
theorem sc_Number_read : FnScope ["text", "found"] ["text"] (defScope s_Number_read) := ⟨rfl, rfl, rfl, by decide +kernel, rfl, by decide +kernel, by decide +kernel⟩
theorem ok_nread {f fR fS : Addr} {fd fdR fdS : FuncData} (F : Fun K "read" "Number.read" s_Number_read f fd) (T : Txt K mg) (N : NmT K mg C)
    (FR : FnOk P w K mg base CX0 4 fR fdR ["text"] (spNumIn C)) (bR : Binds K fdR ["text"] []) (mR : mg "number_in" = some (.ref fR)) (kR : PySem.W.keepIn K (.ref fR) = true)
    (FS : FnOk P w K mg base CX0 1 fS fdS ["self"] (spStr C)) (bS : Binds K fdS ["self"] []) (aS : PySem.W.findIn K (.ref C) "__str__" = some (some (.ref fS))) (iS : PySem.W.isFn K (.ref fS) = true) : FnOk P w K mg base CX0 6 f fd ["text"] (spRead C) := by
  refine F.ok sc_Number_read (fun vs H Q E h => ?_) (fun cdv A outer s H vs Q E hr h => ?_)
  · obtain ⟨x, y, rfl, _⟩ := h
    rfl
  · obtain ⟨x, y, rfl, hy, hg, hx, hy2, k⟩ := h
    refine ⟨_, pb, ?_⟩
    have l0 : Sl (cxOf CX0 P w K mg base ["text", "found"] "Number.read" (defScope s_Number_read) f cdv A outer s H E).nox 0 "text" := ⟨rfl, .inl rfl, by decide, by decide⟩
    have w0 : Sw (cxOf CX0 P w K mg base ["text", "found"] "Number.read" (defScope s_Number_read) f cdv A outer s H E).nox 0 "text" := ⟨rfl, .inl rfl, .inl rfl, sc_Number_read.nd⟩
    have k0 : Sk (cxOf CX0 P w K mg base ["text", "found"] "Number.read" (defScope s_Number_read) f cdv A outer s H E).nox "text" := ⟨rfl⟩
    have l1 : Sl (cxOf CX0 P w K mg base ["text", "found"] "Number.read" (defScope s_Number_read) f cdv A outer s H E).nox 1 "found" := ⟨rfl, .inl rfl, by decide, by decide⟩
    have w1 : Sw (cxOf CX0 P w K mg base ["text", "found"] "Number.read" (defScope s_Number_read) f cdv A outer s H E).nox 1 "found" := ⟨rfl, .inl rfl, .inl rfl, sc_Number_read.nd⟩
    have k1 : Sk (cxOf CX0 P w K mg base ["text", "found"] "Number.read" (defScope s_Number_read) f cdv A outer s H E).nox "found" := ⟨rfl⟩
    have b_isinstance_ : Fn (cxOf CX0 P w K mg base ["text", "found"] "Number.read" (defScope s_Number_read) f cdv A outer s H E).nox "isinstance" (rIsi K) := b_isi ⟨rfl, T.«isinstance», by decide +kernel, by decide, by decide⟩
    have v_str_ : Bn (cxOf CX0 P w K mg base ["text", "found"] "Number.read" (defScope s_Number_read) f cdv A outer s H E).nox "str" (.type "str") := ⟨rfl, T.«str», by decide +kernel, by decide, by decide⟩
    -- global number_in
    -- global InvalidText
    have c1_ : Fn (cxOf CX0 P w K mg base ["text", "found"] "Number.read" (defScope s_Number_read) f cdv A outer s H E).nox "number_in" (fun vs H Q => spNumIn C (vs ++ []) H Q E0) := fn_own (cr_fn FR (hr.mono (by decide)) bR .nil pass0) rfl mR kR (by decide)
    have D_ : Dm (cxOf CX0 P w K mg base ["text", "found"] "Number.read" (defScope s_Number_read) f cdv A outer s H E).nox C "__str__" (fun vs H Q => spStr C (vs ++ []) H Q E0) := dm_mk aS iS FS bS .nil (hr.mono (by decide)) pass0
    have hsc_ : (cxOf CX0 P w K mg base ["text", "found"] "Number.read" (defScope s_Number_read) f cdv A outer s H E).nox.env.scope = defScope s_Number_read := rfl
    have hN_ : (cxOf CX0 P w K mg base ["text", "found"] "Number.read" (defScope s_Number_read) f cdv A outer s H E).nox.N = (["text", "found"] : List Str) := rfl
    generalize (cxOf CX0 P w K mg base ["text", "found"] "Number.read" (defScope s_Number_read) f cdv A outer s H E).nox = X at *
    change Gb _ _ _ [some _, none] _
    first | refine b_one ?_ | refine b_cons ?_
    have b_str_ := b_strN D_ v_str_
    have hl := nTxt_len2 hx hy2
    have hN := numIn_txt (x := x) hy
    walk_at "go"
    refine r_isi (.ty _) (.base (.str _)) (kit_ty (by decide +kernel : _ = some true)) ?_
    walk_at "go"
    refine ⟨_, rfl, hl, fun z => absurd (hN.symm.trans z) (fun n => nomatch n), fun a b e p H' hp ex hn => ?_⟩
    rw [hN] at e
    obtain ⟨rfl, rfl⟩ : x = a ∧ y = b := by cases e; exact ⟨rfl, rfl⟩
    rw [low_self hy hg] at hn
    obtain ⟨dx, e1⟩ := hn
    walk_at "go"
    · rename_i z
      cases z
    · refine .inr ⟨_, rfl, p, dx, _, rfl, e1, p, x, y, rfl, ⟨dx, e1⟩, by omega, by omega, _, rfl, ?_⟩
      walk_at "go"
      · rename_i z
        exact k p H' hp ex ⟨dx, e1⟩
      · rename_i z
        exact absurd rfl z
/-- a spring -/
def spSpring (K : PySem.W.Frag) : Sp := fun vs H Q _ => ∃ (a : Addr) (ns : List Int) (i : Int), vs = [.ref a, .int i] ∧ SqL K H a (ns.map V.int) ∧ 0 ≤ i ∧ i < 1000 ∧ ∀ p H', H p = none → Ex H H' → Spr H' p → Q (.ref p) H'
abbrev s_l_spring : Stmt := top 17
theorem sc_l_spring : FnScope ["_law_script", "_law_spot", "_law_mixed", "_law_at", "_law_own", "_law_digits"] ["_law_script", "_law_spot"] (defScope s_l_spring) := ⟨rfl, rfl, rfl, by decide +kernel, rfl, by decide +kernel, by decide +kernel⟩
theorem ok_spring {f : Addr} {fd : FuncData} (F : Fun K "_law_spring" "_law_spring" s_l_spring f fd) (T : Txt K mg) : FnOk P w K mg base CX0 1 f fd ["_law_script", "_law_spot"] (spSpring K) := by
  refine F.ok sc_l_spring (fun vs H Q E h => ?_) (fun cdv A outer s H vs Q E hr h => ?_)
  · obtain ⟨a, ns, i, rfl, _⟩ := h
    rfl
  · obtain ⟨a, ns, i, rfl, hs, hi, hi2, k⟩ := h
    refine ⟨_, pb, ?_⟩
    have l0 : Sl (cxOf CX0 P w K mg base ["_law_script", "_law_spot", "_law_mixed", "_law_at", "_law_own", "_law_digits"] "_law_spring" (defScope s_l_spring) f cdv A outer s H E).nox 0 "_law_script" := ⟨rfl, .inl rfl, by decide, by decide⟩
    have w0 : Sw (cxOf CX0 P w K mg base ["_law_script", "_law_spot", "_law_mixed", "_law_at", "_law_own", "_law_digits"] "_law_spring" (defScope s_l_spring) f cdv A outer s H E).nox 0 "_law_script" := ⟨rfl, .inl rfl, .inl rfl, sc_l_spring.nd⟩
    have k0 : Sk (cxOf CX0 P w K mg base ["_law_script", "_law_spot", "_law_mixed", "_law_at", "_law_own", "_law_digits"] "_law_spring" (defScope s_l_spring) f cdv A outer s H E).nox "_law_script" := ⟨rfl⟩
    have l1 : Sl (cxOf CX0 P w K mg base ["_law_script", "_law_spot", "_law_mixed", "_law_at", "_law_own", "_law_digits"] "_law_spring" (defScope s_l_spring) f cdv A outer s H E).nox 1 "_law_spot" := ⟨rfl, .inl rfl, by decide, by decide⟩
    have w1 : Sw (cxOf CX0 P w K mg base ["_law_script", "_law_spot", "_law_mixed", "_law_at", "_law_own", "_law_digits"] "_law_spring" (defScope s_l_spring) f cdv A outer s H E).nox 1 "_law_spot" := ⟨rfl, .inl rfl, .inl rfl, sc_l_spring.nd⟩
    have k1 : Sk (cxOf CX0 P w K mg base ["_law_script", "_law_spot", "_law_mixed", "_law_at", "_law_own", "_law_digits"] "_law_spring" (defScope s_l_spring) f cdv A outer s H E).nox "_law_spot" := ⟨rfl⟩
    have l2 : Sl (cxOf CX0 P w K mg base ["_law_script", "_law_spot", "_law_mixed", "_law_at", "_law_own", "_law_digits"] "_law_spring" (defScope s_l_spring) f cdv A outer s H E).nox 2 "_law_mixed" := ⟨rfl, .inl rfl, by decide, by decide⟩
    have w2 : Sw (cxOf CX0 P w K mg base ["_law_script", "_law_spot", "_law_mixed", "_law_at", "_law_own", "_law_digits"] "_law_spring" (defScope s_l_spring) f cdv A outer s H E).nox 2 "_law_mixed" := ⟨rfl, .inl rfl, .inl rfl, sc_l_spring.nd⟩
    have k2 : Sk (cxOf CX0 P w K mg base ["_law_script", "_law_spot", "_law_mixed", "_law_at", "_law_own", "_law_digits"] "_law_spring" (defScope s_l_spring) f cdv A outer s H E).nox "_law_mixed" := ⟨rfl⟩
    have l3 : Sl (cxOf CX0 P w K mg base ["_law_script", "_law_spot", "_law_mixed", "_law_at", "_law_own", "_law_digits"] "_law_spring" (defScope s_l_spring) f cdv A outer s H E).nox 3 "_law_at" := ⟨rfl, .inl rfl, by decide, by decide⟩
    have w3 : Sw (cxOf CX0 P w K mg base ["_law_script", "_law_spot", "_law_mixed", "_law_at", "_law_own", "_law_digits"] "_law_spring" (defScope s_l_spring) f cdv A outer s H E).nox 3 "_law_at" := ⟨rfl, .inl rfl, .inl rfl, sc_l_spring.nd⟩
    have k3 : Sk (cxOf CX0 P w K mg base ["_law_script", "_law_spot", "_law_mixed", "_law_at", "_law_own", "_law_digits"] "_law_spring" (defScope s_l_spring) f cdv A outer s H E).nox "_law_at" := ⟨rfl⟩
    have l4 : Sl (cxOf CX0 P w K mg base ["_law_script", "_law_spot", "_law_mixed", "_law_at", "_law_own", "_law_digits"] "_law_spring" (defScope s_l_spring) f cdv A outer s H E).nox 4 "_law_own" := ⟨rfl, .inl rfl, by decide, by decide⟩
    have w4 : Sw (cxOf CX0 P w K mg base ["_law_script", "_law_spot", "_law_mixed", "_law_at", "_law_own", "_law_digits"] "_law_spring" (defScope s_l_spring) f cdv A outer s H E).nox 4 "_law_own" := ⟨rfl, .inl rfl, .inl rfl, sc_l_spring.nd⟩
    have k4 : Sk (cxOf CX0 P w K mg base ["_law_script", "_law_spot", "_law_mixed", "_law_at", "_law_own", "_law_digits"] "_law_spring" (defScope s_l_spring) f cdv A outer s H E).nox "_law_own" := ⟨rfl⟩
    have l5 : Sl (cxOf CX0 P w K mg base ["_law_script", "_law_spot", "_law_mixed", "_law_at", "_law_own", "_law_digits"] "_law_spring" (defScope s_l_spring) f cdv A outer s H E).nox 5 "_law_digits" := ⟨rfl, .inl rfl, by decide, by decide⟩
    have w5 : Sw (cxOf CX0 P w K mg base ["_law_script", "_law_spot", "_law_mixed", "_law_at", "_law_own", "_law_digits"] "_law_spring" (defScope s_l_spring) f cdv A outer s H E).nox 5 "_law_digits" := ⟨rfl, .inl rfl, .inl rfl, sc_l_spring.nd⟩
    have k5 : Sk (cxOf CX0 P w K mg base ["_law_script", "_law_spot", "_law_mixed", "_law_at", "_law_own", "_law_digits"] "_law_spring" (defScope s_l_spring) f cdv A outer s H E).nox "_law_digits" := ⟨rfl⟩
    have v_range_ : Bn (cxOf CX0 P w K mg base ["_law_script", "_law_spot", "_law_mixed", "_law_at", "_law_own", "_law_digits"] "_law_spring" (defScope s_l_spring) f cdv A outer s H E).nox "range" (.type "range") := ⟨rfl, T.«range», by decide +kernel, by decide, by decide⟩
    have b_min_ : Fn (cxOf CX0 P w K mg base ["_law_script", "_law_spot", "_law_mixed", "_law_at", "_law_own", "_law_digits"] "_law_spring" (defScope s_l_spring) f cdv A outer s H E).nox "min" rMin2 := b_min rfl ⟨rfl, T.«min», by decide +kernel, by decide, by decide⟩
    have b_len_ : Fn (cxOf CX0 P w K mg base ["_law_script", "_law_spot", "_law_mixed", "_law_at", "_law_own", "_law_digits"] "_law_spring" (defScope s_l_spring) f cdv A outer s H E).nox "len" (rLen ((cxOf CX0 P w K mg base ["_law_script", "_law_spot", "_law_mixed", "_law_at", "_law_own", "_law_digits"] "_law_spring" (defScope s_l_spring) f cdv A outer s H E).nox).K) := b_len ⟨rfl, T.«len», by decide +kernel, by decide, by decide⟩
    have b_int_ : Fn (cxOf CX0 P w K mg base ["_law_script", "_law_spot", "_law_mixed", "_law_at", "_law_own", "_law_digits"] "_law_spring" (defScope s_l_spring) f cdv A outer s H E).nox "int" rIntS := b_intS ⟨rfl, T.«int», by decide +kernel, by decide, by decide⟩
    have v_int_ : Bn (cxOf CX0 P w K mg base ["_law_script", "_law_spot", "_law_mixed", "_law_at", "_law_own", "_law_digits"] "_law_spring" (defScope s_l_spring) f cdv A outer s H E).nox "int" (.type "int") := ⟨rfl, T.«int», by decide +kernel, by decide, by decide⟩
    have b_abs_ : Fn (cxOf CX0 P w K mg base ["_law_script", "_law_spot", "_law_mixed", "_law_at", "_law_own", "_law_digits"] "_law_spring" (defScope s_l_spring) f cdv A outer s H E).nox "abs" rAbs := b_abs ⟨rfl, T.«abs», by decide +kernel, by decide, by decide⟩
    have hs_ : SqL ((cxOf CX0 P w K mg base ["_law_script", "_law_spot", "_law_mixed", "_law_at", "_law_own", "_law_digits"] "_law_spring" (defScope s_l_spring) f cdv A outer s H E).nox).K H a (ns.map V.int) := hs
    have po_ : PassesOwn (model (cxOf CX0 P w K mg base ["_law_script", "_law_spot", "_law_mixed", "_law_at", "_law_own", "_law_digits"] "_law_spring" (defScope s_l_spring) f cdv A outer s H E).nox.prog (cxOf CX0 P w K mg base ["_law_script", "_law_spot", "_law_mixed", "_law_at", "_law_own", "_law_digits"] "_law_spring" (defScope s_l_spring) f cdv A outer s H E).nox.w) (cxOf CX0 P w K mg base ["_law_script", "_law_spot", "_law_mixed", "_law_at", "_law_own", "_law_digits"] "_law_spring" (defScope s_l_spring) f cdv A outer s H E).nox.A (cxOf CX0 P w K mg base ["_law_script", "_law_spot", "_law_mixed", "_law_at", "_law_own", "_law_digits"] "_law_spring" (defScope s_l_spring) f cdv A outer s H E).nox.env (cxOf CX0 P w K mg base ["_law_script", "_law_spot", "_law_mixed", "_law_at", "_law_own", "_law_digits"] "_law_spring" (defScope s_l_spring) f cdv A outer s H E).nox.xe := PassesOwn.never
    have cm_ : (cxOf CX0 P w K mg base ["_law_script", "_law_spot", "_law_mixed", "_law_at", "_law_own", "_law_digits"] "_law_spring" (defScope s_l_spring) f cdv A outer s H E).nox.calm = true := rfl
    have hsc_ : (cxOf CX0 P w K mg base ["_law_script", "_law_spot", "_law_mixed", "_law_at", "_law_own", "_law_digits"] "_law_spring" (defScope s_l_spring) f cdv A outer s H E).nox.env.scope = defScope s_l_spring := rfl
    have hN_ : (cxOf CX0 P w K mg base ["_law_script", "_law_spot", "_law_mixed", "_law_at", "_law_own", "_law_digits"] "_law_spring" (defScope s_l_spring) f cdv A outer s H E).nox.N = (["_law_script", "_law_spot", "_law_mixed", "_law_at", "_law_own", "_law_digits"] : List Str) := rfl
    generalize (cxOf CX0 P w K mg base ["_law_script", "_law_spot", "_law_mixed", "_law_at", "_law_own", "_law_digits"] "_law_spring" (defScope s_l_spring) f cdv A outer s H E).nox = X at *
    change Gb _ _ _ [some _, some _, none, none, none, none] _
    first | refine b_one ?_ | refine b_cons ?_
    walk_at "go"
    refine s_forR po_ cm_ v_range_ (by rfl) w3 ?_
    walk_at "go"
    refine r_lenL' hs_ ?_
    walk_at "go"
    rw [List.length_map]
    refine ⟨by split <;> omega, by split <;> omega, fun i' σ H' => H' = H ∧ ∃ m o, 0 ≤ m ∧ m < 1000000007 ∧ σ = [some (.ref a), some (.int i), some (.int m), o, none, none], ⟨rfl, _, _, by decide, by decide, rfl⟩, ?_, ?_⟩
    · rintro i' σ H' hi' ⟨rfl, m, o, hm, hm2, rfl⟩
      have hin : i' < ns.length := by split at hi' <;> omega
      show Gb X _ _ [some (.ref a), some (.int i), some (.int m), some (.int i'), none, none] _
      walk_at "go"
      refine ix_L hs_ (atI_cell hin) ?_
      walk_at "go"
      refine ⟨rfl, _, _, ?_, ?_, rfl⟩ <;> omega
    · rintro σ H' ⟨rfl, m, o, hm, hm2, rfl⟩
      walk_at "gon"
      refine go_post (fun v H2 => H' = H2 ∧ ∃ z, v = .int z) ?_ ?_
      · walk_at "go"
        refine r_lenL' hs_ ?_
        walk_at "go"
        · rename_i z
          obtain ⟨j, rfl⟩ := Int.eq_ofNat_of_zero_le hi
          rw [List.length_map] at z
          exact ix_L hs_ (atI_cell (by omega)) ⟨rfl, _, rfl⟩
        · exact ⟨rfl, _, rfl⟩
      rintro _ _ ⟨rfl, z, rfl⟩
      walk_at "gon"
      refine go_post (fun v H2 => H' = H2 ∧ ∃ u, 0 ≤ u ∧ v = .int u) ?_ ?_
      · walk_at "go"
        · exact ⟨rfl, _, by split <;> omega, rfl⟩
        · exact ⟨rfl, _, by split <;> omega, rfl⟩
        · exact ⟨rfl, _, by omega, rfl⟩
      rintro _ _ ⟨rfl, u, hu, rfl⟩
      walk_at "gon"
      exact ⟨by simp, fun p H2 hp ex h => k p H2 hp ex ⟨_, _, _, h, hu, Int.emod_nonneg _ (by decide), Int.emod_lt_of_pos _ (by decide)⟩⟩
/-- one of a list -/
def spOne (K : PySem.W.Frag) : Sp := fun vs H Q _ => ∃ p l xs, vs = [.ref p, .ref l] ∧ Spr H p ∧ l ≠ p ∧ H l = some (.lst xs) ∧ 0 < xs.length ∧ xs.length < 1000 ∧ ∀ (i : Nat) x H', xs[i]? = some x → Spr H' p → ExB p H H' → Q x H'
abbrev s_l_one : Stmt := top 19
theorem sc_l_one : FnScope ["_law_spring_here", "_law_things"] ["_law_spring_here", "_law_things"] (defScope s_l_one) := ⟨rfl, rfl, rfl, by decide +kernel, rfl, by decide +kernel, by decide +kernel⟩
theorem ok_one {f fN : Addr} {fd fdN : FuncData} (F : Fun K "_law_one" "_law_one" s_l_one f fd) (T : Txt K mg)
    (FN : FnOk P w K mg base CX0 1 fN fdN ["_law_spring_here", "_law_many"] spNext) (bN : Binds K fdN ["_law_spring_here", "_law_many"] []) (mN : mg "_law_next" = some (.ref fN)) (kN : PySem.W.keepIn K (.ref fN) = true) :
    FnOk P w K mg base CX0 2 f fd ["_law_spring_here", "_law_things"] (spOne K) := by
  refine F.ok sc_l_one (fun vs H Q E h => ?_) (fun cdv A outer s H vs Q E hr h => ?_)
  · obtain ⟨p, l, xs, rfl, _⟩ := h
    rfl
  · obtain ⟨p, l, xs, rfl, hp, nl, hl, h0, h1, k⟩ := h
    refine ⟨_, pb, ?_⟩
    have l0 : Sl (cxOf CX0 P w K mg base ["_law_spring_here", "_law_things"] "_law_one" (defScope s_l_one) f cdv A outer s H E).nox 0 "_law_spring_here" := ⟨rfl, .inl rfl, by decide, by decide⟩
    have w0 : Sw (cxOf CX0 P w K mg base ["_law_spring_here", "_law_things"] "_law_one" (defScope s_l_one) f cdv A outer s H E).nox 0 "_law_spring_here" := ⟨rfl, .inl rfl, .inl rfl, sc_l_one.nd⟩
    have k0 : Sk (cxOf CX0 P w K mg base ["_law_spring_here", "_law_things"] "_law_one" (defScope s_l_one) f cdv A outer s H E).nox "_law_spring_here" := ⟨rfl⟩
    have l1 : Sl (cxOf CX0 P w K mg base ["_law_spring_here", "_law_things"] "_law_one" (defScope s_l_one) f cdv A outer s H E).nox 1 "_law_things" := ⟨rfl, .inl rfl, by decide, by decide⟩
    have w1 : Sw (cxOf CX0 P w K mg base ["_law_spring_here", "_law_things"] "_law_one" (defScope s_l_one) f cdv A outer s H E).nox 1 "_law_things" := ⟨rfl, .inl rfl, .inl rfl, sc_l_one.nd⟩
    have k1 : Sk (cxOf CX0 P w K mg base ["_law_spring_here", "_law_things"] "_law_one" (defScope s_l_one) f cdv A outer s H E).nox "_law_things" := ⟨rfl⟩
    -- global _law_next
    have b_len_ : Fn (cxOf CX0 P w K mg base ["_law_spring_here", "_law_things"] "_law_one" (defScope s_l_one) f cdv A outer s H E).nox "len" (rLen ((cxOf CX0 P w K mg base ["_law_spring_here", "_law_things"] "_law_one" (defScope s_l_one) f cdv A outer s H E).nox).K) := b_len ⟨rfl, T.«len», by decide +kernel, by decide, by decide⟩
    have c1_ : Fn (cxOf CX0 P w K mg base ["_law_spring_here", "_law_things"] "_law_one" (defScope s_l_one) f cdv A outer s H E).nox "_law_next" (fun vs H Q => spNext (vs ++ []) H Q E0) := fn_own (cr_fn FN hr bN .nil pass0) rfl mN kN (by decide)
    have hsc_ : (cxOf CX0 P w K mg base ["_law_spring_here", "_law_things"] "_law_one" (defScope s_l_one) f cdv A outer s H E).nox.env.scope = defScope s_l_one := rfl
    have hN_ : (cxOf CX0 P w K mg base ["_law_spring_here", "_law_things"] "_law_one" (defScope s_l_one) f cdv A outer s H E).nox.N = (["_law_spring_here", "_law_things"] : List Str) := rfl
    generalize (cxOf CX0 P w K mg base ["_law_spring_here", "_law_things"] "_law_one" (defScope s_l_one) f cdv A outer s H E).nox = X at *
    change Gb _ _ _ [some _, some _] _
    first | refine b_one ?_ | refine b_cons ?_
    walk_at "go"
    refine r_lenL hl ?_
    walk_at "go"
    refine ⟨_, _, rfl, hp, by omega, ?_, fun d H' d0 d1 sp ex => ?_⟩
    · have : (xs.length : Int).natAbs.log2 ≤ (1000 : Nat).log2 := log_le (by omega)
      exact Nat.lt_of_le_of_lt this (by decide +kernel)
    · have hi : d.toNat < xs.length := by omega
      have e : atI xs ((d.toNat : Nat) : Int) = some xs[d.toNat] := atI_nat (List.getElem?_eq_getElem hi)
      rw [show ((d.toNat : Nat) : Int) = d by omega] at e
      refine ix_l (ex _ _ nl hl) e ?_
      exact k _ _ _ (List.getElem?_eq_getElem hi) sp ex
/-- lowest terms as the law has them -/
def spLow : Sp := fun vs H Q _ => ∃ a b : Int, vs = [.int a, .int b] ∧ b ≠ 0 ∧ b.natAbs.log2 < 9000 ∧ ∀ p H', H p = none → Ex H H' → H' p = some (.tup [.int (low a b).1, .int (low a b).2]) → Q (.ref p) H'
theorem low_law {a b x : Int} (hb : b ≠ 0) (hl : b.natAbs.log2 < 9000) (hx : 0 ≤ x) (g : Int.gcd x 0 = Int.gcd a b) : 0 < x ∧ x.natAbs.log2 < 9000 ∧ ∀ s : Int, (s = 1 ∧ ¬ b < 0 ∨ s = -1 ∧ b < 0) → s * a / x = (low a b).1 ∧ s * b / x = (low a b).2 := by
  rw [Int.gcd_zero_right] at g
  obtain rfl : x = (Int.gcd a b : Int) := by rw [← g]; omega
  have g0 : 0 < Int.gcd a b := Nat.pos_of_ne_zero fun e => hb (Int.gcd_eq_zero_iff.mp e).2
  have gl : (Int.gcd a b : Int).natAbs.log2 < 9000 := by
    have := dv_le (a := a) hb
    rw [dv_abs] at this
    exact Nat.lt_of_le_of_lt (log_le (by omega)) hl
  have ne : (Int.gcd a b : Int) ≠ 0 := by omega
  have key : ∀ s z u : Int, (s = 1 ∧ ¬ b < 0 ∨ s = -1 ∧ b < 0) → u * dv a b = z → s * z / (Int.gcd a b : Int) = u := by
    rintro s z u (⟨rfl, d⟩ | ⟨rfl, d⟩) e
    · have d' : dv a b = (Int.gcd a b : Int) := by unfold dv; rw [if_neg d]
      rw [d'] at e
      rw [← e, Int.one_mul, Int.mul_ediv_cancel _ ne]
    · have d' : dv a b = 0 - (Int.gcd a b : Int) := by unfold dv; rw [if_pos d]
      rw [d'] at e
      rw [← e, show -1 * (u * (0 - (Int.gcd a b : Int))) = u * (Int.gcd a b : Int) by rw [Int.zero_sub, Int.mul_neg, Int.neg_mul_neg, Int.one_mul], Int.mul_ediv_cancel _ ne]
  exact ⟨by omega, gl, fun s hs => ⟨key s a _ hs (low_l a b), key s b _ hs (low_r a b)⟩⟩
abbrev s_l_low : Stmt := top 20
theorem sc_l_low : FnScope ["_law_head", "_law_base", "_law_one_here", "_law_two", "_law_sign"] ["_law_head", "_law_base"] (defScope s_l_low) := ⟨rfl, rfl, rfl, by decide +kernel, rfl, by decide +kernel, by decide +kernel⟩
theorem ok_low {f : Addr} {fd : FuncData} (F : Fun K "_law_low" "_law_low" s_l_low f fd) (T : Txt K mg) : FnOk P w K mg base CX0 1 f fd ["_law_head", "_law_base"] spLow := by
  refine F.ok sc_l_low (fun vs H Q E h => ?_) (fun cdv A outer s H vs Q E hr h => ?_)
  · obtain ⟨a, b, rfl, _⟩ := h
    rfl
  · obtain ⟨a, b, rfl, hb, hl, k⟩ := h
    refine ⟨_, pb, ?_⟩
    have l0 : Sl (cxOf CX0 P w K mg base ["_law_head", "_law_base", "_law_one_here", "_law_two", "_law_sign"] "_law_low" (defScope s_l_low) f cdv A outer s H E).nox 0 "_law_head" := ⟨rfl, .inl rfl, by decide, by decide⟩
    have w0 : Sw (cxOf CX0 P w K mg base ["_law_head", "_law_base", "_law_one_here", "_law_two", "_law_sign"] "_law_low" (defScope s_l_low) f cdv A outer s H E).nox 0 "_law_head" := ⟨rfl, .inl rfl, .inl rfl, sc_l_low.nd⟩
    have k0 : Sk (cxOf CX0 P w K mg base ["_law_head", "_law_base", "_law_one_here", "_law_two", "_law_sign"] "_law_low" (defScope s_l_low) f cdv A outer s H E).nox "_law_head" := ⟨rfl⟩
    have l1 : Sl (cxOf CX0 P w K mg base ["_law_head", "_law_base", "_law_one_here", "_law_two", "_law_sign"] "_law_low" (defScope s_l_low) f cdv A outer s H E).nox 1 "_law_base" := ⟨rfl, .inl rfl, by decide, by decide⟩
    have w1 : Sw (cxOf CX0 P w K mg base ["_law_head", "_law_base", "_law_one_here", "_law_two", "_law_sign"] "_law_low" (defScope s_l_low) f cdv A outer s H E).nox 1 "_law_base" := ⟨rfl, .inl rfl, .inl rfl, sc_l_low.nd⟩
    have k1 : Sk (cxOf CX0 P w K mg base ["_law_head", "_law_base", "_law_one_here", "_law_two", "_law_sign"] "_law_low" (defScope s_l_low) f cdv A outer s H E).nox "_law_base" := ⟨rfl⟩
    have l2 : Sl (cxOf CX0 P w K mg base ["_law_head", "_law_base", "_law_one_here", "_law_two", "_law_sign"] "_law_low" (defScope s_l_low) f cdv A outer s H E).nox 2 "_law_one_here" := ⟨rfl, .inl rfl, by decide, by decide⟩
    have w2 : Sw (cxOf CX0 P w K mg base ["_law_head", "_law_base", "_law_one_here", "_law_two", "_law_sign"] "_law_low" (defScope s_l_low) f cdv A outer s H E).nox 2 "_law_one_here" := ⟨rfl, .inl rfl, .inl rfl, sc_l_low.nd⟩
    have k2 : Sk (cxOf CX0 P w K mg base ["_law_head", "_law_base", "_law_one_here", "_law_two", "_law_sign"] "_law_low" (defScope s_l_low) f cdv A outer s H E).nox "_law_one_here" := ⟨rfl⟩
    have l3 : Sl (cxOf CX0 P w K mg base ["_law_head", "_law_base", "_law_one_here", "_law_two", "_law_sign"] "_law_low" (defScope s_l_low) f cdv A outer s H E).nox 3 "_law_two" := ⟨rfl, .inl rfl, by decide, by decide⟩
    have w3 : Sw (cxOf CX0 P w K mg base ["_law_head", "_law_base", "_law_one_here", "_law_two", "_law_sign"] "_law_low" (defScope s_l_low) f cdv A outer s H E).nox 3 "_law_two" := ⟨rfl, .inl rfl, .inl rfl, sc_l_low.nd⟩
    have k3 : Sk (cxOf CX0 P w K mg base ["_law_head", "_law_base", "_law_one_here", "_law_two", "_law_sign"] "_law_low" (defScope s_l_low) f cdv A outer s H E).nox "_law_two" := ⟨rfl⟩
    have l4 : Sl (cxOf CX0 P w K mg base ["_law_head", "_law_base", "_law_one_here", "_law_two", "_law_sign"] "_law_low" (defScope s_l_low) f cdv A outer s H E).nox 4 "_law_sign" := ⟨rfl, .inl rfl, by decide, by decide⟩
    have w4 : Sw (cxOf CX0 P w K mg base ["_law_head", "_law_base", "_law_one_here", "_law_two", "_law_sign"] "_law_low" (defScope s_l_low) f cdv A outer s H E).nox 4 "_law_sign" := ⟨rfl, .inl rfl, .inl rfl, sc_l_low.nd⟩
    have k4 : Sk (cxOf CX0 P w K mg base ["_law_head", "_law_base", "_law_one_here", "_law_two", "_law_sign"] "_law_low" (defScope s_l_low) f cdv A outer s H E).nox "_law_sign" := ⟨rfl⟩
    have b_abs_ : Fn (cxOf CX0 P w K mg base ["_law_head", "_law_base", "_law_one_here", "_law_two", "_law_sign"] "_law_low" (defScope s_l_low) f cdv A outer s H E).nox "abs" rAbs := b_abs ⟨rfl, T.«abs», by decide +kernel, by decide, by decide⟩
    have po_ : PassesOwn (model (cxOf CX0 P w K mg base ["_law_head", "_law_base", "_law_one_here", "_law_two", "_law_sign"] "_law_low" (defScope s_l_low) f cdv A outer s H E).nox.prog (cxOf CX0 P w K mg base ["_law_head", "_law_base", "_law_one_here", "_law_two", "_law_sign"] "_law_low" (defScope s_l_low) f cdv A outer s H E).nox.w) (cxOf CX0 P w K mg base ["_law_head", "_law_base", "_law_one_here", "_law_two", "_law_sign"] "_law_low" (defScope s_l_low) f cdv A outer s H E).nox.A (cxOf CX0 P w K mg base ["_law_head", "_law_base", "_law_one_here", "_law_two", "_law_sign"] "_law_low" (defScope s_l_low) f cdv A outer s H E).nox.env (cxOf CX0 P w K mg base ["_law_head", "_law_base", "_law_one_here", "_law_two", "_law_sign"] "_law_low" (defScope s_l_low) f cdv A outer s H E).nox.xe := PassesOwn.never
    have cm_ : (cxOf CX0 P w K mg base ["_law_head", "_law_base", "_law_one_here", "_law_two", "_law_sign"] "_law_low" (defScope s_l_low) f cdv A outer s H E).nox.calm = true := rfl
    have hsc_ : (cxOf CX0 P w K mg base ["_law_head", "_law_base", "_law_one_here", "_law_two", "_law_sign"] "_law_low" (defScope s_l_low) f cdv A outer s H E).nox.env.scope = defScope s_l_low := rfl
    have hN_ : (cxOf CX0 P w K mg base ["_law_head", "_law_base", "_law_one_here", "_law_two", "_law_sign"] "_law_low" (defScope s_l_low) f cdv A outer s H E).nox.N = (["_law_head", "_law_base", "_law_one_here", "_law_two", "_law_sign"] : List Str) := rfl
    generalize (cxOf CX0 P w K mg base ["_law_head", "_law_base", "_law_one_here", "_law_two", "_law_sign"] "_law_low" (defScope s_l_low) f cdv A outer s H E).nox = X at *
    change Gb _ _ _ [some _, some _, none, none, none] _
    first | refine b_one ?_ | refine b_cons ?_
    walk_at "go"
    refine s_wh po_ (fun m σ H' => ∃ (x y : Int) (o : Option V), σ = [some (.int a), some (.int b), some (.int x), some (.int y), o] ∧ 0 ≤ x ∧ 0 ≤ y ∧ m = y.toNat ∧ H' = H ∧ Int.gcd x y = Int.gcd a b) _
      ⟨_, _, _, rfl, by split <;> omega, by split <;> omega, rfl, rfl, gcd_abs a b⟩ ?_
    rintro m σ H' ⟨x, y, o, rfl, hx, hy, rfl, rfl, g⟩
    walk_at "go"
    · rename_i zy z
      obtain ⟨x0, xl, key⟩ := low_law hb hl hx (by rw [← g, zy])
      walk_at "go"
      rw [(key (-1) (.inr ⟨rfl, z⟩)).1, (key (-1) (.inr ⟨rfl, z⟩)).2]
      exact ⟨by simp, fun p H2 hp ex h => k p H2 hp ex h⟩
    · rename_i zy z
      obtain ⟨x0, xl, key⟩ := low_law hb hl hx (by rw [← g, zy])
      walk_at "go"
      rw [(key 1 (.inl ⟨rfl, z⟩)).1, (key 1 (.inl ⟨rfl, z⟩)).2]
      exact ⟨by simp, fun p H2 hp ex h => k p H2 hp ex h⟩
    · rename_i z
      refine ⟨_, fun _ _ h => h, ?_⟩
      walk_at "go"
      have p : 0 < y := by omega
      exact ⟨_, by have := Int.emod_lt_of_pos x p; have := Int.emod_nonneg x z; omega, _, _, _, rfl, hy, Int.emod_nonneg _ z, rfl, rfl, by rw [gcdm hx hy]; exact g⟩
end
section
variable {P : Program} {w : World} {K : PySem.W.Frag} {mg : Str → Option Value} {base : Heap} {C : Addr}
/-- a fraction's text -/
def spWritten : Sp := fun vs H Q _ => ∃ q x y, vs = [.ref q] ∧ H q = some (.tup [.int x, .int y]) ∧ x.natAbs.log2 < 1900 ∧ y.natAbs.log2 < 1900 ∧ Q (.str (nTxt x y)) H
abbrev s_l_written : Stmt := top 21
theorem sc_l_written : FnScope ["_law_pair"] ["_law_pair"] (defScope s_l_written) := ⟨rfl, rfl, rfl, by decide +kernel, rfl, by decide +kernel, by decide +kernel⟩
theorem ok_written {f : Addr} {fd : FuncData} (F : Fun K "_law_written" "_law_written" s_l_written f fd) (T : Txt K mg) : FnOk P w K mg base CX0 1 f fd ["_law_pair"] spWritten := by
  refine F.ok sc_l_written (fun vs H Q E h => ?_) (fun cdv A outer s H vs Q E hr h => ?_)
  · obtain ⟨q, x, y, rfl, _⟩ := h
    rfl
  · obtain ⟨q, x, y, rfl, hq, hx, hy, k⟩ := h
    refine ⟨_, pb, ?_⟩
    have l0 : Sl (cxOf CX0 P w K mg base ["_law_pair"] "_law_written" (defScope s_l_written) f cdv A outer s H E).nox 0 "_law_pair" := ⟨rfl, .inl rfl, by decide, by decide⟩
    have w0 : Sw (cxOf CX0 P w K mg base ["_law_pair"] "_law_written" (defScope s_l_written) f cdv A outer s H E).nox 0 "_law_pair" := ⟨rfl, .inl rfl, .inl rfl, sc_l_written.nd⟩
    have k0 : Sk (cxOf CX0 P w K mg base ["_law_pair"] "_law_written" (defScope s_l_written) f cdv A outer s H E).nox "_law_pair" := ⟨rfl⟩
    have v_str_ : Bn (cxOf CX0 P w K mg base ["_law_pair"] "_law_written" (defScope s_l_written) f cdv A outer s H E).nox "str" (.type "str") := ⟨rfl, T.«str», by decide +kernel, by decide, by decide⟩
    have hsc_ : (cxOf CX0 P w K mg base ["_law_pair"] "_law_written" (defScope s_l_written) f cdv A outer s H E).nox.env.scope = defScope s_l_written := rfl
    have hN_ : (cxOf CX0 P w K mg base ["_law_pair"] "_law_written" (defScope s_l_written) f cdv A outer s H E).nox.N = (["_law_pair"] : List Str) := rfl
    generalize (cxOf CX0 P w K mg base ["_law_pair"] "_law_written" (defScope s_l_written) f cdv A outer s H E).nox = X at *
    change Gb _ _ _ [some _] _
    first | refine b_one ?_ | refine b_cons ?_
    have b_str_ := b_strI v_str_
    have hx' := len_i (by decide) hx
    have hy' := len_i (by decide) hy
    have h1 : (Str.ofString "/").length = 1 := rfl
    have hl := line_ge
    walk_at "go"
    · rename_i z
      subst z
      exact ⟨by omega, by rw [nTxt, if_pos rfl] at k; exact k⟩
    · rename_i z
      refine ⟨by omega, ?_⟩
      walk_at "go"
      refine o_adds (by omega) ?_
      walk_at "go"
      refine ⟨by omega, ?_⟩
      refine o_adds (by rw [len_app]; omega) ?_
      rw [nTxt, if_neg z] at k
      exact k
/-- the two ints -/
def spParts : Sp := fun vs H Q _ => ∃ p, vs = [.ref p] ∧ Spr H p ∧ ∀ q a b H', H q = none → ExB p H H' → Spr H' p → H' q = some (.lst [.int a, .int b]) → b ≠ 0 → a.natAbs < 2 ^ 126 → b.natAbs < 2 ^ 126 → Q (.ref q) H'
abbrev s_l_parts : Stmt := top 22
theorem sc_l_parts : FnScope ["_law_spring_here", "_law_way", "_law_head"] ["_law_spring_here"] (defScope s_l_parts) := ⟨rfl, rfl, rfl, by decide +kernel, rfl, by decide +kernel, by decide +kernel⟩
theorem ok_parts {f fN fO : Addr} {fd fdN fdO : FuncData} (F : Fun K "_law_parts" "_law_parts" s_l_parts f fd)
    (FN : FnOk P w K mg base CX0 1 fN fdN ["_law_spring_here", "_law_many"] spNext) (bN : Binds K fdN ["_law_spring_here", "_law_many"] []) (mN : mg "_law_next" = some (.ref fN)) (kN : PySem.W.keepIn K (.ref fN) = true)
    (FO : FnOk P w K mg base CX0 2 fO fdO ["_law_spring_here", "_law_things"] (spOne K)) (bO : Binds K fdO ["_law_spring_here", "_law_things"] []) (mO : mg "_law_one" = some (.ref fO)) (kO : PySem.W.keepIn K (.ref fO) = true) :
    FnOk P w K mg base CX0 3 f fd ["_law_spring_here"] spParts := by
  refine F.ok sc_l_parts (fun vs H Q E h => ?_) (fun cdv A outer s H vs Q E hr h => ?_)
  · obtain ⟨p, rfl, _⟩ := h
    rfl
  · obtain ⟨p, rfl, hp, k⟩ := h
    refine ⟨_, pb, ?_⟩
    have l0 : Sl (cxOf CX0 P w K mg base ["_law_spring_here", "_law_way", "_law_head"] "_law_parts" (defScope s_l_parts) f cdv A outer s H E).nox 0 "_law_spring_here" := ⟨rfl, .inl rfl, by decide, by decide⟩
    have w0 : Sw (cxOf CX0 P w K mg base ["_law_spring_here", "_law_way", "_law_head"] "_law_parts" (defScope s_l_parts) f cdv A outer s H E).nox 0 "_law_spring_here" := ⟨rfl, .inl rfl, .inl rfl, sc_l_parts.nd⟩
    have k0 : Sk (cxOf CX0 P w K mg base ["_law_spring_here", "_law_way", "_law_head"] "_law_parts" (defScope s_l_parts) f cdv A outer s H E).nox "_law_spring_here" := ⟨rfl⟩
    have l1 : Sl (cxOf CX0 P w K mg base ["_law_spring_here", "_law_way", "_law_head"] "_law_parts" (defScope s_l_parts) f cdv A outer s H E).nox 1 "_law_way" := ⟨rfl, .inl rfl, by decide, by decide⟩
    have w1 : Sw (cxOf CX0 P w K mg base ["_law_spring_here", "_law_way", "_law_head"] "_law_parts" (defScope s_l_parts) f cdv A outer s H E).nox 1 "_law_way" := ⟨rfl, .inl rfl, .inl rfl, sc_l_parts.nd⟩
    have k1 : Sk (cxOf CX0 P w K mg base ["_law_spring_here", "_law_way", "_law_head"] "_law_parts" (defScope s_l_parts) f cdv A outer s H E).nox "_law_way" := ⟨rfl⟩
    have l2 : Sl (cxOf CX0 P w K mg base ["_law_spring_here", "_law_way", "_law_head"] "_law_parts" (defScope s_l_parts) f cdv A outer s H E).nox 2 "_law_head" := ⟨rfl, .inl rfl, by decide, by decide⟩
    have w2 : Sw (cxOf CX0 P w K mg base ["_law_spring_here", "_law_way", "_law_head"] "_law_parts" (defScope s_l_parts) f cdv A outer s H E).nox 2 "_law_head" := ⟨rfl, .inl rfl, .inl rfl, sc_l_parts.nd⟩
    have k2 : Sk (cxOf CX0 P w K mg base ["_law_spring_here", "_law_way", "_law_head"] "_law_parts" (defScope s_l_parts) f cdv A outer s H E).nox "_law_head" := ⟨rfl⟩
    -- global _law_next
    -- global _law_one
    have c1_ : Fn (cxOf CX0 P w K mg base ["_law_spring_here", "_law_way", "_law_head"] "_law_parts" (defScope s_l_parts) f cdv A outer s H E).nox "_law_next" (fun vs H Q => spNext (vs ++ []) H Q E0) := fn_own (cr_fn FN (hr.mono (by decide)) bN .nil pass0) rfl mN kN (by decide)
    have c2_ : Fn (cxOf CX0 P w K mg base ["_law_spring_here", "_law_way", "_law_head"] "_law_parts" (defScope s_l_parts) f cdv A outer s H E).nox "_law_one" (fun vs H Q => spOne K (vs ++ []) H Q E0) := fn_own (cr_fn FO hr bO .nil pass0) rfl mO kO (by decide)
    have hsc_ : (cxOf CX0 P w K mg base ["_law_spring_here", "_law_way", "_law_head"] "_law_parts" (defScope s_l_parts) f cdv A outer s H E).nox.env.scope = defScope s_l_parts := rfl
    have hN_ : (cxOf CX0 P w K mg base ["_law_spring_here", "_law_way", "_law_head"] "_law_parts" (defScope s_l_parts) f cdv A outer s H E).nox.N = (["_law_spring_here", "_law_way", "_law_head"] : List Str) := rfl
    generalize (cxOf CX0 P w K mg base ["_law_spring_here", "_law_way", "_law_head"] "_law_parts" (defScope s_l_parts) f cdv A outer s H E).nox = X at *
    change Gb _ _ _ [some _, none, none] _
    first | refine b_one ?_ | refine b_cons ?_
    walk_at "go"
    refine ⟨_, _, rfl, hp, by decide, by decide +kernel, fun d H1 d0 d1 sp1 e1 => ?_⟩
    walk_at "go"
    · refine ⟨_, _, rfl, sp1, by decide, by decide +kernel, fun t H2 t0 t1 sp2 e2 => ?_⟩
      walk_at "go"
      refine ⟨_, _, rfl, sp2, by decide, by decide +kernel, fun u H3 u0 u1 sp3 e3 => ?_⟩
      walk_at "go"
      have p37 : (10 : Int) ^ Int.toNat 37 = 10000000000000000000000000000000000000 := by decide +kernel
      have p20 : (10 : Int) ^ Int.toNat 20 = 100000000000000000000 := by decide +kernel
      exact ⟨by simp, fun q H4 hq ex h => k q _ _ H4 ((e1.tr (e2.tr e3)).fr sp3 hq) ((e1.tr (e2.tr e3)).tr ex.b) (sp3.go ex) h (by omega) (by omega) (by omega)⟩
    · refine ⟨_, _, rfl, sp1, by decide, by decide +kernel, fun t H2 t0 t1 sp2 e2 => ?_⟩
      walk_at "go"
      refine ⟨_, _, rfl, sp2, by decide, by decide +kernel, fun u H3 u0 u1 sp3 e3 => ?_⟩
      walk_at "go"
      refine ⟨by simp, fun l H4 hl e4 h4 => ?_⟩
      walk_at "go"
      refine ⟨_, _, _, rfl, sp3.go e4, sp3.ne hl, h4, by simp, by simp, fun i x H5 hx sp5 e5 => ?_⟩
      walk_at "go"
      obtain ⟨b, rfl, b0, b1⟩ : ∃ b : Int, x = .int b ∧ b ≠ 0 ∧ b.natAbs ≤ 100 := by
        have m := List.mem_of_getElem? hx
        simp only [List.mem_cons, List.not_mem_nil, or_false] at m
        rcases m with rfl | rfl | rfl | rfl | rfl | rfl | rfl | rfl | rfl | rfl | rfl <;> exact ⟨_, rfl, by omega, by omega⟩
      have e6 := e1.tr (e2.tr (e3.tr (e4.b.tr e5)))
      exact ⟨by simp, fun q H6 hq ex h => k q _ _ H6 (e6.fr sp5 hq) (e6.tr ex.b) (sp5.go ex) h b0 (by omega) (by omega)⟩
/-- what the law shows of a Number -/
def sD (x y : Int) : PyData := .list [.int x, .int y, .int (sgn x), .str (nTxt x y), .str ("Number(" ++ nTxt x y ++ ")"), .bool true]
def sTxt (x y : Int) : Str := (sD x y).shown
theorem sgn_small (x : Int) : (sgn x).natAbs.log2 < 1900 := by
  unfold sgn
  split
  · decide
  · split <;> decide
theorem sD_ok {x y : Int} (hx : x.natAbs.log2 < 1900) (hy : y.natAbs.log2 < 1900) : (sD x y).showable = true ∧ (sD x y).hasDict = false ∧ (sD x y).depth < 60 ∧ (sD x y).shown.length ≤ sizeLine := by
  have hs := sgn_small x
  have hn := nTxt_len hx hy
  have h7 : (Str.ofString "Number(").length = 7 := rfl
  have h1 : (Str.ofString ")").length = 1 := rfl
  refine ⟨?_, rfl, by simp only [sD, PyData.depth, PyData.depthAll]; decide, ?_⟩
  · simp only [sD, PyData.showable, PyData.showableAll, Bool.and_true, Bool.true_and, Bool.and_eq_true, decide_eq_true_eq]
    omega
  · show (PySem.listText _).length ≤ _
    refine listText_le (m := 60000) (fun t ht => ?_) (by show 6 ≤ 50; decide) (by decide)
    have ht' : t ∈ [PyData.shown (.int x), PyData.shown (.int y), PyData.shown (.int (sgn x)), PyData.shown (.str (nTxt x y)), PyData.shown (.str ("Number(" ++ nTxt x y ++ ")")), PyData.shown (.bool true)] := ht
    simp only [List.mem_cons, List.not_mem_nil, or_false] at ht'
    rcases ht' with rfl | rfl | rfl | rfl | rfl | rfl
    · have := len_i (by decide) hx
      show (Str.ofString (toString x)).length ≤ _
      omega
    · have := len_i (by decide) hy
      show (Str.ofString (toString y)).length ≤ _
      omega
    · have := len_i (by decide) hs
      show (Str.ofString (toString (sgn x))).length ≤ _
      omega
    · have := repr_len (asc_nTxt x y)
      show (PySem.reprText (nTxt x y)).length ≤ _
      omega
    · have := repr_len (s := "Number(" ++ nTxt x y ++ ")") ((Asc.app (by unfold Asc; decide +kernel) (asc_nTxt x y)).app (by unfold Asc; decide +kernel))
      rw [len_app, len_app] at this
      show (PySem.reprText ("Number(" ++ nTxt x y ++ ")")).length ≤ _
      omega
    · decide
theorem sD_dp {H : Hp} {p : Addr} {x y : Int} (h : H p = some (.lst [.int x, .int y, .int (sgn x), .str (nTxt x y), .str ("Number(" ++ nTxt x y ++ ")"), .bl true])) : Dp K H (.ref p) (sD x y) :=
  .lst (SqL.of h) (.cons (.int _) (.cons (.int _) (.cons (.int _) (.cons (.str _) (.cons (.str _) (.cons (.bl _) .nil))))))
/-- the law's own view -/
def spDue : Sp := fun vs H Q _ => ∃ q x y, vs = [.ref q] ∧ H q = some (.tup [.int x, .int y]) ∧ x.natAbs.log2 < 1900 ∧ y.natAbs.log2 < 1900 ∧ ∀ H', Ex H H' → Q (.str (sTxt x y)) H'
abbrev s_l_due : Stmt := top 24
theorem sc_l_due : FnScope ["_law_pair", "_law_sign"] ["_law_pair"] (defScope s_l_due) := ⟨rfl, rfl, rfl, by decide +kernel, rfl, by decide +kernel, by decide +kernel⟩
theorem ok_due {f fW : Addr} {fd fdW : FuncData} (F : Fun K "_law_due" "_law_due" s_l_due f fd) (T : Txt K mg)
    (FW : FnOk P w K mg base CX0 1 fW fdW ["_law_pair"] spWritten) (bW : Binds K fdW ["_law_pair"] []) (mW : mg "_law_written" = some (.ref fW)) (kW : PySem.W.keepIn K (.ref fW) = true) : FnG P w K mg base CX0 6 f fd ["_law_pair"] spDue := by
  refine G.Fun.okG F sc_l_due (fun vs H Q E h => ?_) (fun cdv A outer s H vs Q E hg hr h => ?_)
  · obtain ⟨q, x, y, rfl, _⟩ := h
    rfl
  · obtain ⟨q, x, y, rfl, hq, hx, hy, k⟩ := h
    refine ⟨_, pb, ?_⟩
    have l0 : Sl (cxOf CX0 P w K mg base ["_law_pair", "_law_sign"] "_law_due" (defScope s_l_due) f cdv A outer s H E).nox 0 "_law_pair" := ⟨rfl, .inl rfl, by decide, by decide⟩
    have w0 : Sw (cxOf CX0 P w K mg base ["_law_pair", "_law_sign"] "_law_due" (defScope s_l_due) f cdv A outer s H E).nox 0 "_law_pair" := ⟨rfl, .inl rfl, .inl rfl, sc_l_due.nd⟩
    have k0 : Sk (cxOf CX0 P w K mg base ["_law_pair", "_law_sign"] "_law_due" (defScope s_l_due) f cdv A outer s H E).nox "_law_pair" := ⟨rfl⟩
    have l1 : Sl (cxOf CX0 P w K mg base ["_law_pair", "_law_sign"] "_law_due" (defScope s_l_due) f cdv A outer s H E).nox 1 "_law_sign" := ⟨rfl, .inl rfl, by decide, by decide⟩
    have w1 : Sw (cxOf CX0 P w K mg base ["_law_pair", "_law_sign"] "_law_due" (defScope s_l_due) f cdv A outer s H E).nox 1 "_law_sign" := ⟨rfl, .inl rfl, .inl rfl, sc_l_due.nd⟩
    have k1 : Sk (cxOf CX0 P w K mg base ["_law_pair", "_law_sign"] "_law_due" (defScope s_l_due) f cdv A outer s H E).nox "_law_sign" := ⟨rfl⟩
    have v_repr_ : Bn (cxOf CX0 P w K mg base ["_law_pair", "_law_sign"] "_law_due" (defScope s_l_due) f cdv A outer s H E).nox "repr" (.builtin "repr") := ⟨rfl, T.«repr», by decide +kernel, by decide, by decide⟩
    -- global _law_written
    have c1_ : Fn (cxOf CX0 P w K mg base ["_law_pair", "_law_sign"] "_law_due" (defScope s_l_due) f cdv A outer s H E).nox "_law_written" (fun vs H Q => spWritten (vs ++ []) H Q E0) := fn_own (cr_fn FW (hr.mono (by decide)) bW .nil pass0) rfl mW kW (by decide)
    have b_repr_ := b_reprD (X := (cxOf CX0 P w K mg base ["_law_pair", "_law_sign"] "_law_due" (defScope s_l_due) f cdv A outer s H E).nox) hg (room_u hr) v_repr_
    have hsc_ : (cxOf CX0 P w K mg base ["_law_pair", "_law_sign"] "_law_due" (defScope s_l_due) f cdv A outer s H E).nox.env.scope = defScope s_l_due := rfl
    have hN_ : (cxOf CX0 P w K mg base ["_law_pair", "_law_sign"] "_law_due" (defScope s_l_due) f cdv A outer s H E).nox.N = (["_law_pair", "_law_sign"] : List Str) := rfl
    generalize (cxOf CX0 P w K mg base ["_law_pair", "_law_sign"] "_law_due" (defScope s_l_due) f cdv A outer s H E).nox = X at *
    change Gb _ _ _ [some _, none] _
    first | refine b_one ?_ | refine b_cons ?_
    walk_at "gon"
    refine go_post (fun v H' => H = H' ∧ v = .int (sgn x)) ?_ ?_
    · walk_at "go"
      · rename_i z
        exact ⟨rfl, by rw [sgn, if_pos z]⟩
      · rename_i z1 z2
        exact ⟨rfl, by rw [sgn, if_neg z1, if_neg (by omega)]⟩
      · rename_i z1 z2
        exact ⟨rfl, by rw [sgn, if_neg z1, if_pos (by omega)]⟩
    rintro _ _ ⟨rfl, rfl⟩
    walk_at "go"
    refine ⟨_, x, y, rfl, hq, hx, hy, ?_⟩
    walk_at "go"
    refine ⟨_, x, y, rfl, hq, hx, hy, ?_⟩
    have hn := nTxt_len hx hy
    have hl := line_ge
    have h7 : (Str.ofString "Number(").length = 7 := rfl
    have h1 : (Str.ofString ")").length = 1 := rfl
    walk_at "go"
    refine o_adds (by omega) ?_
    walk_at "go"
    refine o_adds (by rw [len_app]; omega) ?_
    walk_at "go"
    refine ⟨by simp, fun p H1 hp ex h => ?_⟩
    walk_at "go"
    obtain ⟨s1, s2, s3, s4⟩ := sD_ok hx hy
    exact ⟨p, sD x y, rfl, sD_dp h, s1, s2, s3, s4, k _ ex⟩
/-- what the law sees of a Number -/
def spSeen (C : Addr) : Sp := fun vs H Q _ => ∃ q x y, vs = [.ref q] ∧ NumAt C H q x y ∧ x.natAbs.log2 < 1900 ∧ y.natAbs.log2 < 1900 ∧ ∀ H', Ex H H' → Q (.str (sTxt x y)) H'
abbrev s_l_seen : Stmt := top 23
theorem sc_l_seen : FnScope ["_law_number"] ["_law_number"] (defScope s_l_seen) := ⟨rfl, rfl, rfl, by decide +kernel, rfl, by decide +kernel, by decide +kernel⟩
theorem ok_seen {f fS fR : Addr} {fd fdS fdR : FuncData} (F : Fun K "_law_seen" "_law_seen" s_l_seen f fd) (T : Txt K mg) (N : NmT K mg C)
    (FS : FnOk P w K mg base CX0 1 fS fdS ["self"] (spStr C)) (bS : Binds K fdS ["self"] []) (aS : PySem.W.findIn K (.ref C) "__str__" = some (some (.ref fS))) (iS : PySem.W.isFn K (.ref fS) = true)
    (FR : FnOk P w K mg base CX0 6 fR fdR ["self"] (spRepr C)) (bR : Binds K fdR ["self"] []) (aR : PySem.W.findIn K (.ref C) "__repr__" = some (some (.ref fR))) (iR : PySem.W.isFn K (.ref fR) = true)
    {pS gS : Addr} {fdG : FuncData} (pr : PropOf K C "sign" pS gS) (FG : FnOk P w K mg base CX0 1 gS fdG ["self"] (spSign C)) (bG : Binds K fdG ["self"] []) : FnG P w K mg base CX0 11 f fd ["_law_number"] (spSeen C) := by
  refine G.Fun.okG F sc_l_seen (fun vs H Q E h => ?_) (fun cdv A outer s H vs Q E hg hr h => ?_)
  · obtain ⟨q, x, y, rfl, _⟩ := h
    rfl
  · obtain ⟨q, x, y, rfl, ⟨dx, hq⟩, hx, hy, k⟩ := h
    refine ⟨_, pb, ?_⟩
    have l0 : Sl (cxOf CX0 P w K mg base ["_law_number"] "_law_seen" (defScope s_l_seen) f cdv A outer s H E).nox 0 "_law_number" := ⟨rfl, .inl rfl, by decide, by decide⟩
    have w0 : Sw (cxOf CX0 P w K mg base ["_law_number"] "_law_seen" (defScope s_l_seen) f cdv A outer s H E).nox 0 "_law_number" := ⟨rfl, .inl rfl, .inl rfl, sc_l_seen.nd⟩
    have k0 : Sk (cxOf CX0 P w K mg base ["_law_number"] "_law_seen" (defScope s_l_seen) f cdv A outer s H E).nox "_law_number" := ⟨rfl⟩
    have v_repr_ : Bn (cxOf CX0 P w K mg base ["_law_number"] "_law_seen" (defScope s_l_seen) f cdv A outer s H E).nox "repr" (.builtin "repr") := ⟨rfl, T.«repr», by decide +kernel, by decide, by decide⟩
    have v_str_ : Bn (cxOf CX0 P w K mg base ["_law_number"] "_law_seen" (defScope s_l_seen) f cdv A outer s H E).nox "str" (.type "str") := ⟨rfl, T.«str», by decide +kernel, by decide, by decide⟩
    have b_isinstance_ : Fn (cxOf CX0 P w K mg base ["_law_number"] "_law_seen" (defScope s_l_seen) f cdv A outer s H E).nox "isinstance" (rIsi K) := b_isi ⟨rfl, T.«isinstance», by decide +kernel, by decide, by decide⟩
    -- global Number
    have D_ : Dm (cxOf CX0 P w K mg base ["_law_number"] "_law_seen" (defScope s_l_seen) f cdv A outer s H E).nox C "__str__" (fun vs H Q => spStr C (vs ++ []) H Q E0) := dm_mk aS iS FS bS .nil (hr.mono (by decide)) pass0
    have E_ : Dm (cxOf CX0 P w K mg base ["_law_number"] "_law_seen" (defScope s_l_seen) f cdv A outer s H E).nox C "__repr__" (fun vs H Q => spRepr C (vs ++ []) H Q E0) := dm_mk aR iR FR bR .nil (hr.mono (by decide)) pass0
    have b_repr_ := b_reprN (X := (cxOf CX0 P w K mg base ["_law_number"] "_law_seen" (defScope s_l_seen) f cdv A outer s H E).nox) E_ hg (room_u hr) v_repr_
    have b_str_ := b_strN (X := (cxOf CX0 P w K mg base ["_law_number"] "_law_seen" (defScope s_l_seen) f cdv A outer s H E).nox) D_ v_str_
    have cl_ : Cls ((cxOf CX0 P w K mg base ["_law_number"] "_law_seen" (defScope s_l_seen) f cdv A outer s H E).nox).K C := N.cl
    have nT_ : NoAttr ((cxOf CX0 P w K mg base ["_law_number"] "_law_seen" (defScope s_l_seen) f cdv A outer s H E).nox).K C "top" := N.nT
    have nB_ : NoAttr ((cxOf CX0 P w K mg base ["_law_number"] "_law_seen" (defScope s_l_seen) f cdv A outer s H E).nox).K C "bottom" := N.nB
    have p_ : Pr (cxOf CX0 P w K mg base ["_law_number"] "_law_seen" (defScope s_l_seen) f cdv A outer s H E).nox C "sign" (fun vs H Q => spSign C vs H Q E0) := ⟨_, _, _, _, _, _, _, _, _, _, pr, FG, hr.mono (by decide), bG, .nil, pass0, fun _ _ _ h => h⟩
    have g1_ : Gn (cxOf CX0 P w K mg base ["_law_number"] "_law_seen" (defScope s_l_seen) f cdv A outer s H E).nox "Number" (.ref C) := ⟨rfl, ⟨_, N.mgC, rfl⟩, by decide⟩
    have hsc_ : (cxOf CX0 P w K mg base ["_law_number"] "_law_seen" (defScope s_l_seen) f cdv A outer s H E).nox.env.scope = defScope s_l_seen := rfl
    have hN_ : (cxOf CX0 P w K mg base ["_law_number"] "_law_seen" (defScope s_l_seen) f cdv A outer s H E).nox.N = (["_law_number"] : List Str) := rfl
    generalize (cxOf CX0 P w K mg base ["_law_number"] "_law_seen" (defScope s_l_seen) f cdv A outer s H E).nox = X at *
    change Gb _ _ _ [some _] _
    first | refine b_one ?_ | refine b_cons ?_
    walk_at "go"
    refine at_prop p_ cl_ hq ⟨q, x, y, rfl, ⟨dx, hq⟩, ?_⟩
    walk_at "go"
    refine .inr ⟨_, rfl, q, dx, _, rfl, hq, q, x, y, rfl, ⟨dx, hq⟩, hx, hy, _, rfl, ?_⟩
    walk_at "go"
    refine .inr ⟨_, rfl, q, dx, _, rfl, hq, q, x, y, rfl, ⟨dx, hq⟩, hx, hy, _, rfl, ?_⟩
    walk_at "go"
    refine r_isi (.own C) (N.ty ⟨dx, hq⟩) kit_same ?_
    walk_at "go"
    refine ⟨by simp, fun p H1 hp ex h => ?_⟩
    walk_at "go"
    obtain ⟨s1, s2, s3, s4⟩ := sD_ok hx hy
    exact .inl ⟨p, sD x y, rfl, sD_dp h, s1, s2, s3, s4, k _ ex⟩
end
/-- what the law's main def calls: their promises -/
structure Known (X : Cx) (C : Addr) : Prop where
  prt : Fn X "_law_parts" (fun vs H Q => spParts (vs ++ []) H Q E0)
  low : Fn X "_law_low" (fun vs H Q => spLow (vs ++ []) H Q E0)
  one : Fn X "_law_one" (fun vs H Q => spOne X.K (vs ++ []) H Q E0)
  due : Fn X "_law_due" (fun vs H Q => spDue (vs ++ []) H Q E0)
  new : Fn X "Number" (spNew C)
section
variable {P : Program} {w : World} {K : PySem.W.Frag} {mg : Str → Option Value} {base : Heap} {C : Addr}
theorem ExB.num {p q : Addr} {H H' : Hp} {x y : Int} (e : ExB p H H') (s : Spr H p) (n : NumAt C H q x y) : NumAt C H' q x y := n.goB s e
theorem mkk_new {X : Cx} {k : Nat} {f : Addr} {fd : FuncData} {gg : List Value → List Value → List Value} {gV : List V → List V → List V} (M : Mk X.K C f) (F : FnOk X.prog X.w X.K X.mg X.base CX0 k f fd ["self", "top", "bottom"] (spInit C)) (hr : Room (k + 1) X.A)
    (hg : Gl X "Number") (hm : X.mg "Number" = some (.ref C)) (hb : KBn X.K fd ["self", "top", "bottom"] 1 ["bottom", "top"] gg gV) (hgV : ∀ a b c, gV [a] [b, c] = [a, c, b]) :
    MkK X "Number" ["bottom", "top"] (fun zs H Q => ∃ a b : Int, zs = [.int b, .int a] ∧ b ≠ 0 ∧ b.natAbs.log2 < 9000 ∧ ∀ p H', H p = none → Ex H H' → NumAt C H' p (low a b).1 (low a b).2 → Q (.ref p) H') := by
  intro kws pos p σ H Q h1 h2 h3 h
  refine e_mkK (E := E0) M F hr hg hm hb pass0 h1 h2 (by decide) h3 fun pos pins s I => thn (h pos pins s I) fun ws s' ⟨zs, H', I', r, hl, a, b, e, b0, lg, q⟩ => ⟨zs, H', I', r, hl, fun x dx hx hdx ne => ?_⟩
  subst e
  rw [hgV]
  refine ⟨x, dx, a, b, rfl, upd_same, b0, lg, fun H2 e2 h2 => ⟨rfl, q x H2 hx (fun c o z => ?_) ⟨dx, h2⟩⟩⟩
  refine e2 c o (ne_of_none z hx) ?_
  rw [upd_ne (ne_of_none z hx), upd_ne (ne_of_none z hdx)]
  exact z
/-- values of the type t are no Numbers -/
structure Other (K : PySem.W.Frag) (C : Addr) (t : Value) : Prop where
  kf : PySem.W.kitOne K t (.ref C) = some false
  nf : PySem.W.notFirst K C t = true
theorem nf_self : PySem.W.notFirst K C (.ref C) = true := by
  unfold PySem.W.notFirst
  rw [show (Value.ref C == Value.ref C) = true by simp, Bool.true_or]
theorem dp3 {H : Hp} {p : Addr} {a b c : Str} (h : H p = some (.lst [.str a, .str b, .str c])) : Dp K H (.ref p) (.list [.str a, .str b, .str c]) := .lst (SqL.of h) (.cons (.str _) (.cons (.str _) (.cons (.str _) .nil)))
theorem dp2 {H : Hp} {p : Addr} {a b : Str} (h : H p = some (.lst [.str a, .str b])) : Dp K H (.ref p) (.list [.str a, .str b]) := .lst (SqL.of h) (.cons (.str _) (.cons (.str _) .nil))
theorem sh3 {a b c : Str} (h1 : Lo a) (h2 : Lo b) (h3 : Lo c) : SeqAt.shaped (.list [.str a, .str b, .str c]) = true := Bool.and_eq_true_iff.mpr ⟨by simp [PyData.canLay0, PyData.canLayAll0, h1.ok, h2.ok, h3.ok], rfl⟩
theorem sh2 {a b : Str} (h1 : Lo a) (h2 : Lo b) : SeqAt.shaped (.list [.str a, .str b]) = true := Bool.and_eq_true_iff.mpr ⟨by simp [PyData.canLay0, PyData.canLayAll0, h1.ok, h2.ok], rfl⟩
theorem dpB {H : Hp} {p : Addr} {a b c d e f : Bool} (h : H p = some (.lst [.bl a, .bl b, .bl c, .bl d, .bl e, .bl f])) : Dp K H (.ref p) (.list [.bool a, .bool b, .bool c, .bool d, .bool e, .bool f]) := .lst (SqL.of h) (.cons (.bl _) (.cons (.bl _) (.cons (.bl _) (.cons (.bl _) (.cons (.bl _) (.cons (.bl _) .nil))))))
theorem far_ne {x y : Int} (hy : 0 < y) : (decide (x = (low (x + 1) y).1) && decide (y = (low (x + 1) y).2)) = false := by
  rw [Bool.and_eq_false_iff, decide_eq_false_iff_not, decide_eq_false_iff_not]
  by_cases h1 : x = (low (x + 1) y).1
  · refine .inr fun h2 => ?_
    have e1 := low_l (x + 1) y
    have e2 := low_r (x + 1) y
    rw [← h1] at e1
    rw [← h2] at e2
    have d : dv (x + 1) y = 1 := Int.eq_one_of_mul_eq_self_right (by omega) e2
    rw [d] at e1
    omega
  · exact .inl h1
theorem lo_sTxt (x y : Int) : Lo (sTxt x y) := by
  unfold sTxt
  refine lo_list fun t ht => ?_
  have ht' : t ∈ [PyData.shown (.int x), PyData.shown (.int y), PyData.shown (.int (sgn x)), PyData.shown (.str (nTxt x y)), PyData.shown (.str ("Number(" ++ nTxt x y ++ ")")), PyData.shown (.bool true)] := ht
  simp only [List.mem_cons, List.not_mem_nil, or_false] at ht'
  rcases ht' with rfl | rfl | rfl | rfl | rfl | rfl
  · exact lo_int x
  · exact lo_int y
  · exact lo_int (sgn x)
  · exact lo_repr (lo_nTxt x y)
  · exact lo_repr (((lo_lit (by decide +kernel)).app (lo_nTxt x y)).app (lo_lit (by decide +kernel)))
  · exact lo_lit (by decide +kernel)
/-- one turn -/
def spRight : Sp := fun vs H Q _ => ∃ p, vs = [.ref p] ∧ Spr H p ∧ ∀ H', ExB p H H' → Spr H' p → Q (.bl true) H'
abbrev s_l_right : Stmt := top 25
theorem sc_l_right : FnScope ["_law_spring_here", "_law_head", "_law_base", "_law_pair", "_law_many", "_law_number", "_law_twin", "_law_due_here", "_law_far", "_law_low_here", "_law_told", "_law_each"] ["_law_spring_here"] (defScope s_l_right) := ⟨rfl, rfl, rfl, by decide +kernel, rfl, by decide +kernel, by decide +kernel⟩
theorem ok_right {f fP fL fO fD fI fE fS fR fM : Addr} {fd fdP fdL fdO fdD fdI fdE fdS fdR fdM : FuncData} {ds : List Value} {gg : List Value → List Value → List Value} {gV : List V → List V → List V}
    (F : Fun K "_law_right" "_law_right" s_l_right f fd) (T : Txt K mg) (N : NmT K mg C) (kC : PySem.W.keepIn K (.ref C) = true)
    (FP : FnOk P w K mg base CX0 3 fP fdP ["_law_spring_here"] spParts) (bP : Binds K fdP ["_law_spring_here"] []) (mP : mg "_law_parts" = some (.ref fP)) (kP : PySem.W.keepIn K (.ref fP) = true)
    (FL : FnOk P w K mg base CX0 1 fL fdL ["_law_head", "_law_base"] spLow) (bL : Binds K fdL ["_law_head", "_law_base"] []) (mL : mg "_law_low" = some (.ref fL)) (kL : PySem.W.keepIn K (.ref fL) = true)
    (FO : FnOk P w K mg base CX0 2 fO fdO ["_law_spring_here", "_law_things"] (spOne K)) (bO : Binds K fdO ["_law_spring_here", "_law_things"] []) (mO : mg "_law_one" = some (.ref fO)) (kO : PySem.W.keepIn K (.ref fO) = true)
    (FD : FnG P w K mg base CX0 6 fD fdD ["_law_pair"] spDue) (bD : Binds K fdD ["_law_pair"] []) (mD : mg "_law_due" = some (.ref fD)) (kD : PySem.W.keepIn K (.ref fD) = true)
    (M : Mk K C fI) (FI : FnOk P w K mg base CX0 2 fI fdI ["self", "top", "bottom"] (spInit C)) (b2 : Binds K fdI ["self", "top", "bottom"] []) (b1 : Binds K fdI ["self", "top", "bottom"] ds) (hd : Vals [.int 1] ds)
    (bk : KBn K fdI ["self", "top", "bottom"] 1 ["bottom", "top"] gg gV) (hgV : ∀ a b c, gV [a] [b, c] = [a, c, b])
    (FE : FnG P w K mg base CX0 11 fE fdE ["_law_number"] (spSeen C)) (bE : Binds K fdE ["_law_number"] []) (mE : mg "_law_seen" = some (.ref fE)) (kE : PySem.W.keepIn K (.ref fE) = true)
    (FS : FnOk P w K mg base CX0 1 fS fdS ["self"] (spStr C)) (bS : Binds K fdS ["self"] []) (aS : PySem.W.findIn K (.ref C) "__str__" = some (some (.ref fS))) (iS : PySem.W.isFn K (.ref fS) = true)
    (FR : FnOk P w K mg base CX0 6 fR fdR ["text"] (spRead C)) (bR : ∀ (s : Shared) (ws : List Value), K.In s.heap → ws.length = ["text"].length → BindsTo s fdR ⟨[], (["text"] : List Str).zip ws⟩ ((["text"] : List Str).zip ws)) (sm : Smt K C "read" fR)
    (FM : FnOk P w K mg base CX0 1 fM fdM ["self", "other"] (spEq K C)) (bM : Binds K fdM ["self", "other"] []) (aM : PySem.W.findIn K (.ref C) "__eq__" = some (some (.ref fM))) (iM : PySem.W.isFn K (.ref fM) = true)
    (ne : PySem.W.findIn K (.ref C) "__ne__" = some (some (.builtin "object.__ne__"))) (oI : Other K C (.type "int")) (oS : Other K C (.type "str")) (oT : Other K C (.type "tuple")) (oN : Other K C (.type "NoneType")) : FnG P w K mg base CX0 13 f fd ["_law_spring_here"] spRight := by
  refine G.Fun.okG F sc_l_right (fun vs H Q E h => ?_) (fun cdv A outer s H vs Q E hg hr h => ?_)
  · obtain ⟨p, rfl, _⟩ := h
    rfl
  · obtain ⟨p, rfl, hp, k⟩ := h
    refine ⟨_, pb, ?_⟩
    have l0 : Sl (cxOf CX0 P w K mg base ["_law_spring_here", "_law_head", "_law_base", "_law_pair", "_law_many", "_law_number", "_law_twin", "_law_due_here", "_law_far", "_law_low_here", "_law_told", "_law_each"] "_law_right" (defScope s_l_right) f cdv A outer s H E).nox 0 "_law_spring_here" := ⟨rfl, .inl rfl, by decide, by decide⟩
    have w0 : Sw (cxOf CX0 P w K mg base ["_law_spring_here", "_law_head", "_law_base", "_law_pair", "_law_many", "_law_number", "_law_twin", "_law_due_here", "_law_far", "_law_low_here", "_law_told", "_law_each"] "_law_right" (defScope s_l_right) f cdv A outer s H E).nox 0 "_law_spring_here" := ⟨rfl, .inl rfl, .inl rfl, sc_l_right.nd⟩
    have k0 : Sk (cxOf CX0 P w K mg base ["_law_spring_here", "_law_head", "_law_base", "_law_pair", "_law_many", "_law_number", "_law_twin", "_law_due_here", "_law_far", "_law_low_here", "_law_told", "_law_each"] "_law_right" (defScope s_l_right) f cdv A outer s H E).nox "_law_spring_here" := ⟨rfl⟩
    have l1 : Sl (cxOf CX0 P w K mg base ["_law_spring_here", "_law_head", "_law_base", "_law_pair", "_law_many", "_law_number", "_law_twin", "_law_due_here", "_law_far", "_law_low_here", "_law_told", "_law_each"] "_law_right" (defScope s_l_right) f cdv A outer s H E).nox 1 "_law_head" := ⟨rfl, .inl rfl, by decide, by decide⟩
    have w1 : Sw (cxOf CX0 P w K mg base ["_law_spring_here", "_law_head", "_law_base", "_law_pair", "_law_many", "_law_number", "_law_twin", "_law_due_here", "_law_far", "_law_low_here", "_law_told", "_law_each"] "_law_right" (defScope s_l_right) f cdv A outer s H E).nox 1 "_law_head" := ⟨rfl, .inl rfl, .inl rfl, sc_l_right.nd⟩
    have k1 : Sk (cxOf CX0 P w K mg base ["_law_spring_here", "_law_head", "_law_base", "_law_pair", "_law_many", "_law_number", "_law_twin", "_law_due_here", "_law_far", "_law_low_here", "_law_told", "_law_each"] "_law_right" (defScope s_l_right) f cdv A outer s H E).nox "_law_head" := ⟨rfl⟩
    have l2 : Sl (cxOf CX0 P w K mg base ["_law_spring_here", "_law_head", "_law_base", "_law_pair", "_law_many", "_law_number", "_law_twin", "_law_due_here", "_law_far", "_law_low_here", "_law_told", "_law_each"] "_law_right" (defScope s_l_right) f cdv A outer s H E).nox 2 "_law_base" := ⟨rfl, .inl rfl, by decide, by decide⟩
    have w2 : Sw (cxOf CX0 P w K mg base ["_law_spring_here", "_law_head", "_law_base", "_law_pair", "_law_many", "_law_number", "_law_twin", "_law_due_here", "_law_far", "_law_low_here", "_law_told", "_law_each"] "_law_right" (defScope s_l_right) f cdv A outer s H E).nox 2 "_law_base" := ⟨rfl, .inl rfl, .inl rfl, sc_l_right.nd⟩
    have k2 : Sk (cxOf CX0 P w K mg base ["_law_spring_here", "_law_head", "_law_base", "_law_pair", "_law_many", "_law_number", "_law_twin", "_law_due_here", "_law_far", "_law_low_here", "_law_told", "_law_each"] "_law_right" (defScope s_l_right) f cdv A outer s H E).nox "_law_base" := ⟨rfl⟩
    have l3 : Sl (cxOf CX0 P w K mg base ["_law_spring_here", "_law_head", "_law_base", "_law_pair", "_law_many", "_law_number", "_law_twin", "_law_due_here", "_law_far", "_law_low_here", "_law_told", "_law_each"] "_law_right" (defScope s_l_right) f cdv A outer s H E).nox 3 "_law_pair" := ⟨rfl, .inl rfl, by decide, by decide⟩
    have w3 : Sw (cxOf CX0 P w K mg base ["_law_spring_here", "_law_head", "_law_base", "_law_pair", "_law_many", "_law_number", "_law_twin", "_law_due_here", "_law_far", "_law_low_here", "_law_told", "_law_each"] "_law_right" (defScope s_l_right) f cdv A outer s H E).nox 3 "_law_pair" := ⟨rfl, .inl rfl, .inl rfl, sc_l_right.nd⟩
    have k3 : Sk (cxOf CX0 P w K mg base ["_law_spring_here", "_law_head", "_law_base", "_law_pair", "_law_many", "_law_number", "_law_twin", "_law_due_here", "_law_far", "_law_low_here", "_law_told", "_law_each"] "_law_right" (defScope s_l_right) f cdv A outer s H E).nox "_law_pair" := ⟨rfl⟩
    have l4 : Sl (cxOf CX0 P w K mg base ["_law_spring_here", "_law_head", "_law_base", "_law_pair", "_law_many", "_law_number", "_law_twin", "_law_due_here", "_law_far", "_law_low_here", "_law_told", "_law_each"] "_law_right" (defScope s_l_right) f cdv A outer s H E).nox 4 "_law_many" := ⟨rfl, .inl rfl, by decide, by decide⟩
    have w4 : Sw (cxOf CX0 P w K mg base ["_law_spring_here", "_law_head", "_law_base", "_law_pair", "_law_many", "_law_number", "_law_twin", "_law_due_here", "_law_far", "_law_low_here", "_law_told", "_law_each"] "_law_right" (defScope s_l_right) f cdv A outer s H E).nox 4 "_law_many" := ⟨rfl, .inl rfl, .inl rfl, sc_l_right.nd⟩
    have k4 : Sk (cxOf CX0 P w K mg base ["_law_spring_here", "_law_head", "_law_base", "_law_pair", "_law_many", "_law_number", "_law_twin", "_law_due_here", "_law_far", "_law_low_here", "_law_told", "_law_each"] "_law_right" (defScope s_l_right) f cdv A outer s H E).nox "_law_many" := ⟨rfl⟩
    have l5 : Sl (cxOf CX0 P w K mg base ["_law_spring_here", "_law_head", "_law_base", "_law_pair", "_law_many", "_law_number", "_law_twin", "_law_due_here", "_law_far", "_law_low_here", "_law_told", "_law_each"] "_law_right" (defScope s_l_right) f cdv A outer s H E).nox 5 "_law_number" := ⟨rfl, .inl rfl, by decide, by decide⟩
    have w5 : Sw (cxOf CX0 P w K mg base ["_law_spring_here", "_law_head", "_law_base", "_law_pair", "_law_many", "_law_number", "_law_twin", "_law_due_here", "_law_far", "_law_low_here", "_law_told", "_law_each"] "_law_right" (defScope s_l_right) f cdv A outer s H E).nox 5 "_law_number" := ⟨rfl, .inl rfl, .inl rfl, sc_l_right.nd⟩
    have k5 : Sk (cxOf CX0 P w K mg base ["_law_spring_here", "_law_head", "_law_base", "_law_pair", "_law_many", "_law_number", "_law_twin", "_law_due_here", "_law_far", "_law_low_here", "_law_told", "_law_each"] "_law_right" (defScope s_l_right) f cdv A outer s H E).nox "_law_number" := ⟨rfl⟩
    have l6 : Sl (cxOf CX0 P w K mg base ["_law_spring_here", "_law_head", "_law_base", "_law_pair", "_law_many", "_law_number", "_law_twin", "_law_due_here", "_law_far", "_law_low_here", "_law_told", "_law_each"] "_law_right" (defScope s_l_right) f cdv A outer s H E).nox 6 "_law_twin" := ⟨rfl, .inl rfl, by decide, by decide⟩
    have w6 : Sw (cxOf CX0 P w K mg base ["_law_spring_here", "_law_head", "_law_base", "_law_pair", "_law_many", "_law_number", "_law_twin", "_law_due_here", "_law_far", "_law_low_here", "_law_told", "_law_each"] "_law_right" (defScope s_l_right) f cdv A outer s H E).nox 6 "_law_twin" := ⟨rfl, .inl rfl, .inl rfl, sc_l_right.nd⟩
    have k6 : Sk (cxOf CX0 P w K mg base ["_law_spring_here", "_law_head", "_law_base", "_law_pair", "_law_many", "_law_number", "_law_twin", "_law_due_here", "_law_far", "_law_low_here", "_law_told", "_law_each"] "_law_right" (defScope s_l_right) f cdv A outer s H E).nox "_law_twin" := ⟨rfl⟩
    have l7 : Sl (cxOf CX0 P w K mg base ["_law_spring_here", "_law_head", "_law_base", "_law_pair", "_law_many", "_law_number", "_law_twin", "_law_due_here", "_law_far", "_law_low_here", "_law_told", "_law_each"] "_law_right" (defScope s_l_right) f cdv A outer s H E).nox 7 "_law_due_here" := ⟨rfl, .inl rfl, by decide, by decide⟩
    have w7 : Sw (cxOf CX0 P w K mg base ["_law_spring_here", "_law_head", "_law_base", "_law_pair", "_law_many", "_law_number", "_law_twin", "_law_due_here", "_law_far", "_law_low_here", "_law_told", "_law_each"] "_law_right" (defScope s_l_right) f cdv A outer s H E).nox 7 "_law_due_here" := ⟨rfl, .inl rfl, .inl rfl, sc_l_right.nd⟩
    have k7 : Sk (cxOf CX0 P w K mg base ["_law_spring_here", "_law_head", "_law_base", "_law_pair", "_law_many", "_law_number", "_law_twin", "_law_due_here", "_law_far", "_law_low_here", "_law_told", "_law_each"] "_law_right" (defScope s_l_right) f cdv A outer s H E).nox "_law_due_here" := ⟨rfl⟩
    have l8 : Sl (cxOf CX0 P w K mg base ["_law_spring_here", "_law_head", "_law_base", "_law_pair", "_law_many", "_law_number", "_law_twin", "_law_due_here", "_law_far", "_law_low_here", "_law_told", "_law_each"] "_law_right" (defScope s_l_right) f cdv A outer s H E).nox 8 "_law_far" := ⟨rfl, .inl rfl, by decide, by decide⟩
    have w8 : Sw (cxOf CX0 P w K mg base ["_law_spring_here", "_law_head", "_law_base", "_law_pair", "_law_many", "_law_number", "_law_twin", "_law_due_here", "_law_far", "_law_low_here", "_law_told", "_law_each"] "_law_right" (defScope s_l_right) f cdv A outer s H E).nox 8 "_law_far" := ⟨rfl, .inl rfl, .inl rfl, sc_l_right.nd⟩
    have k8 : Sk (cxOf CX0 P w K mg base ["_law_spring_here", "_law_head", "_law_base", "_law_pair", "_law_many", "_law_number", "_law_twin", "_law_due_here", "_law_far", "_law_low_here", "_law_told", "_law_each"] "_law_right" (defScope s_l_right) f cdv A outer s H E).nox "_law_far" := ⟨rfl⟩
    have l9 : Sl (cxOf CX0 P w K mg base ["_law_spring_here", "_law_head", "_law_base", "_law_pair", "_law_many", "_law_number", "_law_twin", "_law_due_here", "_law_far", "_law_low_here", "_law_told", "_law_each"] "_law_right" (defScope s_l_right) f cdv A outer s H E).nox 9 "_law_low_here" := ⟨rfl, .inl rfl, by decide, by decide⟩
    have w9 : Sw (cxOf CX0 P w K mg base ["_law_spring_here", "_law_head", "_law_base", "_law_pair", "_law_many", "_law_number", "_law_twin", "_law_due_here", "_law_far", "_law_low_here", "_law_told", "_law_each"] "_law_right" (defScope s_l_right) f cdv A outer s H E).nox 9 "_law_low_here" := ⟨rfl, .inl rfl, .inl rfl, sc_l_right.nd⟩
    have k9 : Sk (cxOf CX0 P w K mg base ["_law_spring_here", "_law_head", "_law_base", "_law_pair", "_law_many", "_law_number", "_law_twin", "_law_due_here", "_law_far", "_law_low_here", "_law_told", "_law_each"] "_law_right" (defScope s_l_right) f cdv A outer s H E).nox "_law_low_here" := ⟨rfl⟩
    have l10 : Sl (cxOf CX0 P w K mg base ["_law_spring_here", "_law_head", "_law_base", "_law_pair", "_law_many", "_law_number", "_law_twin", "_law_due_here", "_law_far", "_law_low_here", "_law_told", "_law_each"] "_law_right" (defScope s_l_right) f cdv A outer s H E).nox 10 "_law_told" := ⟨rfl, .inl rfl, by decide, by decide⟩
    have w10 : Sw (cxOf CX0 P w K mg base ["_law_spring_here", "_law_head", "_law_base", "_law_pair", "_law_many", "_law_number", "_law_twin", "_law_due_here", "_law_far", "_law_low_here", "_law_told", "_law_each"] "_law_right" (defScope s_l_right) f cdv A outer s H E).nox 10 "_law_told" := ⟨rfl, .inl rfl, .inl rfl, sc_l_right.nd⟩
    have k10 : Sk (cxOf CX0 P w K mg base ["_law_spring_here", "_law_head", "_law_base", "_law_pair", "_law_many", "_law_number", "_law_twin", "_law_due_here", "_law_far", "_law_low_here", "_law_told", "_law_each"] "_law_right" (defScope s_l_right) f cdv A outer s H E).nox "_law_told" := ⟨rfl⟩
    -- global _law_parts
    -- global _law_low
    -- global _law_one
    -- global Number
    -- global _law_due
    -- global _law_seen
    have v_str_ : Bn (cxOf CX0 P w K mg base ["_law_spring_here", "_law_head", "_law_base", "_law_pair", "_law_many", "_law_number", "_law_twin", "_law_due_here", "_law_far", "_law_low_here", "_law_told", "_law_each"] "_law_right" (defScope s_l_right) f cdv A outer s H E).nox "str" (.type "str") := ⟨rfl, T.«str», by decide +kernel, by decide, by decide⟩
    have cm_ : ((cxOf CX0 P w K mg base ["_law_spring_here", "_law_head", "_law_base", "_law_pair", "_law_many", "_law_number", "_law_twin", "_law_due_here", "_law_far", "_law_low_here", "_law_told", "_law_each"] "_law_right" (defScope s_l_right) f cdv A outer s H E).nox).calm = true := rfl
    have hu_ : ((cxOf CX0 P w K mg base ["_law_spring_here", "_law_head", "_law_base", "_law_pair", "_law_many", "_law_number", "_law_twin", "_law_due_here", "_law_far", "_law_low_here", "_law_told", "_law_each"] "_law_right" (defScope s_l_right) f cdv A outer s H E).nox).A.units + 64 < cLine := room_u hr
    have c1_ : Fn (cxOf CX0 P w K mg base ["_law_spring_here", "_law_head", "_law_base", "_law_pair", "_law_many", "_law_number", "_law_twin", "_law_due_here", "_law_far", "_law_low_here", "_law_told", "_law_each"] "_law_right" (defScope s_l_right) f cdv A outer s H E).nox "_law_parts" (fun vs H Q => spParts (vs ++ []) H Q E0) := fn_own (cr_fn FP (hr.mono (by decide)) bP .nil pass0) rfl mP kP (by decide)
    have c2_ : Fn (cxOf CX0 P w K mg base ["_law_spring_here", "_law_head", "_law_base", "_law_pair", "_law_many", "_law_number", "_law_twin", "_law_due_here", "_law_far", "_law_low_here", "_law_told", "_law_each"] "_law_right" (defScope s_l_right) f cdv A outer s H E).nox "_law_low" (fun vs H Q => spLow (vs ++ []) H Q E0) := fn_own (cr_fn FL (hr.mono (by decide)) bL .nil pass0) rfl mL kL (by decide)
    have c3_ : Fn (cxOf CX0 P w K mg base ["_law_spring_here", "_law_head", "_law_base", "_law_pair", "_law_many", "_law_number", "_law_twin", "_law_due_here", "_law_far", "_law_low_here", "_law_told", "_law_each"] "_law_right" (defScope s_l_right) f cdv A outer s H E).nox "_law_one" (fun vs H Q => spOne K (vs ++ []) H Q E0) := fn_own (cr_fn FO (hr.mono (by decide)) bO .nil pass0) rfl mO kO (by decide)
    have c4_ : Fn (cxOf CX0 P w K mg base ["_law_spring_here", "_law_head", "_law_base", "_law_pair", "_law_many", "_law_number", "_law_twin", "_law_due_here", "_law_far", "_law_low_here", "_law_told", "_law_each"] "_law_right" (defScope s_l_right) f cdv A outer s H E).nox "_law_due" (fun vs H Q => spDue (vs ++ []) H Q E0) := fn_own (cr_fnG FD hg (hr.mono (by decide)) bD .nil pass0) rfl mD kD (by decide)
    have c5_ : Fn (cxOf CX0 P w K mg base ["_law_spring_here", "_law_head", "_law_base", "_law_pair", "_law_many", "_law_number", "_law_twin", "_law_due_here", "_law_far", "_law_low_here", "_law_told", "_law_each"] "_law_right" (defScope s_l_right) f cdv A outer s H E).nox "Number" (spNew C) := (cal_new (X := (cxOf CX0 P w K mg base ["_law_spring_here", "_law_head", "_law_base", "_law_pair", "_law_many", "_law_number", "_law_twin", "_law_due_here", "_law_far", "_law_low_here", "_law_told", "_law_each"] "_law_right" (defScope s_l_right) f cdv A outer s H E).nox) M FI (hr.mono (by decide)) b2 b1 hd).at .rfl' rfl N.mgC kC (by decide)
    have e5_ : Cal (cxOf CX0 P w K mg base ["_law_spring_here", "_law_head", "_law_base", "_law_pair", "_law_many", "_law_number", "_law_twin", "_law_due_here", "_law_far", "_law_low_here", "_law_told", "_law_each"] "_law_right" (defScope s_l_right) f cdv A outer s H E).nox (.ref fE) (fun vs H Q => spSeen C (vs ++ []) H Q E0) := cal_fnG FE hg (hr.mono (by decide)) bE .nil
    have c6_ : Fn (cxOf CX0 P w K mg base ["_law_spring_here", "_law_head", "_law_base", "_law_pair", "_law_many", "_law_number", "_law_twin", "_law_due_here", "_law_far", "_law_low_here", "_law_told", "_law_each"] "_law_right" (defScope s_l_right) f cdv A outer s H E).nox "_law_seen" (fun vs H Q => spSeen C (vs ++ []) H Q E0) := e5_.at .rfl' rfl mE kE (by decide)
    have D_ : Dm (cxOf CX0 P w K mg base ["_law_spring_here", "_law_head", "_law_base", "_law_pair", "_law_many", "_law_number", "_law_twin", "_law_due_here", "_law_far", "_law_low_here", "_law_told", "_law_each"] "_law_right" (defScope s_l_right) f cdv A outer s H E).nox C "__str__" (fun vs H Q => spStr C (vs ++ []) H Q E0) := dm_mk aS iS FS bS .nil (hr.mono (by decide)) pass0
    have b_str_ := b_strN (X := (cxOf CX0 P w K mg base ["_law_spring_here", "_law_head", "_law_base", "_law_pair", "_law_many", "_law_number", "_law_twin", "_law_due_here", "_law_far", "_law_low_here", "_law_told", "_law_each"] "_law_right" (defScope s_l_right) f cdv A outer s H E).nox) D_ v_str_
    have q_ : Dm (cxOf CX0 P w K mg base ["_law_spring_here", "_law_head", "_law_base", "_law_pair", "_law_many", "_law_number", "_law_twin", "_law_due_here", "_law_far", "_law_low_here", "_law_told", "_law_each"] "_law_right" (defScope s_l_right) f cdv A outer s H E).nox C "__eq__" (fun vs H Q => spEq K C (vs ++ []) H Q E0) := dm_mk aM iM FM bM .nil (hr.mono (by decide)) pass0
    have r_ : CallK (cxOf CX0 P w K mg base ["_law_spring_here", "_law_head", "_law_base", "_law_pair", "_law_many", "_law_number", "_law_twin", "_law_due_here", "_law_far", "_law_low_here", "_law_told", "_law_each"] "_law_right" (defScope s_l_right) f cdv A outer s H E).nox (.ref fR) ["text"] (fun zs H Q => spRead C zs H Q E0) := ck_fn FR (hr.mono (by decide)) bR pass0
    have sm_ : Smt ((cxOf CX0 P w K mg base ["_law_spring_here", "_law_head", "_law_base", "_law_pair", "_law_many", "_law_number", "_law_twin", "_law_due_here", "_law_far", "_law_low_here", "_law_told", "_law_each"] "_law_right" (defScope s_l_right) f cdv A outer s H E).nox).K C "read" fR := sm
    have ne_ : PySem.W.findIn ((cxOf CX0 P w K mg base ["_law_spring_here", "_law_head", "_law_base", "_law_pair", "_law_many", "_law_number", "_law_twin", "_law_due_here", "_law_far", "_law_low_here", "_law_told", "_law_each"] "_law_right" (defScope s_l_right) f cdv A outer s H E).nox).K (.ref C) "__ne__" = some (some (.builtin "object.__ne__")) := ne
    have mr_ : PySem.W.mroIn ((cxOf CX0 P w K mg base ["_law_spring_here", "_law_head", "_law_base", "_law_pair", "_law_many", "_law_number", "_law_twin", "_law_due_here", "_law_far", "_law_low_here", "_law_told", "_law_each"] "_law_right" (defScope s_l_right) f cdv A outer s H E).nox).K C (.type "object") = some true := N.cm
    have mk_ : MkK (cxOf CX0 P w K mg base ["_law_spring_here", "_law_head", "_law_base", "_law_pair", "_law_many", "_law_number", "_law_twin", "_law_due_here", "_law_far", "_law_low_here", "_law_told", "_law_each"] "_law_right" (defScope s_l_right) f cdv A outer s H E).nox "Number" ["bottom", "top"] (fun zs H Q => ∃ a b : Int, zs = [.int b, .int a] ∧ b ≠ 0 ∧ b.natAbs.log2 < 9000 ∧ ∀ p H', H p = none → Ex H H' → NumAt C H' p (low a b).1 (low a b).2 → Q (.ref p) H') := mkk_new M FI (hr.mono (by decide)) rfl N.mgC bk hgV
    have mE_ : ((cxOf CX0 P w K mg base ["_law_spring_here", "_law_head", "_law_base", "_law_pair", "_law_many", "_law_number", "_law_twin", "_law_due_here", "_law_far", "_law_low_here", "_law_told", "_law_each"] "_law_right" (defScope s_l_right) f cdv A outer s H E).nox).mg "_law_seen" = some (.ref fE) := mE
    have kE_ : PySem.W.keepIn ((cxOf CX0 P w K mg base ["_law_spring_here", "_law_head", "_law_base", "_law_pair", "_law_many", "_law_number", "_law_twin", "_law_due_here", "_law_far", "_law_low_here", "_law_told", "_law_each"] "_law_right" (defScope s_l_right) f cdv A outer s H E).nox).K (.ref fE) = true := kE
    have kK_ : ((cxOf CX0 P w K mg base ["_law_spring_here", "_law_head", "_law_base", "_law_pair", "_law_many", "_law_number", "_law_twin", "_law_due_here", "_law_far", "_law_low_here", "_law_told", "_law_each"] "_law_right" (defScope s_l_right) f cdv A outer s H E).nox).K = K := rfl
    have g1_ : Gn (cxOf CX0 P w K mg base ["_law_spring_here", "_law_head", "_law_base", "_law_pair", "_law_many", "_law_number", "_law_twin", "_law_due_here", "_law_far", "_law_low_here", "_law_told", "_law_each"] "_law_right" (defScope s_l_right) f cdv A outer s H E).nox "Number" (.ref C) := ⟨rfl, ⟨_, N.mgC, rfl⟩, by decide⟩
    have hsc_ : (cxOf CX0 P w K mg base ["_law_spring_here", "_law_head", "_law_base", "_law_pair", "_law_many", "_law_number", "_law_twin", "_law_due_here", "_law_far", "_law_low_here", "_law_told", "_law_each"] "_law_right" (defScope s_l_right) f cdv A outer s H E).nox.env.scope = defScope s_l_right := rfl
    have hN_ : (cxOf CX0 P w K mg base ["_law_spring_here", "_law_head", "_law_base", "_law_pair", "_law_many", "_law_number", "_law_twin", "_law_due_here", "_law_far", "_law_low_here", "_law_told", "_law_each"] "_law_right" (defScope s_l_right) f cdv A outer s H E).nox.N = (["_law_spring_here", "_law_head", "_law_base", "_law_pair", "_law_many", "_law_number", "_law_twin", "_law_due_here", "_law_far", "_law_low_here", "_law_told", "_law_each"] : List Str) := rfl
    generalize (cxOf CX0 P w K mg base ["_law_spring_here", "_law_head", "_law_base", "_law_pair", "_law_many", "_law_number", "_law_twin", "_law_due_here", "_law_far", "_law_low_here", "_law_told", "_law_each"] "_law_right" (defScope s_l_right) f cdv A outer s H E).nox = X at *
    change Gb _ _ _ [some _, none, none, none, none, none, none, none, none, none, none, none] _
    first | refine b_one ?_ | refine b_cons ?_
    walk_at "go"
    refine ⟨p, rfl, hp, fun q0 a b H1 n1 e1 sp1 h1 b0 al bl => ?_⟩
    walk_at "go"
    refine ⟨a, b, rfl, b0, Nat.lt_of_lt_of_le (lgb bl (by decide)) (by decide), fun q2 H2 n2 e2 h2 => ?_⟩
    have sp2 := sp1.go e2
    have ne2 : q2 ≠ p := sp1.ne n2
    have gxy := low_gcd (a := a) b0
    have y0 := low_pos (a := a) b0
    obtain ⟨xl, yl⟩ := low_le (a := a) b0
    have hab := low_self y0 gxy
    walk_at "go"
    refine ⟨by simp, fun l H3 nl e3 h3 => ?_⟩
    walk_at "go"
    refine ⟨p, l, _, rfl, sp2.go e3, sp2.ne nl, h3, by simp, by simp, fun i v H4 hv sp4 e4 => ?_⟩
    obtain ⟨m, rfl, m0, ml⟩ : ∃ b : Int, v = .int b ∧ b ≠ 0 ∧ b.natAbs ≤ 10 := by
      have m := List.mem_of_getElem? hv
      simp only [List.mem_cons, List.not_mem_nil, or_false] at m
      rcases m with rfl | rfl | rfl | rfl | rfl <;> exact ⟨_, rfl, by omega, by omega⟩
    walk_at "go"
    refine ⟨a, b, .inl rfl, b0, Nat.lt_of_lt_of_le (lgb bl (by decide)) (by decide), fun pn H5 n5 e5 h5 => ?_⟩
    walk_at "go"
    generalize (low a b).1 = x at *
    generalize (low a b).2 = y at *
    refine e_kw mk_ rfl rfl rfl ?_
    walk_at "go"
    have lx : x.natAbs.log2 < 126 := lgb (by omega) (by decide)
    have ly : y.natAbs.log2 < 126 := lgb (by omega) (by decide)
    have lym : (y * m).natAbs.log2 < 130 := lgb (by rw [Int.natAbs_mul]; exact Nat.lt_of_le_of_lt (Nat.mul_le_mul (Nat.le_trans yl (Nat.le_of_lt bl)) ml) (by decide)) (by decide)
    refine ⟨rfl, x * m, y * m, rfl, Int.mul_ne_zero (by omega) m0, by omega, fun pt H6 n6 e6 h6 => ?_⟩
    rw [low_of m0 y0 gxy rfl rfl] at h6
    dsimp only at h6
    obtain ⟨d5, h5'⟩ := h5
    obtain ⟨d6, h6'⟩ := h6
    walk_at "go"
    refine ⟨q2, x, y, rfl, by walk_at "hp", by omega, by omega, fun H7 e7 => ?_⟩
    walk_at "gon"
    refine s_if ?_
    walk_at "gon"
    refine e_map (own := [("_law_each", 11)]) (j := 11) cm_ w0.nd ?ok ?hf ?hw ?hj ?_
    case ok => rw [hN_, hsc_]; exact blkOk_by (by decide +kernel)
    case hf => intro _; rfl
    case hw => exact fun Z hZ => sw_blk hZ hsc_ hN_ rfl rfl sc_l_right.nd
    case hj => exact fun _ => rfl
    refine i_list ?_
    walk_at "go"
    refine e_smK sm_ r_ rfl rfl rfl rfl ?_
    walk_at "go"
    refine ⟨rfl, ?_⟩
    walk_at "go"
    refine .inr ⟨_, rfl, pn, d5, _, rfl, by walk_at "hp", pn, x, y, rfl, ⟨d5, by walk_at "hp"⟩, by omega, by omega, _, rfl, ?_⟩
    walk_at "go"
    refine ⟨rfl, x, y, rfl, y0, gxy, by omega, by omega, fun pr H8 n8 e8 h8 => ?_⟩
    obtain ⟨d8, h8'⟩ := h8
    walk_at "go"
    refine ⟨by simp, fun ll H9 n9 e9 h9 => ?_⟩
    refine ⟨ll, rfl, ⟨_, SqL.of h9⟩, _, _, _, fun i v => v = .str (sTxt x y), walk_list, by simp, fun _ e => (SqL.of h9).ext e, ?_, ?_⟩
    · rintro i v H10 H11 hi e10 ⟨rfl, hv⟩ Z hZ
      obtain ⟨q, dq, rfl, hq⟩ : ∃ q dq, v = .ref q ∧ H9 q = some (.ins C dq (nF x y)) := by
        have m := List.mem_of_getElem? hv
        simp only [List.mem_cons, List.not_mem_nil, or_false] at m
        rcases m with rfl | rfl | rfl
        · exact ⟨_, _, rfl, by walk_at "hp"⟩
        · exact ⟨_, _, rfl, by walk_at "hp"⟩
        · exact ⟨_, _, rfl, by walk_at "hp"⟩
      have l11 : Sl Z 11 "_law_each" := sl_blk hZ hsc_ hN_ rfl (.inl rfl) (by decide) (by decide)
      have z6_ : Fn Z "_law_seen" (fun vs H Q => spSeen C (vs ++ []) H Q E0) := e5_.at hZ.like (gl_blk hZ hsc_ rfl) mE_ kE_ (by decide)
      walk_at "go"
      exact ⟨q, x, y, rfl, ⟨dq, e10 _ _ hq⟩, by omega, by omega, fun H' e => ⟨e, rfl⟩⟩
    · intro ys D0 H10 hl hR nD e10 hD
      have ey : ys = [.str (sTxt x y), .str (sTxt x y), .str (sTxt x y)] := list_of hl hR
      subst ey
      walk_at "go"
      refine ⟨by simp, fun ld H11 n11 e11 h11 => ?_⟩
      walk_at "go"
      refine o_rep h11 (by decide) (by decide) (by simp) fun lr H12 n12 e12 h12 => ?_
      have h12' : H12 lr = some (.lst [.str (sTxt x y), .str (sTxt x y), .str (sTxt x y)]) := h12
      have hS := lo_sTxt x y
      have g10 : H12 D0 = some (.lst [.str (sTxt x y), .str (sTxt x y), .str (sTxt x y)]) := e12 _ _ (e11 _ _ hD)
      refine c_neD hu_ (dp3 g10) (dp3 h12') (sh3 hS hS hS) (sh3 hS hS hS) ⟨_, rfl, ?_⟩
      rw [SeqAt.eqv_refl _ (SeqAt.canLay_of_shaped (sh3 hS hS hS))]
      walk_at "go"
      refine ⟨x + 1, y, .inl rfl, by omega, by omega, fun pf H13 n13 e13 h13 => ?_⟩
      obtain ⟨d13, h13'⟩ := h13
      walk_at "go"
      refine ⟨x + 1, y, rfl, by omega, by omega, fun q3 H14 n14 e14 h14 => ?_⟩
      walk_at "go"
      have N' : ∀ {H : Hp} {p : Addr} {x y : Int}, NumAt C H p x y → TyX X.K H (.ref p) (.ref C) := fun h => by rw [kK_]; exact N.ty h
      have nfS : PySem.W.notFirst X.K C (.ref C) = true := nf_self
      have a1 : H14 pn = some (.ins C d5 (nF x y)) := by walk_at "hp"
      have a2 : H14 pt = some (.ins C d6 (nF x y)) := by walk_at "hp"
      have a3 : H14 pf = some (.ins C d13 (nF (low (x + 1) y).1 (low (x + 1) y).2)) := by walk_at "hp"
      have eqt : (decide (x = x) && decide (y = y)) = true := by simp
      have eqf : (decide (x = (low (x + 1) y).1) && decide (y = (low (x + 1) y).2)) = false := far_ne y0
      refine c_eqO q_ a1 (N' ⟨d6, a2⟩) nfS ⟨pn, .ref pt, x, y, rfl, ⟨d5, a1⟩, .inr ⟨pt, x, y, rfl, ⟨d6, a2⟩, ?_⟩⟩
      walk_at "go"
      refine c_neO q_ ne_ mr_ a1 (N' ⟨d6, a2⟩) nfS ⟨pn, .ref pt, x, y, rfl, ⟨d5, a1⟩, .inr ⟨pt, x, y, rfl, ⟨d6, a2⟩, _, rfl, ?_⟩⟩
      walk_at "go"
      refine c_eqO q_ a1 (N' ⟨d13, a3⟩) nfS ⟨pn, .ref pf, x, y, rfl, ⟨d5, a1⟩, .inr ⟨pf, _, _, rfl, ⟨d13, a3⟩, ?_⟩⟩
      walk_at "go"
      refine c_neO q_ ne_ mr_ a1 (N' ⟨d13, a3⟩) nfS ⟨pn, .ref pf, x, y, rfl, ⟨d5, a1⟩, .inr ⟨pf, _, _, rfl, ⟨d13, a3⟩, _, rfl, ?_⟩⟩
      walk_at "go"
      rw [eqt, eqf]
      refine c_eqO q_ a1 (.base (.int _)) (by rw [kK_]; exact oI.nf) ⟨pn, _, x, y, rfl, ⟨d5, a1⟩, .inl ⟨_, .base (.int _), oI.kf, ?_⟩⟩
      walk_at "go"
      refine .inr ⟨_, rfl, pn, d5, _, rfl, a1, pn, x, y, rfl, ⟨d5, a1⟩, by omega, by omega, _, rfl, ?_⟩
      walk_at "go"
      refine c_eqO q_ a1 (.base (.str _)) (by rw [kK_]; exact oS.nf) ⟨pn, _, x, y, rfl, ⟨d5, a1⟩, .inl ⟨_, .base (.str _), oS.kf, ?_⟩⟩
      walk_at "go"
      refine ⟨by simp, fun lt H15 n15 e15 h15 => ?_⟩
      walk_at "go"
      refine ⟨by simp, fun lu H16 n16 e16 h16 => ?_⟩
      refine c_neD hu_ (dpB (e16 _ _ h15)) (dpB h16) rfl rfl ⟨_, rfl, ?_⟩
      walk_at "go"
      refine cTe (by rfl) ?_
      walk_at "go"
      refine ⟨by simp, fun lv H17 n17 e17 h17 => ?_⟩
      have e14' : Ex H14 H17 := e15.tr (e16.tr e17)
      refine c_eqO q_ (e14' _ _ a1) (.base (.tup h17)) (by rw [kK_]; exact oT.nf) ⟨pn, _, x, y, rfl, ⟨d5, e14' _ _ a1⟩, .inl ⟨_, .base (.tup h17), oT.kf, ?_⟩⟩
      walk_at "go"
      refine c_eqO q_ (e14' _ _ a1) (.base .non) (by rw [kK_]; exact oN.nf) ⟨pn, _, x, y, rfl, ⟨d5, e14' _ _ a1⟩, .inl ⟨_, .base .non, oN.kf, ?_⟩⟩
      walk_at "go"
      obtain ⟨xl3, yl3⟩ := low_le (a := x + 1) (b := y) (by omega)
      have lx3 : (low (x + 1) y).1.natAbs.log2 < 130 := lgb (by omega) (by decide)
      have ly3 : (low (x + 1) y).2.natAbs.log2 < 130 := lgb (by omega) (by decide)
      have la : a.natAbs.log2 < 130 := lgb (by omega) (by decide)
      refine ⟨pf, _, _, rfl, ⟨d13, e14' _ _ a3⟩, by omega, by omega, fun H18 e18 => ?_⟩
      walk_at "go"
      refine ⟨a, 1, .inr ⟨rfl, rfl⟩, by decide, by decide, fun pz H19 n19 e19 h19 => ?_⟩
      rw [low_one] at h19
      walk_at "go"
      refine ⟨pz, a, 1, rfl, h19, by omega, by decide, fun H20 e20 => ?_⟩
      walk_at "go"
      refine ⟨by simp, fun la' H21 n21 e21 h21 => ?_⟩
      walk_at "go"
      have b3 : H21 q3 = some (.tup [.int (low (x + 1) y).1, .int (low (x + 1) y).2]) := by walk_at "hp"
      refine ⟨q3, _, _, rfl, b3, by omega, by omega, fun H22 e22 => ?_⟩
      walk_at "go"
      refine ⟨by simp, fun tz H23 n23 e23 h23 => ?_⟩
      walk_at "go"
      refine ⟨tz, a, 1, rfl, h23, by omega, by decide, fun H24 e24 => ?_⟩
      walk_at "go"
      refine ⟨by simp, fun lb H25 n25 e25 h25 => ?_⟩
      have hS3 := lo_sTxt (low (x + 1) y).1 (low (x + 1) y).2
      have hSa := lo_sTxt a 1
      refine c_eqD hu_ (dp2 (e25 _ _ (e24 _ _ (e23 _ _ (e22 _ _ h21))))) (dp2 h25) (sh2 hS3 hSa) (sh2 hS3 hSa) ?_
      rw [SeqAt.eqv_refl _ (SeqAt.canLay_of_shaped (sh2 hS3 hSa))]
      have far : Ex H4 H25 := e5.tr (e6.tr (e7.tr (e8.tr (e9.tr (e10.tr (e11.tr (e12.tr (e13.tr (e14.tr (e14'.tr (e18.tr (e19.tr (e20.tr (e21.tr (e22.tr (e23.tr (e24.tr e25)))))))))))))))))
      exact k _ (e1.tr (e2.b.tr (e3.b.tr (e4.tr far.b)))) (sp4.go far)
end
theorem lenJ {j : Nat} (h : j < 3) {v : V} : (List.replicate j v).length < sizeLine := by
  have : (100 : Nat) ≤ sizeLine := by decide
  simp
  omega
section
variable {P : Program} {w : World} {K : PySem.W.Frag} {mg : Str → Option Value} {base : Heap} {C : Addr}
/-- the law -/
def spLaw (K : PySem.W.Frag) : Sp := fun vs H Q _ => ∃ (a : Addr) (ns : List Int), vs = [.ref a] ∧ SqL K H a (ns.map V.int) ∧ ns.length ≤ 63 ∧ ∀ H', Q (.bl true) H'
abbrev s_law : Stmt := top 26
theorem sc_law : FnScope ["_law_script", "_law_spot", "_law_spring_here", "_law_turn"] ["_law_script"] (defScope s_law) := ⟨rfl, rfl, rfl, by decide +kernel, rfl, by decide +kernel, by decide +kernel⟩
theorem ok_law {f fS fR : Addr} {fd fdS fdR : FuncData} (F : Fun K "law" "law" s_law f fd) (T : Txt K mg)
    (FS : FnOk P w K mg base CX0 1 fS fdS ["_law_script", "_law_spot"] (spSpring K)) (bS : Binds K fdS ["_law_script", "_law_spot"] []) (mS : mg "_law_spring" = some (.ref fS)) (kS : PySem.W.keepIn K (.ref fS) = true)
    (FR : FnG P w K mg base CX0 13 fR fdR ["_law_spring_here"] spRight) (bR : Binds K fdR ["_law_spring_here"] []) (mR : mg "_law_right" = some (.ref fR)) (kR : PySem.W.keepIn K (.ref fR) = true) : FnG P w K mg base CX0 15 f fd ["_law_script"] (spLaw K) := by
  refine G.Fun.okG F sc_law (fun vs H Q E h => ?_) (fun cdv A outer s H vs Q E hg hr h => ?_)
  · obtain ⟨a, ns, rfl, _⟩ := h
    rfl
  · obtain ⟨a, ns, rfl, hs, hl, k⟩ := h
    refine ⟨_, pb, ?_⟩
    have l0 : Sl (cxOf CX0 P w K mg base ["_law_script", "_law_spot", "_law_spring_here", "_law_turn"] "law" (defScope s_law) f cdv A outer s H E).nox 0 "_law_script" := ⟨rfl, .inl rfl, by decide, by decide⟩
    have w0 : Sw (cxOf CX0 P w K mg base ["_law_script", "_law_spot", "_law_spring_here", "_law_turn"] "law" (defScope s_law) f cdv A outer s H E).nox 0 "_law_script" := ⟨rfl, .inl rfl, .inl rfl, sc_law.nd⟩
    have k0 : Sk (cxOf CX0 P w K mg base ["_law_script", "_law_spot", "_law_spring_here", "_law_turn"] "law" (defScope s_law) f cdv A outer s H E).nox "_law_script" := ⟨rfl⟩
    have l1 : Sl (cxOf CX0 P w K mg base ["_law_script", "_law_spot", "_law_spring_here", "_law_turn"] "law" (defScope s_law) f cdv A outer s H E).nox 1 "_law_spot" := ⟨rfl, .inl rfl, by decide, by decide⟩
    have w1 : Sw (cxOf CX0 P w K mg base ["_law_script", "_law_spot", "_law_spring_here", "_law_turn"] "law" (defScope s_law) f cdv A outer s H E).nox 1 "_law_spot" := ⟨rfl, .inl rfl, .inl rfl, sc_law.nd⟩
    have k1 : Sk (cxOf CX0 P w K mg base ["_law_script", "_law_spot", "_law_spring_here", "_law_turn"] "law" (defScope s_law) f cdv A outer s H E).nox "_law_spot" := ⟨rfl⟩
    have l2 : Sl (cxOf CX0 P w K mg base ["_law_script", "_law_spot", "_law_spring_here", "_law_turn"] "law" (defScope s_law) f cdv A outer s H E).nox 2 "_law_spring_here" := ⟨rfl, .inr (.inl rfl), by decide, by decide⟩
    have w2 : Sw (cxOf CX0 P w K mg base ["_law_script", "_law_spot", "_law_spring_here", "_law_turn"] "law" (defScope s_law) f cdv A outer s H E).nox 2 "_law_spring_here" := ⟨rfl, .inr rfl, .inl rfl, sc_law.nd⟩
    have v_range_ : Bn (cxOf CX0 P w K mg base ["_law_script", "_law_spot", "_law_spring_here", "_law_turn"] "law" (defScope s_law) f cdv A outer s H E).nox "range" (.type "range") := ⟨rfl, T.«range», by decide +kernel, by decide, by decide⟩
    have b_max_ : Fn (cxOf CX0 P w K mg base ["_law_script", "_law_spot", "_law_spring_here", "_law_turn"] "law" (defScope s_law) f cdv A outer s H E).nox "max" rMax2 := b_max rfl ⟨rfl, T.«max», by decide +kernel, by decide, by decide⟩
    -- global _law_spring
    have b_min_ : Fn (cxOf CX0 P w K mg base ["_law_script", "_law_spot", "_law_spring_here", "_law_turn"] "law" (defScope s_law) f cdv A outer s H E).nox "min" rMin2 := b_min rfl ⟨rfl, T.«min», by decide +kernel, by decide, by decide⟩
    have b_all_ : Fn (cxOf CX0 P w K mg base ["_law_script", "_law_spot", "_law_spring_here", "_law_turn"] "law" (defScope s_law) f cdv A outer s H E).nox "all" (rAll K) := b_all rfl ⟨rfl, T.«all», by decide +kernel, by decide, by decide⟩
    have b_len_ : Fn (cxOf CX0 P w K mg base ["_law_script", "_law_spot", "_law_spring_here", "_law_turn"] "law" (defScope s_law) f cdv A outer s H E).nox "len" (rLen ((cxOf CX0 P w K mg base ["_law_script", "_law_spot", "_law_spring_here", "_law_turn"] "law" (defScope s_law) f cdv A outer s H E).nox).K) := b_len ⟨rfl, T.«len», by decide +kernel, by decide, by decide⟩
    -- global _law_right
    have kK_ : ((cxOf CX0 P w K mg base ["_law_script", "_law_spot", "_law_spring_here", "_law_turn"] "law" (defScope s_law) f cdv A outer s H E).nox).K = K := rfl
    have c1_ : Fn (cxOf CX0 P w K mg base ["_law_script", "_law_spot", "_law_spring_here", "_law_turn"] "law" (defScope s_law) f cdv A outer s H E).nox "_law_spring" (fun vs H Q => spSpring K (vs ++ []) H Q E0) := fn_own (cr_fn FS (hr.mono (by decide)) bS .nil pass0) rfl mS kS (by decide)
    have e2_ : Cal (cxOf CX0 P w K mg base ["_law_script", "_law_spot", "_law_spring_here", "_law_turn"] "law" (defScope s_law) f cdv A outer s H E).nox (.ref fR) (fun vs H Q => spRight (vs ++ []) H Q E0) := cal_fnG FR hg (hr.mono (by decide)) bR .nil
    have mR_ : ((cxOf CX0 P w K mg base ["_law_script", "_law_spot", "_law_spring_here", "_law_turn"] "law" (defScope s_law) f cdv A outer s H E).nox).mg "_law_right" = some (.ref fR) := mR
    have kR_ : PySem.W.keepIn ((cxOf CX0 P w K mg base ["_law_script", "_law_spot", "_law_spring_here", "_law_turn"] "law" (defScope s_law) f cdv A outer s H E).nox).K (.ref fR) = true := kR
    have hs_ : SqL ((cxOf CX0 P w K mg base ["_law_script", "_law_spot", "_law_spring_here", "_law_turn"] "law" (defScope s_law) f cdv A outer s H E).nox).K H a (ns.map V.int) := hs
    have po_ : PassesOwn (model (cxOf CX0 P w K mg base ["_law_script", "_law_spot", "_law_spring_here", "_law_turn"] "law" (defScope s_law) f cdv A outer s H E).nox.prog (cxOf CX0 P w K mg base ["_law_script", "_law_spot", "_law_spring_here", "_law_turn"] "law" (defScope s_law) f cdv A outer s H E).nox.w) (cxOf CX0 P w K mg base ["_law_script", "_law_spot", "_law_spring_here", "_law_turn"] "law" (defScope s_law) f cdv A outer s H E).nox.A (cxOf CX0 P w K mg base ["_law_script", "_law_spot", "_law_spring_here", "_law_turn"] "law" (defScope s_law) f cdv A outer s H E).nox.env (cxOf CX0 P w K mg base ["_law_script", "_law_spot", "_law_spring_here", "_law_turn"] "law" (defScope s_law) f cdv A outer s H E).nox.xe := PassesOwn.never
    have cm_ : (cxOf CX0 P w K mg base ["_law_script", "_law_spot", "_law_spring_here", "_law_turn"] "law" (defScope s_law) f cdv A outer s H E).nox.calm = true := rfl
    have hsc_ : (cxOf CX0 P w K mg base ["_law_script", "_law_spot", "_law_spring_here", "_law_turn"] "law" (defScope s_law) f cdv A outer s H E).nox.env.scope = defScope s_law := rfl
    have hN_ : (cxOf CX0 P w K mg base ["_law_script", "_law_spot", "_law_spring_here", "_law_turn"] "law" (defScope s_law) f cdv A outer s H E).nox.N = (["_law_script", "_law_spot", "_law_spring_here", "_law_turn"] : List Str) := rfl
    generalize (cxOf CX0 P w K mg base ["_law_script", "_law_spot", "_law_spring_here", "_law_turn"] "law" (defScope s_law) f cdv A outer s H E).nox = X at *
    change Gb _ _ _ [some _, none, none, none] _
    first | refine b_one ?_ | refine b_cons ?_
    refine s_forR po_ cm_ v_range_ (by rfl) w1 ?_
    walk_at "go"
    refine r_lenL' hs_ ?_
    walk_at "go"
    rw [List.length_map]
    refine ⟨by split <;> split <;> omega, by split <;> split <;> omega, fun i' σ H' => SqL X.K H' a (ns.map V.int) ∧ ∃ o o2, σ = [some (.ref a), o, o2, none], ⟨hs_, _, _, rfl⟩, ?_, ?_⟩
    · rintro i σ H1 hi ⟨h1, o, o2, rfl⟩
      show Gb X _ _ [some (.ref a), some (.int i), o2, none] _
      walk_at "go"
      refine ⟨a, ns, i, rfl, by rw [← kK_]; exact h1, by omega, by split at hi <;> split at hi <;> omega, fun p H2 n2 e2 sp2 => ?_⟩
      walk_at "gon"
      refine s_if (t_not (t_val ?tv ?_))
      case tv => intro _; rfl
      walk_at "gon"
      refine e_lcw (own := [("_law_turn", 3)]) (j := 3) cm_ w0.nd ?ok ?hf ?hw ?hj ?_
      case ok => rw [hN_, hsc_]; exact blkOk_by (by decide +kernel)
      case hf => intro _; rfl
      case hw => exact fun Z hZ => sw_blk hZ hsc_ hN_ rfl rfl sc_law.nd
      case hj => exact fun _ => rfl
      refine i_rng1 v_range_ rfl ?_
      walk_at "go"
      refine ⟨by decide, by decide, 3, _, _, walk_range, fun D nD => ?_⟩
      have nDp : p ≠ D := ne_of_none (sp2.choose_spec.choose_spec.choose_spec.1) nD
      refine ⟨fun i H' => H' D = some (.lst (List.replicate i (.bl true))) ∧ Spr H' p ∧ ExB p H2 H', ⟨upd_same, sp2.go (Ex.new nD), (Ex.new nD).b⟩, fun _ _ _ _ => trivial, ?_, ?_⟩
      · rintro j v H3 H4 hj ⟨g1, g2, g3⟩ ⟨rfl, rfl⟩ Z hZ
        have m2 : Sl Z 2 "_law_spring_here" := sl_blk hZ hsc_ hN_ rfl (.inr (.inl rfl)) (by decide) (by decide)
        have z_ : Fn Z "_law_right" (fun vs H Q => spRight (vs ++ []) H Q E0) := e2_.at hZ.like (gl_blk hZ hsc_ rfl) mR_ kR_ (by decide)
        walk_at "go"
        refine ⟨p, rfl, g2, fun H5 e5 sp5 => ⟨_, e5 _ _ nDp.symm g1, lenJ hj, ?_, ?_, ?_⟩⟩
        · rw [upd_same, List.replicate_succ']
        · obtain ⟨a', b', c', q, r⟩ := sp5
          exact ⟨a', b', c', by rw [upd_ne nDp]; exact q, r⟩
        · intro c o nc hc
          rw [upd_ne (ne_of_none hc nD)]
          exact e5 _ _ nc (g3 _ _ nc hc)
      · rintro H3 ⟨g1, g2, g3⟩
        walk_at "go"
        refine r_all (bs := [true, true, true]) g1 ?_
        walk_at "go"
        refine cTe (by rfl) ?_
        walk_at "go"
        exact ⟨G.SqL.goB h1 n2 e2 g3, _, _, rfl⟩
    · rintro σ H1 ⟨h1, o, o2, rfl⟩
      walk_at "go"
      exact k _
end
theorem all_mk {l : PySem.W.OpenLaw} {w : World} {K : PySem.W.Frag} {h : Heap} {mg : Str → Option Value} {fa : Addr} (X : K.In h) (G0 : h.Ns mainGlobals mg) (hfa : mg "law" = some (.ref fa))
    {C : Addr} {f1 : Addr} {od1 an1 : Option Addr} {sl1 : Array (Option Value)} {oc1 kV1 dc1 pm1 cd1 ct1 : Value} {f2 : Addr} {od2 an2 : Option Addr} {sl2 : Array (Option Value)} {oc2 kV2 dc2 pm2 cd2 ct2 : Value} {f3 : Addr} {od3 an3 : Option Addr} {sl3 : Array (Option Value)} {oc3 kV3 dc3 pm3 cd3 ct3 : Value} {f4 : Addr} {od4 an4 : Option Addr} {sl4 : Array (Option Value)} {oc4 kV4 dc4 pm4 cd4 ct4 : Value} {f5 : Addr} {od5 an5 : Option Addr} {sl5 : Array (Option Value)} {oc5 kV5 dc5 pm5 cd5 ct5 : Value} {f6 : Addr} {od6 an6 : Option Addr} {sl6 : Array (Option Value)} {oc6 kV6 dc6 pm6 cd6 ct6 : Value} {f7 : Addr} {od7 an7 : Option Addr} {sl7 : Array (Option Value)} {oc7 kV7 dc7 pm7 cd7 ct7 : Value} {f8 : Addr} {od8 an8 : Option Addr} {sl8 : Array (Option Value)} {oc8 kV8 dc8 pm8 cd8 ct8 : Value} {f9 : Addr} {od9 an9 : Option Addr} {sl9 : Array (Option Value)} {oc9 kV9 dc9 pm9 cd9 ct9 : Value} {f10 : Addr} {od10 an10 : Option Addr} {sl10 : Array (Option Value)} {oc10 kV10 dc10 pm10 cd10 ct10 : Value} {f11 : Addr} {od11 an11 : Option Addr} {sl11 : Array (Option Value)} {oc11 kV11 dc11 pm11 cd11 ct11 : Value} {f12 : Addr} {od12 an12 : Option Addr} {sl12 : Array (Option Value)} {oc12 kV12 dc12 pm12 cd12 ct12 : Value} {f13 : Addr} {od13 an13 : Option Addr} {sl13 : Array (Option Value)} {oc13 kV13 dc13 pm13 cd13 ct13 : Value} {T : Addr} {oT : Value} {dT : Option Addr} {sT : Array (Option Value)} {nT' : Nat} {tT : Tok} {f20 : Addr} {od20 an20 : Option Addr} {sl20 : Array (Option Value)} {oc20 dc20 pm20 cd20 ct20 : Value} {f21 : Addr} {od21 an21 : Option Addr} {sl21 : Array (Option Value)} {oc21 kV21 dc21 pm21 cd21 ct21 : Value} {f22 : Addr} {od22 an22 : Option Addr} {sl22 : Array (Option Value)} {oc22 kV22 dc22 pm22 cd22 ct22 : Value} {f23 : Addr} {od23 an23 : Option Addr} {sl23 : Array (Option Value)} {oc23 kV23 dc23 pm23 cd23 ct23 : Value} {p24 f24 : Addr} {r24 : List Value} {od24 an24 : Option Addr} {sl24 : Array (Option Value)} {oc24 kV24 dc24 pm24 cd24 ct24 : Value} {mc : Value} {p25 f25 : Addr} {r25 : List Value} {od25 an25 : Option Addr} {sl25 : Array (Option Value)} {oc25 kV25 dc25 pm25 cd25 ct25 : Value}
    (aC : PySem.W.nsIn K mainGlobals "Number" = some (some (.ref C)))
    (pgC : PySem.W.plainGet K C Str.empty = true)
    (hdC : PySem.W.hasDictIn K C = true)
    (poC : PySem.W.plainOver K C = true)
    (saC : PySem.W.findIn K (.ref C) "__setattr__" = some (some (.builtin "object.__setattr__")))
    (mkC : PySem.W.makesIn K C = true)
    (kcC : PySem.W.keepIn K (.ref C) = true)
    (nT : PySem.W.findIn K (.ref C) "top" = some none)
    (nB : PySem.W.findIn K (.ref C) "bottom" = some none)
    (ca : PySem.W.findIn K (.ref C) "__class__" = some (some (.builtin "object.__class__")))
    (cn : PySem.W.specialIn K (.builtin "object.__class__") "__get__" = some (some (.builtin "getset_descriptor.__get__")))
    (ct : PySem.W.takesIn K (.builtin "object.__class__") = some true)
    (cm : PySem.W.mroIn K C (.type "object") = some true)
    (ne : PySem.W.findIn K (.ref C) "__ne__" = some (some (.builtin "object.__ne__")))
    (fm : PySem.W.findIn K (.ref C) "__format__" = some (some (.builtin "object.__format__")))
    (kfI : PySem.W.kitOne K (.type "int") (.ref C) = some false)
    (nfI : PySem.W.notFirst K C (.type "int") = true)
    (kfS : PySem.W.kitOne K (.type "str") (.ref C) = some false)
    (nfS : PySem.W.notFirst K C (.type "str") = true)
    (kfT : PySem.W.kitOne K (.type "tuple") (.ref C) = some false)
    (nfT : PySem.W.notFirst K C (.type "tuple") = true)
    (kfN : PySem.W.kitOne K (.type "NoneType") (.ref C) = some false)
    (nfN : PySem.W.notFirst K C (.type "NoneType") = true)
    (a1 : PySem.W.nsIn K mainGlobals "is_integer" = some (some (.ref f1)))
    (l1 : K.lookup f1 = some ⟨oc1, od1, .func (PySem.W.fnOf "is_integer" "is_integer" (defArgs s_is_integer) (defBody s_is_integer) (defScope s_is_integer) .none kV1 dc1 pm1 an1 cd1 ct1), sl1⟩)
    (c1 : PySem.W.codeIn K cd1 "is_integer" = true)
    (k1 : PySem.W.keepIn K (.ref f1) = true)
    (a2 : PySem.W.nsIn K mainGlobals "common_divisor" = some (some (.ref f2)))
    (l2 : K.lookup f2 = some ⟨oc2, od2, .func (PySem.W.fnOf "common_divisor" "common_divisor" (defArgs s_common_divisor) (defBody s_common_divisor) (defScope s_common_divisor) .none kV2 dc2 pm2 an2 cd2 ct2), sl2⟩)
    (c2 : PySem.W.codeIn K cd2 "common_divisor" = true)
    (k2 : PySem.W.keepIn K (.ref f2) = true)
    (a3 : PySem.W.nsIn K mainGlobals "number_in" = some (some (.ref f3)))
    (l3 : K.lookup f3 = some ⟨oc3, od3, .func (PySem.W.fnOf "number_in" "number_in" (defArgs s_number_in) (defBody s_number_in) (defScope s_number_in) .none kV3 dc3 pm3 an3 cd3 ct3), sl3⟩)
    (c3 : PySem.W.codeIn K cd3 "number_in" = true)
    (k3 : PySem.W.keepIn K (.ref f3) = true)
    (a4 : PySem.W.nsIn K mainGlobals "_law_spring" = some (some (.ref f4)))
    (l4 : K.lookup f4 = some ⟨oc4, od4, .func (PySem.W.fnOf "_law_spring" "_law_spring" (defArgs s_l_spring) (defBody s_l_spring) (defScope s_l_spring) .none kV4 dc4 pm4 an4 cd4 ct4), sl4⟩)
    (c4 : PySem.W.codeIn K cd4 "_law_spring" = true)
    (k4 : PySem.W.keepIn K (.ref f4) = true)
    (a5 : PySem.W.nsIn K mainGlobals "_law_next" = some (some (.ref f5)))
    (l5 : K.lookup f5 = some ⟨oc5, od5, .func (PySem.W.fnOf "_law_next" "_law_next" (defArgs s_l_next) (defBody s_l_next) (defScope s_l_next) .none kV5 dc5 pm5 an5 cd5 ct5), sl5⟩)
    (c5 : PySem.W.codeIn K cd5 "_law_next" = true)
    (k5 : PySem.W.keepIn K (.ref f5) = true)
    (a6 : PySem.W.nsIn K mainGlobals "_law_one" = some (some (.ref f6)))
    (l6 : K.lookup f6 = some ⟨oc6, od6, .func (PySem.W.fnOf "_law_one" "_law_one" (defArgs s_l_one) (defBody s_l_one) (defScope s_l_one) .none kV6 dc6 pm6 an6 cd6 ct6), sl6⟩)
    (c6 : PySem.W.codeIn K cd6 "_law_one" = true)
    (k6 : PySem.W.keepIn K (.ref f6) = true)
    (a7 : PySem.W.nsIn K mainGlobals "_law_low" = some (some (.ref f7)))
    (l7 : K.lookup f7 = some ⟨oc7, od7, .func (PySem.W.fnOf "_law_low" "_law_low" (defArgs s_l_low) (defBody s_l_low) (defScope s_l_low) .none kV7 dc7 pm7 an7 cd7 ct7), sl7⟩)
    (c7 : PySem.W.codeIn K cd7 "_law_low" = true)
    (k7 : PySem.W.keepIn K (.ref f7) = true)
    (a8 : PySem.W.nsIn K mainGlobals "_law_written" = some (some (.ref f8)))
    (l8 : K.lookup f8 = some ⟨oc8, od8, .func (PySem.W.fnOf "_law_written" "_law_written" (defArgs s_l_written) (defBody s_l_written) (defScope s_l_written) .none kV8 dc8 pm8 an8 cd8 ct8), sl8⟩)
    (c8 : PySem.W.codeIn K cd8 "_law_written" = true)
    (k8 : PySem.W.keepIn K (.ref f8) = true)
    (a9 : PySem.W.nsIn K mainGlobals "_law_parts" = some (some (.ref f9)))
    (l9 : K.lookup f9 = some ⟨oc9, od9, .func (PySem.W.fnOf "_law_parts" "_law_parts" (defArgs s_l_parts) (defBody s_l_parts) (defScope s_l_parts) .none kV9 dc9 pm9 an9 cd9 ct9), sl9⟩)
    (c9 : PySem.W.codeIn K cd9 "_law_parts" = true)
    (k9 : PySem.W.keepIn K (.ref f9) = true)
    (a10 : PySem.W.nsIn K mainGlobals "_law_seen" = some (some (.ref f10)))
    (l10 : K.lookup f10 = some ⟨oc10, od10, .func (PySem.W.fnOf "_law_seen" "_law_seen" (defArgs s_l_seen) (defBody s_l_seen) (defScope s_l_seen) .none kV10 dc10 pm10 an10 cd10 ct10), sl10⟩)
    (c10 : PySem.W.codeIn K cd10 "_law_seen" = true)
    (k10 : PySem.W.keepIn K (.ref f10) = true)
    (a11 : PySem.W.nsIn K mainGlobals "_law_due" = some (some (.ref f11)))
    (l11 : K.lookup f11 = some ⟨oc11, od11, .func (PySem.W.fnOf "_law_due" "_law_due" (defArgs s_l_due) (defBody s_l_due) (defScope s_l_due) .none kV11 dc11 pm11 an11 cd11 ct11), sl11⟩)
    (c11 : PySem.W.codeIn K cd11 "_law_due" = true)
    (k11 : PySem.W.keepIn K (.ref f11) = true)
    (a12 : PySem.W.nsIn K mainGlobals "_law_right" = some (some (.ref f12)))
    (l12 : K.lookup f12 = some ⟨oc12, od12, .func (PySem.W.fnOf "_law_right" "_law_right" (defArgs s_l_right) (defBody s_l_right) (defScope s_l_right) .none kV12 dc12 pm12 an12 cd12 ct12), sl12⟩)
    (c12 : PySem.W.codeIn K cd12 "_law_right" = true)
    (k12 : PySem.W.keepIn K (.ref f12) = true)
    (a13 : PySem.W.nsIn K mainGlobals "law" = some (some (.ref f13)))
    (l13 : K.lookup f13 = some ⟨oc13, od13, .func (PySem.W.fnOf "law" "law" (defArgs s_law) (defBody s_law) (defScope s_law) .none kV13 dc13 pm13 an13 cd13 ct13), sl13⟩)
    (c13 : PySem.W.codeIn K cd13 "law" = true)
    (k13 : PySem.W.keepIn K (.ref f13) = true)
    (a20 : PySem.W.findIn K (.ref C) "__init__" = some (some (.ref f20)))
    (i20 : PySem.W.isFn K (.ref f20) = true)
    (l20 : K.lookup f20 = some ⟨oc20, od20, .func (PySem.W.fnOf "__init__" "Number.__init__" (defArgs s_Number_init) (defBody s_Number_init) (defScope s_Number_init) (.ref T) .none dc20 pm20 an20 cd20 ct20), sl20⟩)
    (c20 : PySem.W.codeIn K cd20 "Number.__init__" = true)
    (k20 : PySem.W.keepIn K (.ref f20) = true)
    (lT : K.lookup T = some ⟨oT, dT, .seq #[.int 1 tT] nT', sT⟩)
    (a21 : PySem.W.findIn K (.ref C) "__eq__" = some (some (.ref f21)))
    (i21 : PySem.W.isFn K (.ref f21) = true)
    (l21 : K.lookup f21 = some ⟨oc21, od21, .func (PySem.W.fnOf "__eq__" "Number.__eq__" (defArgs s_Number_eq) (defBody s_Number_eq) (defScope s_Number_eq) .none kV21 dc21 pm21 an21 cd21 ct21), sl21⟩)
    (c21 : PySem.W.codeIn K cd21 "Number.__eq__" = true)
    (k21 : PySem.W.keepIn K (.ref f21) = true)
    (a22 : PySem.W.findIn K (.ref C) "__str__" = some (some (.ref f22)))
    (i22 : PySem.W.isFn K (.ref f22) = true)
    (l22 : K.lookup f22 = some ⟨oc22, od22, .func (PySem.W.fnOf "__str__" "Number.__str__" (defArgs s_Number_str) (defBody s_Number_str) (defScope s_Number_str) .none kV22 dc22 pm22 an22 cd22 ct22), sl22⟩)
    (c22 : PySem.W.codeIn K cd22 "Number.__str__" = true)
    (k22 : PySem.W.keepIn K (.ref f22) = true)
    (a23 : PySem.W.findIn K (.ref C) "__repr__" = some (some (.ref f23)))
    (i23 : PySem.W.isFn K (.ref f23) = true)
    (l23 : K.lookup f23 = some ⟨oc23, od23, .func (PySem.W.fnOf "__repr__" "Number.__repr__" (defArgs s_Number_repr) (defBody s_Number_repr) (defScope s_Number_repr) .none kV23 dc23 pm23 an23 cd23 ct23), sl23⟩)
    (c23 : PySem.W.codeIn K cd23 "Number.__repr__" = true)
    (k23 : PySem.W.keepIn K (.ref f23) = true)
    (a24 : PySem.W.findIn K (.ref C) "sign" = some (some (.ref p24)))
    (g24 : PySem.W.specialIn K (.ref p24) "__get__" = some (some (.builtin "property.__get__")))
    (t24 : PySem.W.takesIn K (.ref p24) = some true)
    (r24' : PySem.W.recIn K p24 "property" = some (.ref f24 :: r24))
    (l24 : K.lookup f24 = some ⟨oc24, od24, .func (PySem.W.fnOf "sign" "Number.sign" (defArgs s_Number_sign) (defBody s_Number_sign) (defScope s_Number_sign) .none kV24 dc24 pm24 an24 cd24 ct24), sl24⟩)
    (c24 : PySem.W.codeIn K cd24 "Number.sign" = true)
    (k24 : PySem.W.keepIn K (.ref f24) = true)
    (ty : PySem.W.typeIn K (.ref C) = some mc)
    (rd : PySem.W.readsIn K C mc = true)
    (ga : PySem.W.specialIn K (.ref C) "__getattribute__" = some (some (.builtin "type.__getattribute__")))
    (a25 : PySem.W.findCls K (.ref C) mc "read" = some (.get (.builtin "staticmethod.__get__") (.ref p25) .none (.ref C)))
    (r25' : PySem.W.recIn K p25 "staticmethod" = some (.ref f25 :: r25))
    (l25 : K.lookup f25 = some ⟨oc25, od25, .func (PySem.W.fnOf "read" "Number.read" (defArgs s_Number_read) (defBody s_Number_read) (defScope s_Number_read) .none kV25 dc25 pm25 an25 cd25 ct25), sl25⟩)
    (c25 : PySem.W.codeIn K cd25 "Number.read" = true)
    (k25 : PySem.W.keepIn K (.ref f25) = true)
    (zint : PySem.W.nsIn K mainGlobals "int" = some none)
    (zbool : PySem.W.nsIn K mainGlobals "bool" = some none)
    (zstr : PySem.W.nsIn K mainGlobals "str" = some none)
    (zrepr : PySem.W.nsIn K mainGlobals "repr" = some none)
    (zisinstance : PySem.W.nsIn K mainGlobals "isinstance" = some none)
    (zabs : PySem.W.nsIn K mainGlobals "abs" = some none)
    (zmax : PySem.W.nsIn K mainGlobals "max" = some none)
    (zmin : PySem.W.nsIn K mainGlobals "min" = some none)
    (zlen : PySem.W.nsIn K mainGlobals "len" = some none)
    (zrange : PySem.W.nsIn K mainGlobals "range" = some none)
    (zall : PySem.W.nsIn K mainGlobals "all" = some none) :
    ∃ fd : FuncData, (∀ (s : Shared) (v : Value), BindsTo s fd ⟨[v], []⟩ [("_law_script", v)]) ∧ ∀ base : Heap, K.In base → base.Ns mainGlobals mg → FnG l.prog w K mg base CX0 15 fa fd ["_law_script"] (spLaw K) := by
  have e := hfa.symm.trans (PySem.W.mg_of X G0 a13)
  cases e
  have T0 : Txt K mg := ⟨PySem.W.mg_none_of X G0 zint, PySem.W.mg_none_of X G0 zbool, PySem.W.mg_none_of X G0 zstr, PySem.W.mg_none_of X G0 zrepr, PySem.W.mg_none_of X G0 zisinstance, PySem.W.mg_none_of X G0 zabs, PySem.W.mg_none_of X G0 zmax, PySem.W.mg_none_of X G0 zmin, PySem.W.mg_none_of X G0 zlen, PySem.W.mg_none_of X G0 zrange, PySem.W.mg_none_of X G0 zall⟩
  have N : NmT K mg C := ⟨⟨pgC, hdC, poC, saC⟩, nT, nB, PySem.W.mg_of X G0 aC, ca, cn, ct, cm⟩
  have F1 := fun_mk (st := s_is_integer) l1 c1 k1
  have b1 := F1.binds (ps := ["value"]) fun _ _ _ _ _ _ us hl => match us, hl with | [_], _ => rfl
  have F2 := fun_mk (st := s_common_divisor) l2 c2 k2
  have b2 := F2.binds (ps := ["one", "other"]) fun _ _ _ _ _ _ us hl => match us, hl with | [_, _], _ => rfl
  have F3 := fun_mk (st := s_number_in) l3 c3 k3
  have b3 := F3.binds (ps := ["text"]) fun _ _ _ _ _ _ us hl => match us, hl with | [_], _ => rfl
  have F4 := fun_mk (st := s_l_spring) l4 c4 k4
  have b4 := F4.binds (ps := ["_law_script", "_law_spot"]) fun _ _ _ _ _ _ us hl => match us, hl with | [_, _], _ => rfl
  have F5 := fun_mk (st := s_l_next) l5 c5 k5
  have b5 := F5.binds (ps := ["_law_spring_here", "_law_many"]) fun _ _ _ _ _ _ us hl => match us, hl with | [_, _], _ => rfl
  have F6 := fun_mk (st := s_l_one) l6 c6 k6
  have b6 := F6.binds (ps := ["_law_spring_here", "_law_things"]) fun _ _ _ _ _ _ us hl => match us, hl with | [_, _], _ => rfl
  have F7 := fun_mk (st := s_l_low) l7 c7 k7
  have b7 := F7.binds (ps := ["_law_head", "_law_base"]) fun _ _ _ _ _ _ us hl => match us, hl with | [_, _], _ => rfl
  have F8 := fun_mk (st := s_l_written) l8 c8 k8
  have b8 := F8.binds (ps := ["_law_pair"]) fun _ _ _ _ _ _ us hl => match us, hl with | [_], _ => rfl
  have F9 := fun_mk (st := s_l_parts) l9 c9 k9
  have b9 := F9.binds (ps := ["_law_spring_here"]) fun _ _ _ _ _ _ us hl => match us, hl with | [_], _ => rfl
  have F10 := fun_mk (st := s_l_seen) l10 c10 k10
  have b10 := F10.binds (ps := ["_law_number"]) fun _ _ _ _ _ _ us hl => match us, hl with | [_], _ => rfl
  have F11 := fun_mk (st := s_l_due) l11 c11 k11
  have b11 := F11.binds (ps := ["_law_pair"]) fun _ _ _ _ _ _ us hl => match us, hl with | [_], _ => rfl
  have F12 := fun_mk (st := s_l_right) l12 c12 k12
  have b12 := F12.binds (ps := ["_law_spring_here"]) fun _ _ _ _ _ _ us hl => match us, hl with | [_], _ => rfl
  have F13 := fun_mk (st := s_law) l13 c13 k13
  have F21 := fun_mk (st := s_Number_eq) l21 c21 k21
  have b21 := F21.binds (ps := ["self", "other"]) fun _ _ _ _ _ _ us hl => match us, hl with | [_, _], _ => rfl
  have F22 := fun_mk (st := s_Number_str) l22 c22 k22
  have b22 := F22.binds (ps := ["self"]) fun _ _ _ _ _ _ us hl => match us, hl with | [_], _ => rfl
  have F23 := fun_mk (st := s_Number_repr) l23 c23 k23
  have b23 := F23.binds (ps := ["self"]) fun _ _ _ _ _ _ us hl => match us, hl with | [_], _ => rfl
  have F24 := fun_mk (st := s_Number_sign) l24 c24 k24
  have b24 := F24.binds (ps := ["self"]) fun _ _ _ _ _ _ us hl => match us, hl with | [_], _ => rfl
  have F25 := fun_mk (st := s_Number_read) l25 c25 k25
  have b25 := F25.binds (ps := ["text"]) fun _ _ _ _ _ _ us hl => match us, hl with | [_], _ => rfl
  have F20 : FunD K "__init__" "Number.__init__" (defArgs s_Number_init) (defBody s_Number_init) (defScope s_Number_init) [.int 1] [] f20 _ := ⟨⟨_, _, _, _, _, _, _, _, _, _, rfl, l20, c20, .inr ⟨by simp, T, _, _, _, rfl, lT, rfl, .cons ⟨_, rfl⟩ .nil⟩, .inl rfl⟩, k20⟩
  obtain ⟨ds3, v3, i3⟩ := F20.binds1 (ps := ["self", "top", "bottom"]) 3 1 (by simp) rfl fun _ _ _ _ _ _ _ us its h1 h2 => match us, its, h1, h2 with | [_, _, _], [_], _, _ => ⟨_, rfl, rfl⟩
  obtain rfl : ds3 = [] := by cases v3; rfl
  obtain ⟨ds2, v2, i2⟩ := F20.binds1 (ps := ["self", "top", "bottom"]) 2 0 (by simp) rfl fun _ _ _ _ _ _ _ us its h1 h2 => match us, its, h1, h2 with | [_, _], [_], _, _ => ⟨_, rfl, rfl⟩
  obtain ⟨itk, bk⟩ := F20.kbindsD (ps := ["self", "top", "bottom"]) 1 ["bottom", "top"] (fun us _ ws => us ++ ws.reverse) (by simp) (fun r1 _ r2 => r1.append r2.reverse) fun _ _ _ _ _ _ _ us its ws h1 h2 h3 => match us, its, ws, h1, h2, h3 with | [_], [_], [_, _], _, _, _ => ⟨_, rfl, rfl⟩
  have M : Mk K C f20 := ⟨mkC, a20, i20, kcC⟩
  have pr : PropOf K C "sign" p24 f24 := ⟨a24, g24, t24, ⟨_, r24'⟩⟩
  have sm : Smt K C "read" f25 := ⟨⟨mc, p25, r25, ty, rd, a25, r25'⟩, ga, k25⟩
  refine ⟨PySem.W.fnOf "law" "law" (defArgs s_law) (defBody s_law) (defScope s_law) .none kV13 dc13 pm13 an13 cd13 ct13, fun s v => .of_eq rfl, fun base _ _ => ?_⟩
  have m := fun {x : Str} {f : Addr} (a : PySem.W.nsIn K mainGlobals x = some (some (.ref f))) => PySem.W.mg_of X G0 a
  have K1 := ok_isi (P := l.prog) (w := w) (base := base) F1 T0
  have K2 := ok_gcd (P := l.prog) (w := w) (mg := mg) (base := base) F2
  have K20 := ok_ninit F20 T0 N K1 b1 (m a1) k1 K2 b2 (m a2) k2
  have K3 := ok_numin F3 T0 N (k := 2) kcC M K20 i3 i2 v2
  have K4 := ok_spring (P := l.prog) (w := w) (base := base) F4 T0
  have K5 := ok_next (P := l.prog) (w := w) (base := base) F5 T0
  have K6 := ok_one F6 T0 K5 b5 (m a5) k5
  have K7 := ok_low (P := l.prog) (w := w) (base := base) F7 T0
  have K8 := ok_written (P := l.prog) (w := w) (base := base) F8 T0
  have K9 := ok_parts F9 K5 b5 (m a5) k5 K6 b6 (m a6) k6
  have K21 := ok_neq (P := l.prog) (w := w) (base := base) F21 T0 N
  have K22 := ok_nstr (P := l.prog) (w := w) (base := base) F22 N
  have K23 := ok_nrepr F23 N K22 b22 a22 i22 fm
  have K24 := ok_nsign (P := l.prog) (w := w) (base := base) F24 N
  have K25 := ok_nread F25 T0 N K3 b3 (m a3) k3 K22 b22 a22 i22
  have K10 := ok_seen F10 T0 N K22 b22 a22 i22 K23 b23 a23 i23 pr K24 b24
  have K11 := ok_due F11 T0 K8 b8 (m a8) k8
  have K12 := ok_right F12 T0 N kcC K9 b9 (m a9) k9 K7 b7 (m a7) k7 K6 b6 (m a6) k6 K11 b11 (m a11) k11 M K20 i3 i2 v2 bk (fun _ _ _ => rfl) K10 b10 (m a10) k10 K22 b22 a22 i22 K25
    (fun s ws _ hl => match ws, hl with | [_], _ => .of_eq rfl) sm K21 b21 a21 i21 ne ⟨kfI, nfI⟩ ⟨kfS, nfS⟩ ⟨kfT, nfT⟩ ⟨kfN, nfN⟩
  exact ok_law F13 T0 K4 b4 (m a4) k4 K12 b12 (m a12) k12
end G
open PySem PySem.W PyProof.Rows
set_option maxRecDepth 100000 in
set_option maxHeartbeats 0 in
theorem PySem.Challenge.cw_delaynets_k01_numbers_made_holds : PySem.Challenge.rw_delaynets_k01_numbers_made.Holds := by
  w_on; o_law; k_head; (case hw => w_witness2)
  k_fill
  refine G.att_walk (l := PySem.Challenge.rw_delaynets_k01_numbers_made) (most := 63) (lvl := 15) (par := "_law_script") (T := fun _ => L2.CX0) (pr := fun w => G.spLaw _) rfl (by decide) rfl ⟨rfl, by decide, by decide⟩ (fun w h Y => PySem.W.kIn_of Y) ?F (fun _ _ a ns hl _ _ hS => ⟨a, ns, rfl, hS, hl, fun _ => rfl⟩) (fun _ _ _ _ _ z => z)
  case F =>
    intro w mg fa h KX G0 hmg
    refine' G.all_mk KX G0 hmg ?aC ?pgC ?hdC ?poC ?saC ?mkC ?kcC ?nT ?nB ?ca ?cn ?ct ?cm ?ne ?fm ?kfI ?nfI ?kfS ?nfS ?kfT ?nfT ?kfN ?nfN ?a1 ?l1 ?c1 ?k1 ?a2 ?l2 ?c2 ?k2 ?a3 ?l3 ?c3 ?k3 ?a4 ?l4 ?c4 ?k4 ?a5 ?l5 ?c5 ?k5 ?a6 ?l6 ?c6 ?k6 ?a7 ?l7 ?c7 ?k7 ?a8 ?l8 ?c8 ?k8 ?a9 ?l9 ?c9 ?k9 ?a10 ?l10 ?c10 ?k10 ?a11 ?l11 ?c11 ?k11 ?a12 ?l12 ?c12 ?k12 ?a13 ?l13 ?c13 ?k13 ?a20 ?i20 ?l20 ?c20 ?k20 ?lT ?a21 ?i21 ?l21 ?c21 ?k21 ?a22 ?i22 ?l22 ?c22 ?k22 ?a23 ?i23 ?l23 ?c23 ?k23 ?a24 ?g24 ?t24 ?r24' ?l24 ?c24 ?k24 ?ty ?rd ?ga ?a25 ?r25' ?l25 ?c25 ?k25 ?zint ?zbool ?zstr ?zrepr ?zisinstance ?zabs ?zmax ?zmin ?zlen ?zrange ?zall
    (case aC => k_is)
    (case pgC => k_is)
    (case hdC => k_is)
    (case poC => k_is)
    (case saC => k_is)
    (case mkC => k_is)
    (case kcC => k_is)
    (case nT => k_is)
    (case nB => k_is)
    (case ca => k_is)
    (case cn => k_is)
    (case ct => k_is)
    (case cm => k_is)
    (case ne => k_is)
    (case fm => k_is)
    (case kfI => kit_is)
    (case nfI => k_is)
    (case kfS => kit_is)
    (case nfS => k_is)
    (case kfT => kit_is)
    (case nfT => k_is)
    (case kfN => kit_is)
    (case nfN => k_is)
    (case a1 => k_is)
    (case l1 => k_is)
    (case c1 => k_is)
    (case k1 => k_is)
    (case a2 => k_is)
    (case l2 => k_is)
    (case c2 => k_is)
    (case k2 => k_is)
    (case a3 => k_is)
    (case l3 => k_is)
    (case c3 => k_is)
    (case k3 => k_is)
    (case a4 => k_is)
    (case l4 => k_is)
    (case c4 => k_is)
    (case k4 => k_is)
    (case a5 => k_is)
    (case l5 => k_is)
    (case c5 => k_is)
    (case k5 => k_is)
    (case a6 => k_is)
    (case l6 => k_is)
    (case c6 => k_is)
    (case k6 => k_is)
    (case a7 => k_is)
    (case l7 => k_is)
    (case c7 => k_is)
    (case k7 => k_is)
    (case a8 => k_is)
    (case l8 => k_is)
    (case c8 => k_is)
    (case k8 => k_is)
    (case a9 => k_is)
    (case l9 => k_is)
    (case c9 => k_is)
    (case k9 => k_is)
    (case a10 => k_is)
    (case l10 => k_is)
    (case c10 => k_is)
    (case k10 => k_is)
    (case a11 => k_is)
    (case l11 => k_is)
    (case c11 => k_is)
    (case k11 => k_is)
    (case a12 => k_is)
    (case l12 => k_is)
    (case c12 => k_is)
    (case k12 => k_is)
    (case a13 => k_is)
    (case l13 => k_is)
    (case c13 => k_is)
    (case k13 => k_is)
    (case a20 => k_is)
    (case i20 => k_is)
    (case l20 => k_is)
    (case c20 => k_is)
    (case k20 => k_is)
    (case lT => k_is)
    (case a21 => k_is)
    (case i21 => k_is)
    (case l21 => k_is)
    (case c21 => k_is)
    (case k21 => k_is)
    (case a22 => k_is)
    (case i22 => k_is)
    (case l22 => k_is)
    (case c22 => k_is)
    (case k22 => k_is)
    (case a23 => k_is)
    (case i23 => k_is)
    (case l23 => k_is)
    (case c23 => k_is)
    (case k23 => k_is)
    (case a24 => k_is)
    (case g24 => k_is)
    (case t24 => k_is)
    (case r24' => k_is)
    (case l24 => k_is)
    (case c24 => k_is)
    (case k24 => k_is)
    (case ty => k_is)
    (case rd => k_is)
    (case ga => k_is)
    (case a25 => k_is)
    (case r25' => k_is)
    (case l25 => k_is)
    (case c25 => k_is)
    (case k25 => k_is)
    (case zint => k_is)
    (case zbool => k_is)
    (case zstr => k_is)
    (case zrepr => k_is)
    (case zisinstance => k_is)
    (case zabs => k_is)
    (case zmax => k_is)
    (case zmin => k_is)
    (case zlen => k_is)
    (case zrange => k_is)
    (case zall => k_is)
