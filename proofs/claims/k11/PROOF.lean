import PyProof.Rows.All
import Wide.All
import OpenK.AllK
import Wide.FinOn
import KE.KStateDown
import Lean
import HandS.ForMost
import HandS.Exc
import HandS.ExcOwn
import HandS.ExcInit
import HandS.TryOnly
import HandS.Defaults
import HandS.IsInst
import HandS.FStr
import HandS.DictComp
import HandS.Flow
import HandS.Small
import HandS.HeadHook2
import HandS.HeadEnd
import HandS.WideBits
import HandS.Head0
import HandS.Head1
import HandS.Head2
import HandS.HeadHook1
import PySem.Challenge.RW_roomwhole_k11_cells
set_option Elab.async false
set_option linter.all false
set_option maxRecDepth 100000
set_option maxHeartbeats 4000000
namespace Rw
open PySem PySem.Spec PyProof.Rows L2

/-! ### what a body may lean on -/
abbrev Ky := Str × Option Str
inductive Src where
  | pos (i : Nat) | kw (j : Nat) | dfl (v : He.Dv)
structure Shp where
  key : Ky
  n : Nat
  ks : List Str
  plan : List Src
def nth : List V → Nat → V
  | [], _ => .non
  | x :: _, 0 => x
  | _ :: l, n + 1 => nth l n
theorem nth_at : ∀ (l : List V) (n : Nat), nth l n = l.getD n .non
  | [], n => by cases n <;> rfl
  | _ :: _, 0 => rfl
  | _ :: l, n + 1 => nth_at l n
def plug (K : PySem.W.Frag) (plan : List Src) (vs zs : List V) : List V := plan.map fun s => match s with
  | .pos i => nth vs i
  | .kw j => nth zs j
  | .dfl v => v.v K
def noW : WX := fun _ _ _ _ => False

/-- a def that stands behind the top keeps a promise, where no text is being shown -/
structure FnG (P : Program) (w : World) (K : PySem.W.Frag) (mg : Str → Option Value) (base : Heap) (k : Nat) (f : Addr) (fd : FuncData) (ps : List Str) (sp : Sp) : Prop where
  len : ∀ vs H Q E, sp vs H Q E → vs.length = ps.length
  run : ∀ (A : Around) (outer : List Env) (s : Shared) (H : Hp) (args : Args) (us : List Value) (vs : List V) (Q : VK) (E : XK), Room k A → A.guards = some [] →
    Env0 P w K mg base A outer s H → BindsTo s fd args (ps.zip us) → Vals vs us → sp vs H Q E → codeAny (model P w) A (.call (.ref f) args) (CR (L2.CX P w) outer P w H s Q E) s

/-- what the rules know: hot: within an except suite; top: in a def's own frame -/
structure Cn where
  hot : Bool
  top : Bool
  K : PySem.W.Frag
  fa : List He.Fa
  sh : List Shp
  Ph : Ky → Sp
  N : List Str
  sc : Scope
  fnn : Str → Bool
  W : WX
structure CalleeP (P : Program) (w : World) (L : PySem.W.Frag) (mg : Str → Option Value) (base : Heap) (K : PySem.W.Frag) (k : Nat) (s : Shp) (sp : Sp) : Prop where
  ex : ∃ (fd : FuncData) (ps : List Str) (g : List Value → List Value → List Value), FnG P w L mg base k (He.fAd K s.key) fd ps sp ∧ KBn L fd ps s.n s.ks g (plug K s.plan)
  kp : PySem.W.keepIn K (.ref (He.fAd K s.key)) = true
abbrev Callee (X : Cx) (K : PySem.W.Frag) (k : Nat) (s : Shp) (sp : Sp) : Prop := CalleeP X.prog X.w X.K X.mg X.base K k s sp
structure Bd (c : Cn) (X : Cx) : Prop where
  hK : X.K = c.K
  hN : X.N = c.N
  hsc : X.env.scope = c.sc
  nd : c.N.Nodup
  calm : c.hot = false → X.calm = true
  cold : c.hot = false → X.A.handled = none
  gu : X.A.guards = some []
  tk : Takes X c.W
  po : PassesOwn (model X.prog X.w) X.A X.env X.xe
  stk : c.top = true → X.stack = X.env :: X.outer ∧ X.env.frame = some X.env.locals ∧ X.ex = []
  un : X.A.units + 200 < cLine
  fns : c.hot = false → ∃ k, Room (k + 1) X.A ∧ ∀ s ∈ c.sh, Callee X c.K k s (c.Ph s.key)
  fo : ∀ f ∈ c.fa, f.ok c.K = true
  gx : ∃ h : Heap, c.K.In h ∧ h.Ns mainGlobals X.mg
  fn : ∀ x, c.fnn x = true → X.fn x = true
/-! ### the contexts within -/
def Cn.blk (c : Cn) (scope : Scope) : Cn := { c with top := false, sc := relS scope c.sc, fnn := fun x => scope.names.lookup x == some .cell, W := noW }
def Cn.tr (c : Cn) (W : WX) : Cn := { c with W := W }
def Cn.su (c : Cn) : Cn := { c with hot := true, W := noW }
theorem takes_no {X : Cx} (h : X.xe = fun _ _ => False) : Takes X noW := fun u s' x => by
  obtain ⟨_, _, _, _, _, _, _, _, _, _, _, _, _, _, _, _, z⟩ := x
  exact z.elim
theorem Bd.blk {c : Cn} {X : Cx} (b : Bd c X) (s : Shared) (H : Hp) (scope : Scope) (C : Addr) (cl : List (Str × Addr)) (fp : List Addr) :
    Bd (c.blk scope) (X.blk s H scope (compEnvC scope cl C X.env) fp) where
  hK := b.hK
  hN := b.hN
  hsc := by
    show relS scope X.env.scope = relS scope c.sc
    rw [b.hsc]
  nd := b.nd
  calm := b.calm
  cold := b.cold
  gu := b.gu
  tk := takes_no rfl
  po := PassesOwn.never
  stk := fun z => absurd z Bool.false_ne_true
  un := b.un
  fns := fun z => by
    obtain ⟨k, r, f⟩ := b.fns z
    exact ⟨k, r, fun s hs => ⟨(f s hs).ex, (f s hs).kp⟩⟩
  fo := b.fo
  gx := b.gx
  fn := fun _ z => z
theorem Bd.tr {c : Cn} {X : Cx} (b : Bd c X) {W : WX} {pn : List (Addr × Obj)} {xe : Value → Shared → Prop} (t : Takes (X.tr pn xe) W) (p : PassesOwn (model X.prog X.w) X.A X.env xe) : Bd (c.tr W) (X.tr pn xe) where
  hK := b.hK
  hN := b.hN
  hsc := b.hsc
  nd := b.nd
  calm := b.calm
  cold := b.cold
  gu := b.gu
  tk := t
  po := p
  stk := b.stk
  un := b.un
  fns := fun z => by
    obtain ⟨k, r, f⟩ := b.fns z
    exact ⟨k, r, fun s hs => ⟨(f s hs).ex, (f s hs).kp⟩⟩
  fo := b.fo
  gx := b.gx
  fn := b.fn
theorem Bd.su {c : Cn} {X : Cx} (b : Bd c X) (a : Addr) (pn : List (Addr × Obj)) : Bd c.su (X.suite a pn) where
  hK := b.hK
  hN := b.hN
  hsc := b.hsc
  nd := b.nd
  calm := fun z => absurd z.symm Bool.false_ne_true
  cold := fun z => absurd z.symm Bool.false_ne_true
  gu := b.gu
  tk := takes_no rfl
  po := PassesOwn.never
  stk := b.stk
  un := b.un
  fns := fun z => absurd z.symm Bool.false_ne_true
  fo := b.fo
  gx := b.gx
  fn := b.fn
/-! ### the judgements over all that is known -/
def GE (c : Cn) (e : Expr) (t : TE) : Prop := ∀ X, Bd c X → PE X e t
def GT (c : Cn) (e : Expr) (t : TT) : Prop := ∀ X, Bd c X → PT X e t
def GW (c : Cn) (e : Expr) (t : TT) : Prop := ∀ X, Bd c X → PW X e t
def GA (c : Cn) (es : List Expr) (t : TA) : Prop := ∀ X, Bd c X → PA X es t
def GK (c : Cn) (ks : List Keyword) (t : TA) : Prop := ∀ X, Bd c X → PK X ks t
def GS (c : Cn) (s : Stmt) (t : TS) : Prop := ∀ X, Bd c X → PS X s t
def GB (c : Cn) (ss : List Stmt) (t : TS) : Prop := ∀ X, Bd c X → PSs X ss t
def GG (c : Cn) (e : Expr) (t : TG) : Prop := ∀ X, Bd c X → PG X e t
def GGs (c : Cn) (es : List Expr) (t : TGs) : Prop := ∀ X, Bd c X → PGs X es t
def GI (c : Cn) (tg e : Expr) (t : TI) : Prop := ∀ X, Bd c X → PI X tg e t
def GO (c : Cn) (e : Option Expr) (t : TO) : Prop := ∀ X, Bd c X → PO X e t
def GTs (c : Cn) (es : List Expr) (t : TT) : Prop := ∀ X, Bd c X → PTs X es t
/-- what holds of an operation in every context that is so -/
def OpG (c : Cn) (f : Value → Value → Sem Value) (r : R2) : Prop := ∀ X, Bd c X → OpR X f r
def CallG (c : Cn) (f : Value) (r : List V → Hp → VK → Prop) : Prop := ∀ X, Bd c X → CallR X f r
def MtG (c : Cn) (id : String) (r : V → List V → Hp → VK → Prop) : Prop := ∀ X, Bd c X → MtR X id r

section
variable {c : Cn} {a b e o : Expr} {es : List Expr} {ta tb tc te to : TE} {t u : TT} {ts us : TS} {pos apos p : Pos} {x : Str}
/-! ### names and constants -/
theorem gv (i : Nat) (hN : c.N[i]? = some x := by rfl) (hv : Vis c.sc x := by first | exact Or.inl rfl | exact Or.inr (Or.inl rfl) | exact Or.inr (Or.inr rfl)) (hd : (x == ("__debug__" : Str)) = false := by decide)
    (hcd : (x == ("__classdict__" : Str)) = false := by decide) : GE c (.Name x pos) (tVar i) := fun X h => by
  have q := h.hN
  have q2 := h.hsc
  exact pe_var (by rw [q]; exact hN) (by rw [q2]; exact hv) hd hcd
theorem gi {i : Int} {j} : GE c (.Constant (.int i) j pos) (tC (.int i)) := fun _ _ => pe_int
theorem gb {v : Bool} {j} : GE c (.Constant (.bool v) j pos) (tC (.bl v)) := fun _ _ => pe_bl
theorem gn {j} : GE c (.Constant .none j pos) (tC .non) := fun _ _ => pe_non
theorem gs {z : Str} {j} : GE c (.Constant (.str z) j pos) (tC (.str z)) := fun _ _ => pe_str
def GlN (c : Cn) (x : Str) : Prop := c.sc.names.lookup x = some .globalImplicit
theorem Bd.gln {X : Cx} (h : Bd c X) (g : GlN c x) : Gl X x := by
  show X.env.scope.names.lookup x = _
  rw [h.hsc]
  exact g
def hasF (p : He.Fa → Bool) (fa : List He.Fa) : Bool := fa.any p
theorem hasF_of {q : He.Fa → Bool} {fa : List He.Fa} (h : hasF q fa = true) : ∃ f ∈ fa, q f = true := List.any_eq_true.mp h
def isGlo (x : Str) : He.Fa → Bool
  | .glo y => decide (x = y)
  | _ => false
def isFree (x : Str) : He.Fa → Bool
  | .free y => decide (x = y)
  | _ => false
def isInt (x : Str) (i : Int) : He.Fa → Bool
  | .int y j => decide (x = y) && decide (i = j)
  | _ => false
def isStr (x z : Str) : He.Fa → Bool
  | .str y w => decide (x = y) && decide (z = w)
  | _ => false
def isCls (x : Str) : He.Fa → Bool
  | .cls y => decide (x = y)
  | _ => false
def isNoat (x f : Str) : He.Fa → Bool
  | .noat y g => decide (x = y) && decide (f = g)
  | _ => false
def isMeth (x f : Str) : He.Fa → Bool
  | .meth y g => decide (x = y) && decide (f = g)
  | _ => false
def isMkr (x : Str) : He.Fa → Bool
  | .mkr y => decide (x = y)
  | _ => false
theorem Bd.glo {X : Cx} (h : Bd c X) (g : hasF (isGlo x) c.fa = true) : X.mg x = some (.ref (He.ga c.K x)) := by
  obtain ⟨f, hf, e⟩ := hasF_of g
  have q := h.fo f hf
  cases f with
  | glo y =>
    have e : x = y := of_decide_eq_true e
    subst e
    obtain ⟨g, k1, k2⟩ := h.gx
    exact He.glo_ok k1 k2 q
  | _ => cases e
theorem Bd.free {X : Cx} (h : Bd c X) (g : hasF (isFree x) c.fa = true) : X.mg x = none := by
  obtain ⟨f, hf, e⟩ := hasF_of g
  have q := h.fo f hf
  cases f with
  | free y =>
    have e : x = y := of_decide_eq_true e
    subst e
    obtain ⟨g, k1, k2⟩ := h.gx
    exact He.free_ok k1 k2 q
  | _ => cases e
theorem Bd.int {X : Cx} {i : Int} (h : Bd c X) (g : hasF (isInt x i) c.fa = true) : ∃ t, X.mg x = some (.int i t) := by
  obtain ⟨f, hf, e⟩ := hasF_of g
  have q := h.fo f hf
  cases f with
  | int y j =>
    obtain ⟨e1, e2⟩ := He.ba e
    have e1 : x = y := of_decide_eq_true e1
    have e2 : i = j := of_decide_eq_true e2
    subst e1 e2
    obtain ⟨g, k1, k2⟩ := h.gx
    exact He.int_ok k1 k2 q
  | _ => cases e
theorem Bd.str {X : Cx} {z : Str} (h : Bd c X) (g : hasF (isStr x z) c.fa = true) : ∃ t, X.mg x = some (.str z t) := by
  obtain ⟨f, hf, e⟩ := hasF_of g
  have q := h.fo f hf
  cases f with
  | str y w =>
    obtain ⟨e1, e2⟩ := He.ba e
    have e1 : x = y := of_decide_eq_true e1
    have e2 : z = w := of_decide_eq_true e2
    subst e1 e2
    obtain ⟨g, k1, k2⟩ := h.gx
    exact He.str_ok k1 k2 q
  | _ => cases e
theorem Bd.cls {X : Cx} (h : Bd c X) (g : hasF (isCls x) c.fa = true) : Cls c.K (He.ga c.K x) := by
  obtain ⟨f, hf, e⟩ := hasF_of g
  have q := h.fo f hf
  cases f with
  | cls y =>
    have e : x = y := of_decide_eq_true e
    subst e
    exact He.cls_ok q
  | _ => cases e
theorem Bd.noat {X : Cx} {m : Str} (h : Bd c X) (g : hasF (isNoat x m) c.fa = true) : NoAttr c.K (He.ga c.K x) m := by
  obtain ⟨f, hf, e⟩ := hasF_of g
  have q := h.fo f hf
  cases f with
  | noat y n =>
    obtain ⟨e1, e2⟩ := He.ba e
    have e1 : x = y := of_decide_eq_true e1
    have e2 : m = n := of_decide_eq_true e2
    subst e1 e2
    exact He.noat_ok q
  | _ => cases e
theorem Bd.meth {X : Cx} {m : Str} (h : Bd c X) (g : hasF (isMeth x m) c.fa = true) : Meth c.K (He.ga c.K x) m (He.ma c.K (He.ga c.K x) m) := by
  obtain ⟨f, hf, e⟩ := hasF_of g
  have q := h.fo f hf
  cases f with
  | meth y n =>
    obtain ⟨e1, e2⟩ := He.ba e
    have e1 : x = y := of_decide_eq_true e1
    have e2 : m = n := of_decide_eq_true e2
    subst e1 e2
    exact He.meth_ok q
  | _ => cases e
theorem Bd.mkr {X : Cx} (h : Bd c X) (g : hasF (isMkr x) c.fa = true) : Mk c.K (He.ga c.K x) (He.ma c.K (He.ga c.K x) "__init__") := by
  obtain ⟨f, hf, e⟩ := hasF_of g
  have q := h.fo f hf
  cases f with
  | mkr y =>
    have e : x = y := of_decide_eq_true e
    subst e
    exact He.mkr_ok q
  | _ => cases e
/-- a class, a def as a value -/
theorem gglo (hg : GlN c x := by rfl) (h : hasF (isGlo x) c.fa = true := by rfl) (hd : (x == ("__debug__" : Str)) = false := by decide) : GE c (.Name x pos) (tC (.ref (He.ga c.K x))) := fun X b =>
  pe_glob (b.gln hg) (b.glo h) rfl hd
theorem gint {i : Int} (hg : GlN c x := by rfl) (h : hasF (isInt x i) c.fa = true := by rfl) (hd : (x == ("__debug__" : Str)) = false := by decide) : GE c (.Name x pos) (tC (.int i)) := fun X b => by
  obtain ⟨t, e⟩ := b.int h
  exact pe_glob (b.gln hg) e ⟨t, rfl⟩ hd
theorem gstr {z : Str} (hg : GlN c x := by rfl) (h : hasF (isStr x z) c.fa = true := by rfl) (hd : (x == ("__debug__" : Str)) = false := by decide) : GE c (.Name x pos) (tC (.str z)) := fun X b => by
  obtain ⟨t, e⟩ := b.str h
  exact pe_glob (b.gln hg) e ⟨t, rfl⟩ hd
/-- a built-in class as a value -/
theorem gty (n : String) (hv : bootBuiltins x = some (.type n) := by decide +kernel) (hg : GlN c x := by rfl) (h : hasF (isFree x) c.fa = true := by rfl) (hn : x ≠ "__name__" := by decide) (hd : (x == ("__debug__" : Str)) = false := by decide) : GE c (.Name x pos) (tC (.ty n)) := fun X b =>
  pe_bltn (b.gln hg) (b.free h) hv rfl hn hd
end
end Rw

namespace Rw
open PySem PySem.Spec PyProof.Rows L2
section
variable {c : Cn} {a b e o : Expr} {es : List Expr} {ta tb tc te to : TE} {t u : TT} {tA tK : TA} {pos apos p : Pos} {x : Str}

/-! ### operators -/
def rAddU : R2 := fun x y H Q => match x, y with
  | .int i, .int j => Q (.int (i + j)) H
  | .str i, .str j => i.length + j.length ≤ sizeLine ∧ Q (.str (i ++ j)) H
  | .ref l, .ref m => (∃ xs zs, H l = some (.lst xs) ∧ H m = some (.lst zs) ∧ xs.length + zs.length ≤ sizeLine ∧ ∀ p, H p = none → Q (.ref p) (upd H p (.lst (xs ++ zs)))) 
  | _, _ => False
theorem o_add {X : Cx} : OpR X (binaryOp .Add) rAddU := fun pins s σ H x y v u Q I rx ry h => by
  cases x <;> cases y <;> first | exact (show False from h).elim | skip
  · exact op_add pins s σ H _ _ v u Q I rx ry ⟨_, _, rfl, rfl, h⟩
  · exact op_add_str pins s σ H _ _ v u Q I rx ry ⟨_, _, rfl, rfl, h.1, h.2⟩
  · obtain ⟨xs, zs, h1, h2, h3, h4⟩ := h
    exact op_cat pins s σ H _ _ v u Q I rx ry ⟨_, _, _, _, rfl, rfl, h1, h2, h3, h4⟩
/-- a tuple and a tuple -/
theorem o_addT {X : Cx} : OpR X (binaryOp .Add) (rCatT X.K) := op_catT
def rSubU : R2 := rI0 fun i j => .int (i - j)
def rMulU : R2 := fun x y H Q => match x, y with
  | .int i, .int j => CMul i j ∧ Q (.int (i * j)) H
  | .ref l, .int k => ∃ xs, H l = some (.lst xs) ∧ -(2 ^ 63) ≤ k ∧ k < 2 ^ 63 ∧ xs.length * k.toNat ≤ sizeLine ∧ ∀ p, H p = none → Q (.ref p) (upd H p (.lst (List.replicate k.toNat xs).flatten))
  | _, _ => False
theorem o_mul {X : Cx} : OpR X (binaryOp .Mult) rMulU := fun pins s σ H x y v u Q I rx ry h => by
  cases x <;> cases y <;> first | exact (show False from h).elim | skip
  · exact op_mul pins s σ H _ _ v u Q I rx ry ⟨_, _, rfl, rfl, h.1, h.2⟩
  · obtain ⟨xs, h1, h2, h3, h4, h5⟩ := h
    exact op_rep pins s σ H _ _ v u Q I rx ry ⟨_, _, _, rfl, rfl, h1, h2, h3, h4, h5⟩
def rDivU : R2 := rI CDiv fun i j => .int (i / j)
def rModU : R2 := rI (fun _ j => 0 < j) fun i j => .int (i % j)
def rPowU : R2 := rI CPow fun i j => .int (i ^ j.toNat)
theorem g_add (ha : GE c a ta) (hb : GE c b tb) : GE c (.BinOp a .Add b pos) (tOp rAddU ta tb) := fun X h => pe_op o_add (ha X h) (hb X h)
theorem g_addT (ha : GE c a ta) (hb : GE c b tb) : GE c (.BinOp a .Add b pos) (tOp (rCatT c.K) ta tb) := fun X h => by
  have := pe_op (pos := pos) (o_addT (X := X)) (ha X h) (hb X h)
  rw [h.hK] at this
  exact this
theorem g_sub (ha : GE c a ta) (hb : GE c b tb) : GE c (.BinOp a .Sub b pos) (tOp rSubU ta tb) := fun X h => pe_op op_sub (ha X h) (hb X h)
theorem g_mul (ha : GE c a ta) (hb : GE c b tb) : GE c (.BinOp a .Mult b pos) (tOp rMulU ta tb) := fun X h => pe_op o_mul (ha X h) (hb X h)
theorem g_div (ha : GE c a ta) (hb : GE c b tb) : GE c (.BinOp a .FloorDiv b pos) (tOp rDivU ta tb) := fun X h => pe_op op_fdiv (ha X h) (hb X h)
theorem g_mod (ha : GE c a ta) (hb : GE c b tb) : GE c (.BinOp a .Mod b pos) (tOp rModU ta tb) := fun X h => pe_op op_mod (ha X h) (hb X h)
theorem g_pow (ha : GE c a ta) (hb : GE c b tb) : GE c (.BinOp a .Pow b pos) (tOp rPowU ta tb) := fun X h => pe_op op_pow (ha X h) (hb X h)
def rNegU : V → Hp → VK → Prop := rU fun i => .int (-i)
theorem g_neg (ha : GE c a ta) : GE c (.UnaryOp .USub a pos) (tUn rNegU ta) := fun X h => pe_un un_neg (ha X h)

/-! ### comparisons -/
/-- scalars, or data of any depth -/
def rEqU (K : PySem.W.Frag) : R2 := fun x y H Q => rEq x y H Q ∨ rEqD K x y H Q
def rNeU (K : PySem.W.Frag) : R2 := fun x y H Q => rNe x y H Q ∨ rNeD K x y H Q
theorem o_eq (X : Cx) (h : Bd c X) : OpR X (compareOp .Eq) (rEqU c.K) := by
  have := OpR.or (op_eq (X := X)) (op_eqD (X := X) (by have := h.un; omega))
  rw [h.hK] at this
  exact this
theorem o_ne (X : Cx) (h : Bd c X) : OpR X (compareOp .NotEq) (rNeU c.K) := by
  have := OpR.or (op_ne (X := X)) (op_neD (X := X) (by have := h.un; omega))
  rw [h.hK] at this
  exact this
def rLtU : R2 := rI0 fun i j => .bl (decide (i < j))
def rLeU : R2 := rI0 fun i j => .bl (decide (i ≤ j))
def rGtU : R2 := rI0 fun i j => .bl (decide (j < i))
def rGeU : R2 := rI0 fun i j => .bl (decide (j ≤ i))
def rIsU : R2 := fun x y H Q => y = .non ∧ Q (.bl (decide (x = .non))) H
def rIsntU : R2 := fun x y H Q => y = .non ∧ Q (.bl (!decide (x = .non))) H
/-- in: a list or tuple of flat values; a sign in a text; a key of a dict -/
def rInU (K : PySem.W.Frag) : R2 := fun x y H Q => rIn K false x y H Q ∨ (∃ (n : Nat) (z : Str), x = .str ⟨#[n]⟩ ∧ y = .str z ∧ Q (.bl (decide (n ∈ z.cps.toList))) H) ∨ ∃ d r, y = .ref d ∧ DGet H d x r ∧ Q (.bl r.isSome) H
def rNinU (K : PySem.W.Frag) : R2 := fun x y H Q => rIn K true x y H Q ∨ (∃ (n : Nat) (z : Str), x = .str ⟨#[n]⟩ ∧ y = .str z ∧ Q (.bl (!decide (n ∈ z.cps.toList))) H) ∨ ∃ d r, y = .ref d ∧ DGet H d x r ∧ Q (.bl (!r.isSome)) H
theorem o_inD {X : Cx} (hu : X.A.units + 1 < cLine) : OpR X (compareOp .In) (fun x y H Q => ∃ d r, y = .ref d ∧ DGet H d x r ∧ Q (.bl r.isSome) H) := fun pins s σ H x y v u Q I rx ry h => by
  obtain ⟨d, r, ey, g, q⟩ := h
  subst ey
  cases ry
  exact d_in hu I g rx fun s' I' => ⟨.bl _, H, I', rfl, q⟩
theorem o_ninD {X : Cx} (hu : X.A.units + 1 < cLine) : OpR X (compareOp .NotIn) (fun x y H Q => ∃ d r, y = .ref d ∧ DGet H d x r ∧ Q (.bl (!r.isSome)) H) := fun pins s σ H x y v u Q I rx ry h => by
  obtain ⟨d, r, ey, g, q⟩ := h
  subst ey
  cases ry
  exact d_notIn hu I g rx fun s' I' => ⟨.bl _, H, I', rfl, q⟩
theorem o_in (X : Cx) (h : Bd c X) : OpR X (compareOp .In) (rInU c.K) := by
  have := OpR.or (op_in_seq (X := X)) (OpR.or (op_in_sign (X := X)) (o_inD (X := X) (by have := h.un; omega)))
  rw [h.hK] at this
  exact this
theorem o_nin (X : Cx) (h : Bd c X) : OpR X (compareOp .NotIn) (rNinU c.K) := by
  have := OpR.or (op_notIn_seq (X := X)) (OpR.or (op_notIn_sign (X := X)) (o_ninD (X := X) (by have := h.un; omega)))
  rw [h.hK] at this
  exact this
/-- a comparison by its rule: CO names it -/
inductive CO (c : Cn) : CmpOp → R2 → Prop
  | eq : CO c .Eq (rEqU c.K)
  | ne : CO c .NotEq (rNeU c.K)
  | lt : CO c .Lt rLtU
  | le : CO c .LtE rLeU
  | gt : CO c .Gt rGtU
  | ge : CO c .GtE rGeU
  | isn : CO c .Is rIsU
  | isnt : CO c .IsNot rIsntU
  | inn : CO c .In (rInU c.K)
  | nin : CO c .NotIn (rNinU c.K)
theorem CO.ok {op : CmpOp} {r : R2} (k : CO c op r) (X : Cx) (h : Bd c X) : OpR X (compareOp op) r := by
  cases k with
  | eq => exact o_eq X h
  | ne => exact o_ne X h
  | lt => exact op_lt
  | le => exact op_le
  | gt => exact op_gt
  | ge => exact op_ge
  | isn => exact op_isN
  | isnt => exact op_notN
  | inn => exact o_in X h
  | nin => exact o_nin X h
theorem g_cmp {op : CmpOp} {r : R2} (k : CO c op r) (ha : GE c a ta) (hb : GE c b tb) (hm : behindInMarks op b = false := by rfl) : GE c (.Compare a [op] [b] pos) (tOp r ta tb) := fun X h => pe_cmpR (k.ok X h) (ha X h) (hb X h) hm
theorem gt_cmp {op : CmpOp} {r : R2} (k : CO c op r) (ha : GE c a ta) (hb : GE c b tb) (hm : behindInMarks op b = false := by rfl) : GT c (.Compare a [op] [b] pos) (tTest (tOp r ta tb)) := fun X h => pt_cmpR (k.ok X h) (ha X h) (hb X h) hm

theorem g_chain {op op' : CmpOp} {r r' : R2} {d : Expr} (k : CO c op r) (k' : CO c op' r') (ha : GE c a ta) (hb : GE c b tb) (hd : GE c d tc) (hm : lastMarks [op, op'] [b, d] = false := by with_unfolding_all rfl) :
    GE c (.Compare a [op, op'] [b, d] pos) (tChain r r' ta tb tc) := fun X h => pe_chain (k.ok X h) (k'.ok X h) (ha X h) (hb X h) (hd X h) hm
theorem gt_chain {op op' : CmpOp} {r r' : R2} {d : Expr} (k : CO c op r) (k' : CO c op' r') (ha : GE c a ta) (hb : GE c b tb) (hd : GE c d tc) (hm : lastMarks [op, op'] [b, d] = false := by with_unfolding_all rfl) :
    GT c (.Compare a [op, op'] [b, d] pos) (tTest (tChain r r' ta tb tc)) := fun X h => pt_chain (k.ok X h) (k'.ok X h) (ha X h) (hb X h) (hd X h) hm

/-! ### truth -/
def tTru (K : PySem.W.Frag) (ta : TE) : TT := fun σ H Q => ta σ H fun x H1 => ∃ k, TruV K x H1 k ∧ Q k H1
theorem gt_val (ha : GE c a ta) (he : ∀ env whole, isTrue a env whole = (do let v ← whole; standAt a.pos; holding [v] (truthy v)) := by intro _ _; rfl) : GT c a (tTru c.K ta) := fun X h => by
  have := pt_truth (ha X h) (fun whole => he X.env whole)
  rw [h.hK] at this
  exact this
theorem gw_and1 (ha : GT c a t) : GW c (.BoolOp .And [a] pos) t := fun X h => pw_and1 (ha X h)
theorem gw_or1 (ha : GT c a t) : GW c (.BoolOp .Or [a] pos) t := fun X h => pw_or1 (ha X h)
theorem gw_and {rest : List Expr} (ha : GT c a t) (hb : GW c (.BoolOp .And (b :: rest) pos) u) : GW c (.BoolOp .And (a :: b :: rest) pos) (tAnd t u) := fun X h => pw_and (ha X h) (hb X h)
theorem gw_or {rest : List Expr} (ha : GT c a t) (hb : GW c (.BoolOp .Or (b :: rest) pos) u) : GW c (.BoolOp .Or (a :: b :: rest) pos) (tOr t u) := fun X h => pw_or (ha X h) (hb X h)
theorem gt_bool (h : GW c e t) : GT c e t := fun X b => (h X b).pt
theorem gt_not (ha : GT c a t) : GT c (.UnaryOp .Not a pos) (tNot t) := fun X h => pt_not (ha X h)
theorem g_one {op} (ha : GE c a ta) : GE c (.BoolOp op [a] pos) ta := fun X h => pe_one (ha X h)
theorem g_and {rest : List Expr} (ha : GE c a ta) (hb : GE c (.BoolOp .And (b :: rest) pos) tb) : GE c (.BoolOp .And (a :: b :: rest) pos) (tAndT c.K ta tb) := fun X h => by
  have := pe_andT (ha X h) (hb X h)
  rw [h.hK] at this
  exact this
theorem g_or {rest : List Expr} (ha : GE c a ta) (hb : GE c (.BoolOp .Or (b :: rest) pos) tb) : GE c (.BoolOp .Or (a :: b :: rest) pos) (tOrT c.K ta tb) := fun X h => by
  have := pe_orT (ha X h) (hb X h)
  rw [h.hK] at this
  exact this
theorem g_not (ha : GE c a ta) : GE c (.UnaryOp .Not a pos) (tNotT c.K ta) := fun X h => by
  have := pe_notT (pos := pos) (ha X h)
  rw [h.hK] at this
  exact this
theorem g_if {d : Expr} (hc : GT c d t) (ha : GE c a ta) (hb : GE c b tb) : GE c (.IfExp d a b pos) (tIf t ta tb) := fun X h => pe_ifExp (hc X h) (ha X h) (hb X h)

/-! ### argument lists, displays -/
theorem ga_nil : GA c [] tNil := fun _ _ => pa_nil
theorem ga_cons (ha : GE c e te) (hr : GA c es tA) (hs : ∀ env, starEach (e :: es) env = (false, eval e env) :: starEach es env := by intro _; rfl) : GA c (e :: es) (tCons te tA) := fun X h => pa_cons (ha X h) (hr X h) (hs X.env)
theorem gk_nil : GK c [] tNil := fun _ _ => pk_nil
theorem gk_cons {nm : Option Str} {kp : Pos} {kws : List Keyword} (ha : GE c e te) (hr : GK c kws tK) : GK c (⟨nm, e, kp⟩ :: kws) (tCons te tK) := fun X h => pk_cons (ha X h) (hr X h)
theorem g_tup {k : Nat} (h : GA c es tA) : GE c (.Tuple es k pos) (tTup tA) := fun X b => pe_tup (h X b)
theorem g_lst (h : GA c es tA) : GE c (.List es pos) (tLst tA) := fun X b => pe_lst (h X b)
def tDnew : TE := fun _ H Q => ∀ p, H p = none → Q (.ref p) (upd H p (.dK []))
def GP (c : Cn) (p : Pos) (ks : List (Option Expr)) (vs : List Expr) (trs : List (TE × TE)) : Prop := ∀ X, Bd c X → PPs X p ks vs trs
theorem gp_nil : GP c pos [] [] [] := fun _ _ => pps_nil
theorem gp_cons {k v : Expr} {ks : List (Option Expr)} {vs : List Expr} {tk tv : TE} {trs : List (TE × TE)} (hk : GE c k tk) (hv : GE c v tv) (hr : GP c pos ks vs trs) : GP c pos (some k :: ks) (v :: vs) ((tk, tv) :: trs) := fun X h => pps_cons (hk X h) (hv X h) (hr X h)

/-! ### subscripts -/
theorem PlainIx.mk' {d : Expr} (h : ∀ o i, subscripted d false o i = operate [o, i] (getItem o i)) : PlainIx d := h
/-- a[i]: of a list, a tuple, a text, by an int; of a dict, by a key -/
def rSubU' (K : PySem.W.Frag) : R2 := fun x y H Q => rIx K x y H Q ∨ ∃ d v, x = .ref d ∧ DGet H d y (some v) ∧ Q v H
theorem ix_dict {X : Cx} (hu : X.A.units + 1 < cLine) : IxR X (fun x y H Q => ∃ d v, x = .ref d ∧ DGet H d y (some v) ∧ Q v H) := by
  intro value slice pins s σ H x y v u Q I rx ry h hs
  obtain ⟨d, v0, ex, g, q⟩ := h
  subst ex
  cases rx
  have hty := dict_typeIs I g
  unfold subscriptTail
  refine wpAny_bind ?_
  rw [getitemInPython_of_ne hty.not_modules]
  refine wpAny_bind (wpAny_specialOf hty PySem.F.slot_dict_getitem.lookup ?_)
  have done : wpAny (model X.prog X.w) X.A (subscripted slice false (Value.ref d) u) (fun r s3 => wpAny (model X.prog X.w) X.A (letTemporaryGo value (Value.ref d) r >>= fun _ => pure r) (EP X pins σ Q) X.xe s3) X.xe s := by
    rw [hs]
    exact wpAny_operating (thn (d_getItem hu I g ry fun w2 s2 I2 rw2 => (⟨v0, H, I2, rw2, q⟩ : EP X pins σ Q w2 s2)) fun r s3 z => wpAny_bind (wpAny_letTemporaryGo (wpAny_pure z)))
  first
    | exact wpAny_pure (wpAny_bind done)
    | exact wpAny_bind (wpAny_pure (wpAny_bind done))
    | exact wpAny_bind done
theorem ix_all (X : Cx) (h : Bd c X) : IxR X (rSubU' c.K) := by
  have := IxR.or (ix_seq (X := X)) (ix_dict (X := X) (by have := h.un; omega))
  rw [h.hK] at this
  exact this
theorem g_ix (ha : GE c a ta) (hb : GE c b tb) (hs : ∀ o i, subscripted b false o i = operate [o, i] (getItem o i) := by intro _ _; rfl) : GE c (.Subscript a b pos) (tOp (rSubU' c.K) ta tb) := fun X h => pe_ix (ix_all X h) (ha X h) (hb X h) hs
/-- a slice of a list, a text, a tuple -/
def rSlU (K : PySem.W.Frag) : V → Option Int → Option Int → Hp → VK → Prop := fun x lo hi H Q => rSlL K x lo hi H Q ∨ rSlS x lo hi H Q ∨ rSlT K x lo hi H Q
theorem go_none : GO c none tNoPart := fun _ _ => po_none
theorem go_some (h : GE c e te) : GO c (some e) (tPart te) := fun X b => po_some (h X b)
theorem g_slice {lo hi : Option Expr} {tl th : TO} {p2 : Pos} (he : GE c e te) (hl : GO c lo tl) (hu : GO c hi th) : GE c (.Subscript e (.Slice lo hi none p2) pos) (tSl (rSlU c.K) te tl th) := fun X h => by
  have := pe_slice (pos := pos) (p2 := p2) (SlR.or (sl_list (X := X)) (SlR.or (sl_str (X := X)) (sl_tup (X := X)))) (he X h) (hl X h) (hu X h)
  rw [h.hK] at this
  exact this

/-! ### attributes -/
/-- an attribute of an instance; C: its class's name -/
def tAttr (K : PySem.W.Frag) (fa : List He.Fa) (ta : TE) (f : Str) : TE := fun σ H Q => ta σ H fun x H1 => ∃ (d : Addr) (C : Str) (dx : Addr) (fs : List (Str × V)) (v : V), x = .ref d ∧ H1 d = some (.ins (He.ga K C) dx fs) ∧
  hasF (isCls C) fa = true ∧ hasF (isNoat C f) fa = true ∧ fs.lookup f = some v ∧ Q v H1
theorem g_attr {f : Str} (ha : GE c a ta) (hb : ∀ env w, attributeBase a f env w = w := by intro _ _; rfl) : GE c (.Attribute a f pos) (tAttr c.K c.fa ta f) := fun X h => ⟨fun pins s σ H Q I hq => by
  refine attr_of (hb X.env _) (thn ((ha X h).run pins s σ H _ I hq) fun u s1 ⟨x, H1, I1, rx, d, C, dx, fs, v, ex, ea, k1, k2, l, q⟩ => ?_)
  subst ex
  cases rx
  have cl := h.cls k1
  have na := h.noat k2
  rw [← h.hK] at ea cl na
  exact getattr_ok I1 ea cl na l fun u' s2 I2 ru => ⟨v, H1, I2, ru, q⟩⟩

/-! ### methods of built-in types -/
structure BMt (c : Cn) (T : String) (name : Str) (id : String) (r : V → List V → Hp → VK → Prop) : Prop where
  pa : PlainAttrs T
  slot : Slot T name id
  ty : typeOf (.builtin id) = pure (.type "method_descriptor")
  mt : ∀ X, Bd c X → MtR X id r
theorem g_bm0 {T id : String} {name : Str} {r : V → List V → Hp → VK → Prop} (m : BMt c T name id r) (ho : GE c o to) (hb : ∀ env w, attributeBase o name env w = w := by intro _ _; rfl) (hl : (apos.endLine == pos.line) = true := by rfl) :
    GE c (.Call (.Attribute o name apos) [] [] pos) (tBM0 c.K T r to) := fun X h => by
  have := pe_bm0 (apos := apos) (cpos := pos) m.pa m.slot m.ty (m.mt X h) (ho X h) (hb X.env _) hl
  rw [h.hK] at this
  exact this
theorem g_bm {T id : String} {name : Str} {r : V → List V → Hp → VK → Prop} (m : BMt c T name id r) (ho : GE c o to) (ha : GA c (e :: es) tA) (hb : ∀ env w, attributeBase o name env w = w := by intro _ _; rfl)
    (hfew : ∀ env, ((backTo pos (starEach (e :: es) env)).all (fun x => !x.1) && (backToKw pos (keywordEach [] env)).all (fun x => x.1.isSome)
      && decide ((e :: es).length + ([] : List Keyword).length + (if ([] : List Keyword).isEmpty then 0 else 1) < 30)) = true := by intro _; rfl)
    (hl : (apos.endLine == pos.line) = true := by rfl) (hs : ∀ env, starEach (e :: es) env = (false, eval e env) :: starEach es env := by intro _; rfl) (hp : ∀ env, (backTo pos (starEach es env)).any (·.1) = false := by intro _; rfl) :
    GE c (.Call (.Attribute o name apos) (e :: es) [] pos) (tBM c.K T r to tA) := fun X h => by
  have := pe_bm (apos := apos) (cpos := pos) m.pa m.slot m.ty (m.mt X h) (ho X h) (ha X h) (hb X.env _) (hfew X.env) hl (hs X.env) (hp X.env)
  rw [h.hK] at this
  exact this
theorem m_append : BMt c "list" "append" "list.append" rAppend := ⟨PySem.F.plainAttrs_list, PySem.F.slot_list_append, PySem.F.type_list_append, fun _ _ => mt_append⟩
theorem m_extend : BMt c "list" "extend" "list.extend" rExtend := ⟨PySem.F.plainAttrs_list, PySem.F.slot_list_extend, PySem.F.type_list_extend, fun _ _ => mt_extend⟩
theorem m_pop : BMt c "list" "pop" "list.pop" rPop := ⟨PySem.F.plainAttrs_list, PySem.F.slot_list_pop, PySem.F.type_list_pop, fun _ _ => mt_pop⟩
theorem m_popAt : BMt c "list" "pop" "list.pop" rPopAt := ⟨PySem.F.plainAttrs_list, PySem.F.slot_list_pop, PySem.F.type_list_pop, fun _ _ => mt_popAt⟩
theorem m_reverse : BMt c "list" "reverse" "list.reverse" rReverse := ⟨PySem.F.plainAttrs_list, PySem.F.slot_list_reverse, PySem.F.type_list_reverse, fun _ _ => mt_reverse⟩
theorem m_clear : BMt c "list" "clear" "list.clear" rClear := ⟨PySem.F.plainAttrs_list, PySem.F.slot_list_clear, PySem.F.type_list_clear, fun _ _ => mt_clear⟩
/-- d.get(k), d.get(k, z) -/
def rDget : V → List V → Hp → VK → Prop := fun x vs H Q => ∃ d k r, x = .ref d ∧ ((vs = [k] ∧ DGet H d k r ∧ Q (r.getD .non) H) ∨ ∃ z, vs = [k, z] ∧ DGet H d k r ∧ Q (r.getD z) H)
theorem mt_dget {X : Cx} (hu : X.A.units + 1 < cLine) : MtR X "dict.get" rDget := fun pins s σ H x xs v us Q I rx r h => by
  obtain ⟨d, k, o, ex, h⟩ := h
  subst ex
  cases rx
  rcases h with ⟨ev, g, q⟩ | ⟨z, ev, g, q⟩
  · subst ev
    obtain ⟨u, eu, ru⟩ := Vals.one r
    subst eu
    exact d_get1 hu I g ru fun w2 s2 I2 rw2 => ⟨_, H, I2, rw2, q⟩
  · subst ev
    obtain ⟨u, u2, eu, ru, ru2⟩ := Vals.two r
    subst eu
    exact d_get2 hu I g ru ru2 fun w2 s2 I2 rw2 => ⟨_, H, I2, rw2, q⟩
theorem m_get : BMt c "dict" "get" "dict.get" rDget := ⟨PySem.F.plainAttrs_dict, PySem.F.slot_dict_get, PySem.F.type_dict_get, fun X h => mt_dget (by have := h.un; omega)⟩
/-- d.pop(k), there; d.pop(k, z) -/
def rDpop : V → List V → Hp → VK → Prop := fun x vs H Q => ∃ d kvs k, x = .ref d ∧ H d = some (.dK kvs) ∧ ((∃ v, vs = [kV k] ∧ valV kvs k = some v ∧ Q v (upd H d (.dK (dropK kvs k)))) ∨
  ∃ z, vs = [kV k, z] ∧ (∀ v, valV kvs k = some v → Q v (upd H d (.dK (dropK kvs k)))) ∧ (valV kvs k = none → Q z H))
theorem mt_dpop {X : Cx} : MtR X "dict.pop" rDpop := fun pins s σ H x xs v us Q I rx r h => by
  obtain ⟨d, kvs, k, ex, e, h⟩ := h
  subst ex
  cases rx
  rcases h with ⟨v0, ev, l, q⟩ | ⟨z, ev, q1, q2⟩
  · subst ev
    obtain ⟨u, eu, ru⟩ := Vals.one r
    subst eu
    exact d_pop I e ru l (.inl rfl) fun w2 s2 I2 rw2 => ⟨_, _, I2, rw2, q⟩
  · subst ev
    obtain ⟨u, u2, eu, ru, ru2⟩ := Vals.two r
    subst eu
    cases l : valV kvs k with
    | some v1 => exact d_pop I e ru l (.inr ⟨u2, rfl⟩) fun w2 s2 I2 rw2 => ⟨_, _, I2, rw2, q1 v1 l⟩
    | none => exact d_popD I e ru l fun s2 I2 => ⟨_, H, I2, ru2, q2 l⟩
theorem m_dpop : BMt c "dict" "pop" "dict.pop" rDpop := ⟨PySem.F.plainAttrs_dict, PySem.F.slot_dict_pop, PySem.F.type_dict_pop, fun _ _ => mt_dpop⟩
def rJoin (K : PySem.W.Frag) : V → List V → Hp → VK → Prop := fun x xs H Q => ∃ a p, ∃ ys : List Str, x = .str a ∧ xs = [.ref p] ∧ (SqL K H p (ys.map V.str) ∨ SqT K H p (ys.map V.str)) ∧ (ys.map (·.length)).sum + ys.length * a.length ≤ 16777216 ∧ Q (.str (Txt.join a ys)) H
theorem m_join : BMt c "str" "join" "str.join" (rJoin c.K) := ⟨PySem.F.plainAttrs_str, PySem.F.slot_str_join, PySem.F.type_str_join, fun X h => by
  have := mt_join (X := X)
  rw [h.hK] at this
  exact this⟩

/-! ### built-in functions and classes, called -/
structure BFn (c : Cn) (x : Str) (id : String) (r : List V → Hp → VK → Prop) : Prop where
  bt : bootBuiltins x = some (.builtin id)
  ok : ∀ X, Bd c X → CallR X (.builtin id) r
  nn : x ≠ "__name__"
  nd : (x == ("__debug__" : Str)) = false
structure BTy (c : Cn) (x : Str) (T : String) (r : List V → Hp → VK → Prop) : Prop where
  bt : bootBuiltins x = some (.type T)
  ok : ∀ X, Bd c X → CallR X (.type T) r
  nn : x ≠ "__name__"
  nd : (x == ("__debug__" : Str)) = false
theorem g_fn {id : String} {r : List V → Hp → VK → Prop} (f : BFn c x id r) (ha : GA c (e :: es) tA) (hg : GlN c x := by rfl) (hf : hasF (isFree x) c.fa = true := by rfl)
    (he : ∀ env, starEach (e :: es) env = (false, eval e env) :: starEach es env := by intro _; rfl) (hp : ∀ env, (backTo pos (starEach es env)).any (·.1) = false := by intro _; rfl) : GE c (.Call (.Name x p) (e :: es) [] pos) (tCB r tA) := fun X h =>
  pe_callB (f.ok X h) (h.gln hg) (h.free hf) f.bt (ha X h) f.nn f.nd (he X.env) (hp X.env)
theorem g_ty {T : String} {r : List V → Hp → VK → Prop} (f : BTy c x T r) (ha : GA c (e :: es) tA) (hg : GlN c x := by rfl) (hf : hasF (isFree x) c.fa = true := by rfl)
    (he : ∀ env, starEach (e :: es) env = (false, eval e env) :: starEach es env := by intro _; rfl) (hp : ∀ env, (backTo pos (starEach es env)).any (·.1) = false := by intro _; rfl) : GE c (.Call (.Name x p) (e :: es) [] pos) (tCB r tA) := fun X h =>
  pe_callTy (f.ok X h) (h.gln hg) (h.free hf) f.bt (ha X h) f.nn f.nd (he X.env) (hp X.env)
/-- len -/
def LenU (K : PySem.W.Frag) (x : V) (H : Hp) (n : Nat) : Prop := LenV K x H n ∨ ∃ d kvs, x = .ref d ∧ Rd H d (.dK kvs) ∧ n = kvs.length
def rLenU (K : PySem.W.Frag) : List V → Hp → VK → Prop := fun xs H Q => ∃ x n, xs = [x] ∧ LenU K x H n ∧ Q (.int n) H
theorem f_len : BFn c "len" "len" (rLenU c.K) := ⟨by decide +kernel, fun X h => by
  intro pins s σ H xs us Q I r hq
  obtain ⟨x, n, ex, l, q⟩ := hq
  subst ex
  rw [← h.hK] at l
  rcases l with l | ⟨d, kvs, ey, hr, en⟩
  · exact call_len pins s σ H _ us Q I r ⟨x, n, rfl, l, q⟩
  · subst ey en
    obtain ⟨u, eu, ru⟩ := vals1 r
    subst eu
    cases ru
    exact d_len I hr fun t s2 I2 => ⟨.int kvs.length, H, I2, ⟨t, rfl⟩, q⟩, by decide, by decide⟩
/-- isinstance of one class; of a tuple of classes that was just laid -/
def rInst (K : PySem.W.Frag) : List V → Hp → VK → Prop := fun xs H Q => rIsi K xs H Q ∨ rIsiT K xs H Q
theorem f_isi : BFn c "isinstance" "isinstance" (rInst c.K) := ⟨by decide +kernel, fun X h => by
  have := CallR.or (call_isi (X := X)) (call_isiT (X := X))
  rw [h.hK] at this
  exact this, by decide, by decide⟩
def rAbsU : List V → Hp → VK → Prop := fun xs H Q => ∃ i, xs = [.int i] ∧ Q (.int (if i < 0 then -i else i)) H
theorem f_abs : BFn c "abs" "abs" rAbsU := ⟨by decide +kernel, fun X _ => call_abs, by decide, by decide⟩
def rMax2U : List V → Hp → VK → Prop := fun xs H Q => ∃ i j, xs = [.int i, .int j] ∧ Q (.int (if j > i then j else i)) H
def rMin2U : List V → Hp → VK → Prop := fun xs H Q => ∃ i j, xs = [.int i, .int j] ∧ Q (.int (if j < i then j else i)) H
theorem f_max2 (hc : c.hot = false := by rfl) : BFn c "max" "max" rMax2U := ⟨by decide +kernel, fun X h => call_max2 (h.calm hc), by decide, by decide⟩
theorem f_min2 (hc : c.hot = false := by rfl) : BFn c "min" "min" rMin2U := ⟨by decide +kernel, fun X h => call_min2 (h.calm hc), by decide, by decide⟩
/-- divmod by a positive number of few digits -/
def rDmU : List V → Hp → VK → Prop := fun xs H Q => ∃ i j, xs = [.int i, .int j] ∧ (0 < j ∧ j.natAbs.log2 < 9000) ∧ ∀ p, H p = none → Q (.ref p) (upd H p (.tup [.int (i / j), .int (i % j)]))
theorem f_divmod : BFn c "divmod" "divmod" rDmU := ⟨by decide +kernel, fun X _ => by
  intro pins s σ H xs us Q I r hq
  obtain ⟨i, j, ex, hj, q⟩ := hq
  exact call_divmodW pins s σ H xs us Q I r ⟨i, j, ex, ⟨hj.1, PyProof.noPylong_of_log2 hj.2⟩, q⟩, by decide, by decide⟩
theorem f_all (hc : c.hot = false := by rfl) : BFn c "all" "all" (rAll c.K) := ⟨by decide +kernel, fun X h => by
  have := cr_all (X := X) (h.calm hc)
  rw [h.hK] at this
  exact this, by decide, by decide⟩
theorem f_any (hc : c.hot = false := by rfl) : BFn c "any" "any" (rAny c.K) := ⟨by decide +kernel, fun X h => by
  have := cr_any (X := X) (h.calm hc)
  rw [h.hK] at this
  exact this, by decide, by decide⟩
/-! repr of data -/
mutual
theorem Dp.plain {K : PySem.W.Frag} {H : Hp} : ∀ (d : PyData) (v : V), Dp K H v d → d.hasDict = false
  | .none, _, _ => by simp only [PyData.hasDict]
  | .bool _, _, _ => by simp only [PyData.hasDict]
  | .int _, _, _ => by simp only [PyData.hasDict]
  | .str _, _, _ => by simp only [PyData.hasDict]
  | .list ds, _, h => by
    cases h with
    | lst _ ha => simp only [PyData.hasDict]; exact Dp.plainAll ds _ ha
  | .tuple ds, _, h => by
    cases h with
    | tup _ ha => simp only [PyData.hasDict]; exact Dp.plainAll ds _ ha
  | .dict _, _, h => by cases h
theorem Dp.plainAll {K : PySem.W.Frag} {H : Hp} : ∀ (ds : List PyData) (vs : List V), DpAll K H vs ds → PyData.hasDictAll ds = false
  | [], _, _ => by simp only [PyData.hasDictAll]
  | d :: ds, _, h => by
    cases h with
    | cons h1 h2 => simp only [PyData.hasDictAll, Dp.plain d _ h1, Dp.plainAll ds _ h2, Bool.or_false]
end
def rRepr (K : PySem.W.Frag) : List V → Hp → VK → Prop := fun xs H Q => ∃ x d, xs = [x] ∧ Dp K H x d ∧ d.showable = true ∧ d.depth ≤ 100 ∧ d.shown.length ≤ sizeLine ∧ Q (.str d.shown) H
theorem f_repr : BFn c "repr" "repr" (rRepr c.K) := ⟨by decide +kernel, fun X h => by
  intro pins s σ H xs us Q I r hq
  obtain ⟨x, d, ex, hd, sh, dp, sz, q⟩ := hq
  subst ex
  obtain ⟨u, eu, ru⟩ := vals1 r
  subst eu
  rw [← h.hK] at hd
  have un := h.un
  obtain ⟨as, rd⟩ := Dp.reads I d x u hd ru
  have nod := Dp.plain d x hd
  cases hd with
  | non =>
    cases ru
    exact PySem.P.repr_of_none ⟨.str _, H, I.tok _, ⟨_, rfl⟩, q⟩
  | bl b =>
    cases ru
    refine PySem.P.repr_of_bool ⟨.str _, H, I.tok _, ⟨_, rfl⟩, ?_⟩
    cases b <;> exact q
  | int i =>
    obtain ⟨t, eu⟩ := ru
    subst eu
    exact PySem.P.repr_of_int (of_decide_eq_true sh) ⟨.str _, H, I.tok _, ⟨_, rfl⟩, q⟩
  | str z =>
    obtain ⟨t, eu⟩ := ru
    subst eu
    exact PySem.P.repr_of_str ⟨.str _, H, I.tok _, ⟨_, rfl⟩, q⟩ sz
  | lst hs ha =>
    cases ru
    exact repr_of_reads' rd sh (PyData.noDict_hsm nod) h.gu (by omega) (fun _ _ z => z) (fun h2 u2 tk k => ⟨.str _, H, I.kept k, ⟨_, rfl⟩, q⟩) sz
  | tup hs ha =>
    cases ru
    exact repr_of_reads' rd sh (PyData.noDict_hsm nod) h.gu (by omega) (fun _ _ z => z) (fun h2 u2 tk k => ⟨.str _, H, I.kept k, ⟨_, rfl⟩, q⟩) sz, by decide, by decide⟩
end
end Rw

namespace Rw
open PySem PySem.Spec PyProof.Rows L2
section
variable {c : Cn} {a b e o : Expr} {es : List Expr} {kws : List Keyword} {ta tb tc te to : TE} {t u : TT} {tA tK : TA} {pos apos p : Pos} {x m : Str} {ks : List Str}

/-! ### calls of the text's own defs -/
def isShp (k : Ky) (n : Nat) (ks : List Str) (s : Shp) : Bool := decide (s.key = k) && (decide (s.n = n) && decide (s.ks = ks))
def shpOf (sh : List Shp) (k : Ky) (n : Nat) (ks : List Str) : Option Shp := sh.find? (isShp k n ks)
theorem shpOf_ok {sh : List Shp} {k : Ky} {n : Nat} {s : Shp} (h : shpOf sh k n ks = some s) : s ∈ sh ∧ s.key = k ∧ s.n = n ∧ s.ks = ks := by
  have h1 := List.find?_some h
  obtain ⟨e1, h2⟩ := He.ba h1
  obtain ⟨e2, e3⟩ := He.ba h2
  exact ⟨List.mem_of_find?_eq_some h, of_decide_eq_true e1, of_decide_eq_true e2, of_decide_eq_true e3⟩
theorem run_g {X : Cx} (h : Bd c X) (hc : c.hot = false) {s : Shp} (hs : s ∈ c.sh) {pins : List (Addr × Obj)} {σ : L2.St} {H : Hp} {st : Shared} {Q : VK} {us ws : List Value} {vs zs : List V} (I : Inv X pins σ H st) (r : Vals vs us) (rz : Vals zs ws)
    (l1 : vs.length = s.n) (l2 : zs.length = s.ks.length) (hq : c.Ph s.key (plug c.K s.plan vs zs) H Q (WE c.W σ)) :
    wpAny (model X.prog X.w) X.A (call (.ref (He.fAd c.K s.key)) us (s.ks.zip ws)) (EP X pins σ Q) X.xe st := by
  obtain ⟨k, room, all⟩ := h.fns hc
  obtain ⟨fd, ps, g, F, kb⟩ := (all s hs).ex
  have bt := kb.to st us ws I.kIn (r.length.symm.trans l1) (rz.length.symm.trans l2)
  refine wpAny_call (codeAny_mono (F.run X.A X.stack st H ⟨us, s.ks.zip ws⟩ _ _ Q (WE c.W σ) (room.mono (Nat.le_succ _)) h.gu I.env0 bt (kb.rel r rz) hq) fun res s2 z => ?_)
  cases res with
  | error er => exact passAt h.tk σ pins H st er s2 I z
  | ok fl =>
    cases fl with
    | ret u => exact I.after z
    | next => exact z.elim
    | brk => exact z.elim
    | cont => exact z.elim
/-- what is asked of arguments that are handed in: na by their places, the others by the names ks; first: what stands ahead of them -/
def tArgs (c : Cn) (k : Ky) (na : Nat) (ks : List Str) (first : List V) (tA tK : TA) : TE := fun σ H Q => ∃ s, shpOf c.sh k (first.length + na) ks = some s ∧ tA σ H fun vs H1 => tK σ H1 fun zs H2 => vs.length = na ∧ zs.length = ks.length ∧
  c.Ph s.key (plug c.K s.plan (first ++ vs) zs) H2 Q (WE c.W σ)
def tFn (c : Cn) (x : Str) (na : Nat) (ks : List Str) (tA tK : TA) : TE := tArgs c (x, none) na ks [] tA tK
def kwn (ks : List Keyword) : List Str := ks.filterMap fun k => match k with | ⟨n, _, _⟩ => n
theorem g_call (ha : GA c (e :: es) tA) (hk : GK c kws tK) (hg : GlN c x := by rfl) (hf : hasF (isGlo x) c.fa = true := by rfl) (hc : c.hot = false := by rfl)
    (hall : ∀ env, (backToKw pos (keywordEach kws env)).all (·.1.isSome) = true := by intro _; rfl) (hks : ∀ env, (backToKw pos (keywordEach kws env)).filterMap (·.1) = kwn kws := by intro _; rfl)
    (hdb : (x == ("__debug__" : Str)) = false := by decide) (he : ∀ env, starEach (e :: es) env = (false, eval e env) :: starEach es env := by intro _; rfl)
    (hpl : ∀ env, ((backTo pos (starEach (e :: es) env)).any (·.1) || (backToKw pos (keywordEach kws env)).any (·.1.isNone)) = false := by intro _; rfl) :
    GE c (.Call (.Name x p) (e :: es) kws pos) (tFn c x (e :: es).length (kwn kws) tA tK) := fun X h => ⟨fun pins st σ H Q I hq => by
  obtain ⟨s, hs, hq⟩ := hq
  obtain ⟨mem, ek, en, eks⟩ := shpOf_ok hs
  obtain ⟨k0, r0, all⟩ := h.fns hc
  have kp := (all s mem).kp
  rw [ek] at kp
  rw [← h.hK] at kp
  have hm := h.glo hf
  rw [← h.hK] at hm
  refine wpAny_Call_Name_kw (ld_glob I (h.gln hg) hm ?_ hdb)
  refine PySem.W.callWith_KW (h₀ := X.base) I.ok.mod.kin kp (hall X.env) (thn ((ha X h).run pos pins st σ H _ I hq) fun us s1 ⟨vs, H1, I1, r, q⟩ => ?_) (hpl X.env) (he X.env)
  refine thn ((hk X h).run pos pins s1 σ H1 _ I1 q) fun ws s2 ⟨zs, H2, I2, rz, l1, l2, q2⟩ => ⟨I2.kIn, ?_⟩
  rw [hks, ← eks]
  have z := run_g h hc mem I2 r rz (by rw [en, l1]; exact (Nat.zero_add _).symm) (by rw [eks]; exact l2) q2
  rw [ek] at z
  rw [h.hK]
  exact z⟩
theorem g_call0 (hk : GK c kws tK) (hg : GlN c x := by rfl) (hf : hasF (isGlo x) c.fa = true := by rfl) (hc : c.hot = false := by rfl)
    (hall : ∀ env, (backToKw pos (keywordEach kws env)).all (·.1.isSome) = true := by intro _; rfl) (hks : ∀ env, (backToKw pos (keywordEach kws env)).filterMap (·.1) = kwn kws := by intro _; rfl)
    (hdb : (x == ("__debug__" : Str)) = false := by decide) (hpl : ∀ env, ((backTo pos (starEach [] env)).any (·.1) || (backToKw pos (keywordEach kws env)).any (·.1.isNone)) = false := by intro _; rfl) :
    GE c (.Call (.Name x p) [] kws pos) (tFn c x 0 (kwn kws) tNil tK) := fun X h => ⟨fun pins st σ H Q I hq => by
  obtain ⟨s, hs, hq⟩ := hq
  obtain ⟨mem, ek, en, eks⟩ := shpOf_ok hs
  obtain ⟨k0, r0, all⟩ := h.fns hc
  have kp := (all s mem).kp
  rw [ek] at kp
  rw [← h.hK] at kp
  have hm := h.glo hf
  rw [← h.hK] at hm
  refine wpAny_Call_Name_kw (ld_glob I (h.gln hg) hm ?_ hdb)
  refine PySem.W.callWith_KW0 (h₀ := X.base) I.ok.mod.kin kp (hall X.env) ?_ (hpl X.env)
  refine thn ((hk X h).run pos pins st σ H _ I hq) fun ws s2 ⟨zs, H2, I2, rz, l1, l2, q2⟩ => ⟨I2.kIn, ?_⟩
  rw [hks, ← eks]
  have z := run_g h hc mem (us := []) (vs := []) I2 .nil rz (by rw [en] <;> rfl) (by rw [eks]; exact l2) q2
  rw [ek] at z
  rw [h.hK]
  exact z⟩

/-! ### methods -/
/-- o.m(..) of an instance; C: its class's name -/
def tMeth (c : Cn) (m : Str) (na : Nat) (ks : List Str) (to : TE) (tA tK : TA) : TE := fun σ H Q => to σ H fun x H1 => ∃ (d : Addr) (C : Str) (dx : Addr) (fs : List (Str × V)), x = .ref d ∧ H1 d = some (.ins (He.ga c.K C) dx fs) ∧
  hasF (isCls C) c.fa = true ∧ hasF (isMeth C m) c.fa = true ∧ fs.lookup m = none ∧ tArgs c (C, some m) na ks [.ref d] tA tK σ H1 Q
abbrev MethTree (o : Expr) (m : Str) (apos : Pos) (es : List Expr) (kws : List Keyword) (pos : Pos) : Prop := ∀ env, ∃ pl : Sem Bool, eval (.Call (.Attribute o m apos) es kws pos) env = (do
      let ov ← eval o env
      standAt apos.atName
      let (f, first) ← holding [ov] (getMethod ov m pl)
      callWith pos f first (backTo pos (starEach es env)) (backToKw pos (keywordEach kws env)))
theorem g_meth (ho : GE c o to) (ha : GA c (e :: es) tA) (hk : GK c kws tK) (hc : c.hot = false := by rfl) (ht : MethTree o m apos (e :: es) kws pos := by exact fun _ => ⟨_, rfl⟩)
    (hall : ∀ env, (backToKw pos (keywordEach kws env)).all (·.1.isSome) = true := by intro _; rfl) (hks : ∀ env, (backToKw pos (keywordEach kws env)).filterMap (·.1) = kwn kws := by intro _; rfl)
    (he : ∀ env, starEach (e :: es) env = (false, eval e env) :: starEach es env := by intro _; rfl)
    (hpl : ∀ env, ((backTo pos (starEach (e :: es) env)).any (·.1) || (backToKw pos (keywordEach kws env)).any (·.1.isNone)) = false := by intro _; rfl) :
    GE c (.Call (.Attribute o m apos) (e :: es) kws pos) (tMeth c m (e :: es).length (kwn kws) to tA tK) := fun X h => ⟨fun pins st σ H Q I hq => by
  obtain ⟨pl, ht⟩ := ht X.env
  refine PySem.W.methodCall_KW (pl := pl) (thn ((ho X h).run pins st σ H _ I hq) fun u s1 ⟨x, H1, I1, rx, d, C, dx, fs, ex, ea, k1, k2, l, s, hs, q⟩ => ?_) ht
  subst ex
  cases rx
  obtain ⟨mem, ek, en, eks⟩ := shpOf_ok hs
  have cl := h.cls k1
  have me := h.meth k2
  rw [← h.hK] at ea cl me
  refine getmeth_ok I1 ea cl me l ?_
  refine PySem.W.callWith_KW (h₀ := X.base) I1.ok.mod.kin me.kp (hall X.env) (thn ((ha X h).run pos pins s1 σ H1 _ I1 q) fun us s2 ⟨vs, H2, I2, r, q⟩ => ?_) (hpl X.env) (he X.env)
  refine thn ((hk X h).run pos pins s2 σ H2 _ I2 q) fun ws s3 ⟨zs, H3, I3, rz, l1, l2, q2⟩ => ⟨I3.kIn, ?_⟩
  rw [hks, ← eks]
  have z := run_g h hc mem I3 (us := Value.ref d :: us) (vs := V.ref d :: vs) (.cons rfl r) rz (by rw [en, List.length_cons, l1, List.length_singleton, Nat.add_comm]) (by rw [eks]; exact l2) q2
  rw [ek, ← h.hK] at z
  exact z⟩
theorem g_meth0 (ho : GE c o to) (hk : GK c kws tK) (hc : c.hot = false := by rfl) (ht : MethTree o m apos [] kws pos := by exact fun _ => ⟨_, rfl⟩)
    (hall : ∀ env, (backToKw pos (keywordEach kws env)).all (·.1.isSome) = true := by intro _; rfl) (hks : ∀ env, (backToKw pos (keywordEach kws env)).filterMap (·.1) = kwn kws := by intro _; rfl)
    (hpl : ∀ env, ((backTo pos (starEach [] env)).any (·.1) || (backToKw pos (keywordEach kws env)).any (·.1.isNone)) = false := by intro _; rfl) :
    GE c (.Call (.Attribute o m apos) [] kws pos) (tMeth c m 0 (kwn kws) to tNil tK) := fun X h => ⟨fun pins st σ H Q I hq => by
  obtain ⟨pl, ht⟩ := ht X.env
  refine PySem.W.methodCall_KW (pl := pl) (thn ((ho X h).run pins st σ H _ I hq) fun u s1 ⟨x, H1, I1, rx, d, C, dx, fs, ex, ea, k1, k2, l, s, hs, q⟩ => ?_) ht
  subst ex
  cases rx
  obtain ⟨mem, ek, en, eks⟩ := shpOf_ok hs
  have cl := h.cls k1
  have me := h.meth k2
  rw [← h.hK] at ea cl me
  refine getmeth_ok I1 ea cl me l ?_
  refine PySem.W.callWith_KW0 (h₀ := X.base) I1.ok.mod.kin me.kp (hall X.env) ?_ (hpl X.env)
  refine thn ((hk X h).run pos pins s1 σ H1 _ I1 q) fun ws s3 ⟨zs, H3, I3, rz, l1, l2, q2⟩ => ⟨I3.kIn, ?_⟩
  rw [hks, ← eks]
  have z := run_g h hc mem I3 (us := [.ref d]) (vs := [.ref d]) (.cons rfl .nil) rz (by rw [en] <;> rfl) (by rw [eks]; exact l2) q2
  rw [ek, ← h.hK] at z
  exact z⟩

/-! ### a new instance -/
theorem make_guards {A : Around} {C : Addr} {us : List Value} {kw : List (Str × Value)} (h : A.guards = some []) : (A.under (.builtin "type.__call__" ⟨.ref C :: us, kw⟩)).guards = some [] := by
  show pushGuards (Code.guards (.builtin "type.__call__" ⟨.ref C :: us, kw⟩)) A.guards = some []
  rw [h]
  first | rfl | simp [Code.guards, Code.isGuard, guardIds, pushGuards]
theorem run_mk {X : Cx} (h : Bd c X) (hc : c.hot = false) {s : Shp} (hs : s ∈ c.sh) (ek : s.key = (x, some ("__init__" : Str))) (hm : hasF (isMkr x) c.fa = true) {pins : List (Addr × Obj)} {σ : L2.St} {H : Hp} {st : Shared} {Q : VK} {us ws : List Value} {vs zs : List V}
    (I : Inv X pins σ H st) (r : Vals vs us) (rz : Vals zs ws) (l1 : vs.length + 1 = s.n) (l2 : zs.length = s.ks.length)
    (hq : ∀ d dx, H d = none → H dx = none → dx ≠ d → c.Ph s.key (plug c.K s.plan (.ref d :: vs) zs) (upd (upd H dx (.own d)) d (.ins (He.ga c.K x) dx [])) (fun v H2 => v = .non ∧ Q (.ref d) H2) (WE c.W σ)) :
    wpAny (model X.prog X.w) X.A (call (.ref (He.ga c.K x)) us (s.ks.zip ws)) (EP X pins σ Q) X.xe st := by
  obtain ⟨k, room, all⟩ := h.fns hc
  obtain ⟨fd, ps, g, F, kb⟩ := (all s hs).ex
  have M := h.mkr hm
  have I2 := Inv.made (C := He.ga c.K x) I
  have q0 := hq (st.heap.objs.size + 1) st.heap.objs.size (I.hok.fresh (Nat.le_succ _)) (I.hok.fresh (Nat.le_refl _)) (Nat.ne_of_lt (Nat.lt_succ_self _))
  have r1 : Vals (V.ref (st.heap.objs.size + 1) :: vs) (Value.ref (st.heap.objs.size + 1) :: us) := .cons rfl r
  have bt := kb.to _ (Value.ref (st.heap.objs.size + 1) :: us) ws I2.kIn (by rw [List.length_cons, ← r.length]; exact l1) (rz.length.symm.trans l2)
  have ef : He.fAd c.K s.key = He.ma c.K (He.ga c.K x) "__init__" := by rw [ek] <;> rfl
  rw [ef] at F
  have kin := I.kIn
  rw [h.hK] at kin
  refine wpAny_call (make_map kin M.makes M.init (beq_iff_eq.mp M.fn) (codeAny_mono (F.run _ X.stack _ _ ⟨Value.ref (st.heap.objs.size + 1) :: us, s.ks.zip ws⟩ _ _ _ (WE c.W σ) (room.make _ us _) (make_guards h.gu)
    (I2.env0.make _ us _) bt (kb.rel r1 rz) q0) fun res s2 z => ?_))
  cases res with
  | error er => exact passAt h.tk σ pins _ _ er s2 I2 z
  | ok fl =>
    cases fl with
    | ret u =>
      obtain ⟨v, H3, I3, rv, ev, q3⟩ := I2.after z
      subst ev
      exact ⟨rv, ⟨.ref (st.heap.objs.size + 1), H3, I3, rfl, q3⟩⟩
    | next => exact z.elim
    | brk => exact z.elim
    | cont => exact z.elim
def tMk (c : Cn) (x : Str) (na : Nat) (ks : List Str) (tA tK : TA) : TE := fun σ H Q => hasF (isMkr x) c.fa = true ∧ ∃ s, shpOf c.sh (x, some ("__init__" : Str)) (na + 1) ks = some s ∧ tA σ H fun vs H1 => tK σ H1 fun zs H2 => vs.length = na ∧ zs.length = ks.length ∧
  ∀ d dx, H2 d = none → H2 dx = none → dx ≠ d → c.Ph s.key (plug c.K s.plan (.ref d :: vs) zs) (upd (upd H2 dx (.own d)) d (.ins (He.ga c.K x) dx [])) (fun v H3 => v = .non ∧ Q (.ref d) H3) (WE c.W σ)
theorem g_make (ha : GA c (e :: es) tA) (hk : GK c kws tK) (hg : GlN c x := by rfl) (hf : hasF (isGlo x) c.fa = true := by rfl) (hc : c.hot = false := by rfl)
    (hall : ∀ env, (backToKw pos (keywordEach kws env)).all (·.1.isSome) = true := by intro _; rfl) (hks : ∀ env, (backToKw pos (keywordEach kws env)).filterMap (·.1) = kwn kws := by intro _; rfl)
    (hdb : (x == ("__debug__" : Str)) = false := by decide) (he : ∀ env, starEach (e :: es) env = (false, eval e env) :: starEach es env := by intro _; rfl)
    (hpl : ∀ env, ((backTo pos (starEach (e :: es) env)).any (·.1) || (backToKw pos (keywordEach kws env)).any (·.1.isNone)) = false := by intro _; rfl) :
    GE c (.Call (.Name x p) (e :: es) kws pos) (tMk c x (e :: es).length (kwn kws) tA tK) := fun X h => ⟨fun pins st σ H Q I hq => by
  obtain ⟨mk, s, hs, hq⟩ := hq
  obtain ⟨mem, ek, en, eks⟩ := shpOf_ok hs
  have kp := (h.mkr mk).kp
  have hm := h.glo hf
  rw [← h.hK] at hm kp
  refine wpAny_Call_Name_kw (ld_glob I (h.gln hg) hm ?_ hdb)
  refine PySem.W.callWith_KW (h₀ := X.base) I.ok.mod.kin kp (hall X.env) (thn ((ha X h).run pos pins st σ H _ I hq) fun us s1 ⟨vs, H1, I1, r, q⟩ => ?_) (hpl X.env) (he X.env)
  refine thn ((hk X h).run pos pins s1 σ H1 _ I1 q) fun ws s2 ⟨zs, H2, I2, rz, l1, l2, q2⟩ => ⟨I2.kIn, ?_⟩
  rw [hks, ← eks]
  have z := run_mk h hc mem ek mk I2 r rz (by rw [en, l1]) (by rw [eks]; exact l2) q2
  rw [h.hK]
  exact z⟩
theorem g_make0 (hk : GK c kws tK) (hg : GlN c x := by rfl) (hf : hasF (isGlo x) c.fa = true := by rfl) (hc : c.hot = false := by rfl)
    (hall : ∀ env, (backToKw pos (keywordEach kws env)).all (·.1.isSome) = true := by intro _; rfl) (hks : ∀ env, (backToKw pos (keywordEach kws env)).filterMap (·.1) = kwn kws := by intro _; rfl)
    (hdb : (x == ("__debug__" : Str)) = false := by decide) (hpl : ∀ env, ((backTo pos (starEach [] env)).any (·.1) || (backToKw pos (keywordEach kws env)).any (·.1.isNone)) = false := by intro _; rfl) :
    GE c (.Call (.Name x p) [] kws pos) (tMk c x 0 (kwn kws) tNil tK) := fun X h => ⟨fun pins st σ H Q I hq => by
  obtain ⟨mk, s, hs, hq⟩ := hq
  obtain ⟨mem, ek, en, eks⟩ := shpOf_ok hs
  have kp := (h.mkr mk).kp
  have hm := h.glo hf
  rw [← h.hK] at hm kp
  refine wpAny_Call_Name_kw (ld_glob I (h.gln hg) hm ?_ hdb)
  refine PySem.W.callWith_KW0 (h₀ := X.base) I.ok.mod.kin kp (hall X.env) ?_ (hpl X.env)
  refine thn ((hk X h).run pos pins st σ H _ I hq) fun ws s2 ⟨zs, H2, I2, rz, l1, l2, q2⟩ => ⟨I2.kIn, ?_⟩
  rw [hks, ← eks]
  have z := run_mk h hc mem ek mk I2 (us := []) (vs := []) .nil rz (by rw [en] <;> rfl) (by rw [eks]; exact l2) q2
  rw [h.hK]
  exact z⟩
end
end Rw

namespace Rw
open PySem PySem.Spec PyProof.Rows L2
section
variable {c : Cn} {a b d e o tg : Expr} {es : List Expr} {kws : List Keyword} {ta tb tc te to : TE} {t u : TT} {tA tK : TA} {ts us : TS} {wi : TI} {g g2 : TG} {gg : TGs} {pos apos p p2 : Pos} {x y m : Str} {ks : List Str} {st : Stmt} {sts : List Stmt}

/-! ### what is walked -/
theorem PI.or {X : Cx} {w1 w2 : TI} (h1 : PI X tg e w1) (h2 : PI X tg e w2) : PI X tg e (fun σ H R => w1 σ H R ∨ w2 σ H R) := ⟨fun pins s σ H R I q => q.elim (h1.run pins s σ H R I) (h2.run pins s σ H R I)⟩
/-- a list or a tuple -/
def iSeq (K : PySem.W.Frag) (ta : TE) : TI := fun σ H R => iList K ta σ H R ∨ iTup K ta σ H R
theorem gi_seq (h : GE c e te) : GI c tg e (iSeq c.K te) := fun X b => by
  have := PI.or (tg := tg) (pi_list (h X b)) (pi_tup (h X b))
  rw [b.hK] at this
  exact this
theorem gi_str (h : GE c e te) : GI c tg e (iStr te) := fun X b => pi_str (h X b)
theorem gi_rng1 (ha : GE c a ta) (hg : GlN c "range" := by rfl) (hf : hasF (isFree "range") c.fa = true := by rfl) (hs : ∀ env, starEach [a] env = [(false, eval a env)] := by intro _; rfl) : GI c tg (.Call (.Name "range" p) [a] [] pos) (iRng1 (tCons ta tNil)) := fun X h =>
  pi_range1 (h.gln hg) (h.free hf) (pa_cons (ha X h) pa_nil (hs X.env)) (hs X.env)
theorem gi_rng2 (ha : GE c a ta) (hb : GE c b tb) (hg : GlN c "range" := by rfl) (hf : hasF (isFree "range") c.fa = true := by rfl) (hs : ∀ env, starEach [a, b] env = [(false, eval a env), (false, eval b env)] := by intro _; rfl)
    (hs2 : ∀ env, starEach [b] env = [(false, eval b env)] := by intro _; rfl) : GI c tg (.Call (.Name "range" p) [a, b] [] pos) (iRng2 (tCons ta (tCons tb tNil))) := fun X h =>
  pi_range2 (h.gln hg) (h.free hf) (pa_cons (ha X h) (pa_cons (hb X h) pa_nil (hs2 X.env)) (by rw [hs X.env, hs2 X.env])) (hs X.env) (hs2 X.env)
/-- a dict by its keys, its values, its items: locked -/
theorem gi_keys (h : GE c e te) : GI c tg e (iKeys te) := fun X b => pi_keys (h X b)
theorem gi_values (h : GE c e te) (hb : ∀ env w, attributeBase e "values" env w = w := by intro _ _; rfl) (hl : (apos.endLine == pos.line) = true := by rfl) : GI c tg (.Call (.Attribute e "values" apos) [] [] pos) (iVals te) := fun X b => pi_values (h X b) (hb X.env _) hl
theorem gi_items {k : Nat} (h : GE c e te) (hb : ∀ env w, attributeBase e "items" env w = w := by intro _ _; rfl) (hl : (apos.endLine == pos.line) = true := by rfl) : GI c (.Tuple es k p2) (.Call (.Attribute e "items" apos) [] [] pos) (iItems te) := fun X b => pi_items (h X b) (hb X.env _) hl
theorem gi_enum {k : Nat} (ha : GE c a ta) (hg : GlN c "enumerate" := by rfl) (hf : hasF (isFree "enumerate") c.fa = true := by rfl) (hs : ∀ env, starEach [a] env = [(false, eval a env)] := by intro _; rfl) : GI c (.Tuple es k p2) (.Call (.Name "enumerate" p) [a] [] pos) (iEnum c.K (tCons ta tNil)) := fun X h => by
  have := pi_enum (tpos := p2) (elts := es) (kk := k) (p := p) (pos := pos) (h.gln hg) (h.free hf) (pa_cons (ha X h) pa_nil (hs X.env)) (hs X.env)
  rw [h.hK] at this
  exact this

/-! ### targets -/
theorem gg_name (i : Nat) (hN : c.N[i]? = some x := by rfl) (hx : Loc c.sc x := by first | exact Or.inl rfl | exact Or.inr rfl) (hf : c.fnn x = true ∨ c.sc.names.lookup x = some .local := by first | exact Or.inl rfl | exact Or.inr rfl) : GG c (.Name x pos) (gName i) := fun X h => by
  refine pg_name (i := i) (by rw [h.hN]; exact h.nd) (by rw [h.hN]; exact hN) (by rw [h.hsc]; exact hx) ?_
  rcases hf with z | z
  · exact .inl (h.fn x z)
  · exact .inr (by rw [h.hsc]; exact z)
theorem ggs_nil : GGs c [] gNil := fun _ _ => pgs_nil
theorem ggs_cons (h1 : GG c e g) (h2 : GGs c es gg) (hs : ∀ env, (assignEach (e :: es) env).map (·.2) = assign e env :: (assignEach es env).map (·.2) := by intro _; rfl) : GGs c (e :: es) (gCons g gg) := fun X b => pgs_cons (h1 X b) (h2 X b) (hs X.env)
theorem PG.or {X : Cx} {g1 g2 : TG} (h1 : PG X e g1) (h2 : PG X e g2) : PG X e (fun v σ H Q => g1 v σ H Q ∨ g2 v σ H Q) := ⟨fun pins s σ H v u Q I r q => q.elim (h1.run pins s σ H v u Q I r) (h2.run pins s σ H v u Q I r)⟩
/-- of a tuple | of a list -/
def gUnp (K : PySem.W.Frag) (n : Nat) (gg : TGs) : TG := fun v σ H Q => gTup K n gg v σ H Q ∨ gLst K n gg v σ H Q
theorem gg_tup {k : Nat} (n : Nat) (h : GGs c es gg) (hc : c.hot = false := by rfl) (hn : ∀ env, (assignEach es env).length = n := by intro _; rfl) (hst : ∀ env, (assignEach es env).findIdx? (·.1) = none := by intro _; rfl) : GG c (.Tuple es k pos) (gUnp c.K n gg) := fun X b => by
  have := PG.or (pg_tup (pos := pos) (k := k) (b.calm hc) (h X b) (hn X.env) (hst X.env)) (pg_lst (pos := pos) (k := k) (b.calm hc) (h X b) (hn X.env) (hst X.env))
  rw [b.hK] at this
  exact this
/-- o[i] = v of a list, of a dict -/
def rPutU : TSet := fun o i v H Q => rSetL o i v H Q ∨ rSetD o i v H Q
theorem put_all (X : Cx) (h : Bd c X) : PSet X rPutU := fun pins s σ H o i v ov iv u Q I r1 r2 r3 q => q.elim (set_list pins s σ H o i v ov iv u Q I r1 r2 r3) (set_dict (by have := h.un; omega) pins s σ H o i v ov iv u Q I r1 r2 r3)
theorem gg_sub (ho : GE c o to) (hi : GE c d tb) (ha : ∀ env v, assign (.Subscript o d pos) env v = (do
      let ov ← holding [v] (eval o env)
      let iv ← holding [v, ov] (eval d env)
      standAt pos
      holding [v, ov, iv] (setItem ov iv v)
      release [v, ov, iv] []) := by intro _ _; rfl) : GG c (.Subscript o d pos) (gSub to tb rPutU) := fun X h => pg_sub (ho X h) (hi X h) (put_all X h) (ha X.env)

/-! ### statements -/
theorem sw_at {tgs : List Expr} {env : Env} {sc : Scope} (h : env.scope = sc) : swappedStores tgs e env = swappedStores tgs e (envOfC "x" sc 0 0 .none) := by
  subst h
  rfl
theorem gb_nil : GB c [] tNext := fun _ _ => pss_nil
theorem gb_cons (h1 : GS c st ts) (h2 : GB c sts us) : GB c (st :: sts) (tSeq ts us) := fun X h => pss_cons (h1 X h) (h2 X h)
theorem gb_one (h1 : GS c st ts) : GB c [st] ts := fun X h => pss_one (h1 X h)
theorem gs_pass : GS c (.Pass pos) tNext := fun _ _ => ps_pass
theorem gs_doc {z : Str} {j} : GS c (.Expr (.Constant (.str z) j p) pos) tNext := fun _ _ => ps_doc
theorem gs_expr (h : GE c e te) (hs : ∀ env, swapsWith e none pos.line env = pure false := by intro _; rfl) : GS c (.Expr e pos) (tDrop te) := fun X b => ps_expr (h X b) (hs X.env)
theorem gs_ret (h : GE c e te) : GS c (.Return (some e) pos) (tRet te) := fun X b => ps_ret (h X b)
theorem gs_retN : GS c (.Return none pos) tRetN := fun _ _ => ps_retN
theorem gs_if {ss1 ss2 : List Stmt} (hc : GT c e t) (h1 : GB c ss1 ts) (h2 : GB c ss2 us) : GS c (.If e ss1 ss2 pos) (tIfS t ts us) := fun X b => ps_if (hc X b) (h1 X b) (h2 X b)
theorem gs_never : GS c st tNever := fun _ _ => ps_never
theorem gb_never : GB c sts tNever := fun _ _ => pss_never
theorem gs_while {ss : List Stmt} (hc : GT c e t) (h1 : GB c ss ts) : GS c (.While e ss [] pos) (tWhile t ts) := fun X b => ps_while b.po (hc X b) (h1 X b)
theorem gs_for {ss : List Stmt} (hi : GI c tg e wi) (hg : GG c tg g) (hb : GB c ss ts) (hc : c.hot = false := by rfl) (hs : ∀ env x, foldedSetIterable e env x = pure x := by intro _ _; rfl) : GS c (.For tg e ss [] pos) (tFor wi g ts) := fun X b => ps_for b.po (b.calm hc) (hi X b) (hg X b) (hb X b) (hs X.env)
theorem gs_lock (h : GS c st ts) : GS c st (tLock ts) := fun X b => ps_lock (h X b)
theorem g_lock (h : GE c e te) : GE c e (tLockE te) := fun X b => pe_lock (h X b)
theorem gs_asg (he : GE c e te) (hg : GG c tg g) (hs : ∀ env, swapsWithSole [tg] e pos.line env = pure false := by intro _; rfl) (hw : ∀ env, env.scope = c.sc → swappedStores [tg] e env = pure none := by first | (intro _ _; rfl) | exact fun _ h => (sw_at h).trans rfl)
    (h1 : ∀ env, (assignEach [tg] env).map (·.2) = [assign tg env] := by intro _; rfl) : GS c (.Assign [tg] e pos) (tAsg te g) := fun X b => ps_asg (he X b) (hg X b) (hs X.env) (hw X.env b.hsc) (h1 X.env)
/-- a, b = e1, e2 -/
theorem gs_par {px py pt : Pos} {kt k2 pt2} (i j : Nat) (ha : GE c a ta) (hb : GE c b tb) (hi : c.N[i]? = some x := by rfl) (hj : c.N[j]? = some y := by rfl) (hij : i ≠ j := by decide) (hc : c.hot = false := by rfl) (hx : c.sc.names.lookup x = some .local := by rfl) (hy : c.sc.names.lookup y = some .local := by rfl)
    (hw : ∀ env, env.scope = c.sc → swappedStores [.Tuple [.Name x px, .Name y py] kt pt] (.Tuple [a, b] k2 pt2) env = pure (some [x, y]) := by exact fun _ h => (sw_at h).trans rfl)
    (hs : ∀ env, swapsWithSole [.Tuple [.Name x px, .Name y py] kt pt] (.Tuple [a, b] k2 pt2) pos.line env = pure false := by intro _; rfl)
    (s1 : ∀ env, starEach [a, b] env = (false, eval a env) :: starEach [b] env := by intro _; rfl) (s2 : ∀ env, starEach [b] env = (false, eval b env) :: starEach [] env := by intro _; rfl) :
    GS c (.Assign [.Tuple [.Name x px, .Name y py] kt pt] (.Tuple [a, b] k2 pt2) pos) (tPar i j (tCons ta (tCons tb tNil))) := fun X h =>
  ps_par (h.calm hc) (by rw [h.hN]; exact h.nd) (by rw [h.hN]; exact hi) (by rw [h.hN]; exact hj) hij (by rw [h.hsc]; exact hx) (by rw [h.hsc]; exact hy) (pa_cons (ha X h) (pa_cons (hb X h) pa_nil (s2 X.env)) (s1 X.env)) (hw X.env h.hsc) (hs X.env)
/-- o.f = e, of an instance -/
def sAttr (K : PySem.W.Frag) (fa : List He.Fa) (to tv : TE) (f : Str) : TS := fun D σ H => tv σ H fun y H1 => to σ H1 fun x H2 => ∃ (q : Addr) (C : Str) (dx : Addr) (fs : List (Str × V)), x = .ref q ∧ H2 q = some (.ins (He.ga K C) dx fs) ∧
  hasF (isCls C) fa = true ∧ hasF (isNoat C f) fa = true ∧ fs.length < 1000 ∧ D.nx σ (upd H2 q (.ins (He.ga K C) dx (putF f y fs)))
theorem gs_attr {f : Str} {p' : Pos} (ho : GE c o to) (he : GE c e te) (hs : ∀ env, swapsWith e (some (.Attribute o f p')) pos.line env = pure false := by intro _; rfl) : GS c (.Assign [.Attribute o f p'] e pos) (sAttr c.K c.fa to te f) := fun X h => ⟨fun pins s σ H D I hq => by
  refine plainObj_wpAny_Assign_Attribute (thn ((he X h).run pins s σ H _ I hq) fun u s1 ⟨y, H1, I1, ry, q⟩ => thn ((ho X h).run pins s1 σ H1 _ I1 q) fun ov s2 ⟨x, H2, I2, rx, q0, C, dx, fs, ex, ea, k1, k2, l, q2⟩ => ?_) (hs X.env)
  subst ex
  cases rx
  have cl := h.cls k1
  have na := h.noat k2
  rw [← h.hK] at ea cl na q2
  exact setattr_ok I2 ea cl na l ry fun s3 I3 => ⟨σ, _, I3, q2⟩⟩
def sAttrAug (K : PySem.W.Frag) (fa : List He.Fa) (to tv : TE) (rd : V → V → Hp → VK → Prop) (f : Str) : TS := fun D σ H => to σ H fun x H1 => ∃ (q : Addr) (C : Str) (dx : Addr) (fs : List (Str × V)) (v : V), x = .ref q ∧ H1 q = some (.ins (He.ga K C) dx fs) ∧
  hasF (isCls C) fa = true ∧ hasF (isNoat C f) fa = true ∧ fs.lookup f = some v ∧ tv σ H1 fun y H2 => rd v y H2 fun z H3 => ∃ dx' fs', H3 q = some (.ins (He.ga K C) dx' fs') ∧ fs'.length < 1000 ∧ D.nx σ (upd H3 q (.ins (He.ga K C) dx' (putF f z fs')))
theorem gs_attrAug {f : Str} {op : Operator} {rd : V → V → Hp → VK → Prop} {p' : Pos} (ho : GE c o to) (he : GE c e te) (hop : ∀ X, InOp X op rd) : GS c (.AugAssign (.Attribute o f p') op e pos) (sAttrAug c.K c.fa to te rd f) := fun X h => ⟨fun pins s σ H D I hq => by
  refine wpAny_AugAssign_AttributeAny (thn ((ho X h).run pins s σ H _ I hq) fun ov s1 ⟨x, H1, I1, rx, q0, C, dx, fs, v, ex, ea, k1, k2, l, q⟩ => ?_)
  subst ex
  cases rx
  have cl := h.cls k1
  have na := h.noat k2
  have hK := h.hK
  rw [← hK] at ea cl na
  refine getattr_ok I1 ea cl na l fun u s2 I2 ru => thn ((he X h).run pins s2 σ H1 _ I2 q) fun w3 s3 ⟨y, H2, I3, ry, q3⟩ => thn (hop X pins s3 σ H2 v y u w3 _ I3 ru ry q3) fun w4 s4 ⟨z, H3, I4, rz, dx', fs', ea', l', q4⟩ => ?_
  rw [← hK] at ea' q4
  exact setattr_ok I4 ea' cl na l' rz fun s5 I5 => ⟨σ, _, I5, q4⟩⟩
theorem gs_aug {op : Operator} {ti : TIp} (i : Nat) (he : GE c e te) (hop : ∀ X, PIp X op ti) (hN : c.N[i]? = some x := by rfl) (hx : Loc c.sc x := by first | exact Or.inl rfl | exact Or.inr rfl) (hf : c.fnn x = true ∨ c.sc.names.lookup x = some .local := by first | exact Or.inl rfl | exact Or.inr rfl) :
    GS c (.AugAssign (.Name x p) op e pos) (tAug i te ti) := fun X h => by
  refine ps_aug (i := i) (by rw [h.hN]; exact h.nd) (by rw [h.hN]; exact hN) (by rw [h.hsc]; exact hx) (he X h) (hop X) ?_
  rcases hf with z | z
  · exact .inl (h.fn x z)
  · exact .inr (by rw [h.hsc]; exact z)

/-! ### comprehensions -/
theorem gts_nil : GTs c [] tYes := fun _ _ => pts_nil
theorem gts_one (h : GT c e t) : GTs c [e] t := fun X b => pts_one (h X b)
theorem Bd.blkok {X : Cx} {scope : Scope} {own : List (Str × Nat)} (h : Bd c X) (ok : blkC c.N c.sc scope own = true) : BlkOk X.N X.env.scope scope own := by
  rw [h.hN, h.hsc]
  exact blkOk_by ok
theorem g_lc {ifs : List Expr} {scope : Scope} (own : List (Str × Nat)) (vs : List Nat) (hi : GI c tg b wi) (hg : GG (c.blk scope) tg g) (ht : GTs (c.blk scope) ifs t) (he : GE (c.blk scope) e te) (ok : blkC c.N c.sc scope own = true := by rfl) (hvs : own.map (·.2) = vs := by rfl) (hc : c.hot = false := by rfl)
    (hs : ∀ env x, foldedSetIterable b env x = pure x := by intro _ _; rfl) : GE c (.ListComp e [⟨tg, b, ifs, 0⟩] scope pos) (tLc wi g t te vs) := fun X h => by
  subst hvs
  exact pe_lc (h.calm hc) (by rw [h.hN]; exact h.nd) (hi X h) (h.blkok ok) (fun s H C cl fp => hg _ (h.blk s H scope C cl fp)) (fun s H C cl fp => ht _ (h.blk s H scope C cl fp)) (fun s H C cl fp => he _ (h.blk s H scope C cl fp)) (hs X.env)
/-- x = [..] -/
theorem gs_lc {ifs : List Expr} {scope : Scope} (i : Nat) (own : List (Str × Nat)) (vs : List Nat) (hi : GI c tg b wi) (hg : GG (c.blk scope) tg g) (ht : GTs (c.blk scope) ifs t) (he : GE (c.blk scope) e te)
    (hw : ∀ env, env.scope = c.sc → swapsWith (.ListComp e [⟨tg, b, ifs, 0⟩] scope p2) (some (.Name x p)) pos.line env = pure true := by exact fun _ h => by subst h; rfl)
    (ok : blkC c.N c.sc scope own = true := by rfl) (hvs : own.map (·.2) = vs := by rfl) (hc : c.hot = false := by rfl) (hN : c.N[i]? = some x := by rfl) (hx : c.sc.names.lookup x = some .local := by rfl)
    (hs : ∀ env x, foldedSetIterable b env x = pure x := by intro _ _; rfl) : GS c (.Assign [.Name x p] (.ListComp e [⟨tg, b, ifs, 0⟩] scope p2) pos) (tAsg (tLc wi g t te vs) (gName i)) := fun X h => by
  subst hvs
  exact ps_setLc (h.calm hc) (by rw [h.hN]; exact h.nd) (by rw [h.hN]; exact hN) (by rw [h.hsc]; exact hx) (hw X.env h.hsc) (hi X h) (h.blkok ok) (fun s H C cl fp => hg _ (h.blk s H scope C cl fp)) (fun s H C cl fp => ht _ (h.blk s H scope C cl fp)) (fun s H C cl fp => he _ (h.blk s H scope C cl fp)) (hs X.env)
end
end Rw

namespace Rw
open PySem PySem.Spec PyProof.Rows L2

/-! ### a def's body keeps its promise -/
theorem deeper_guards {A : Around} {env : Env} (h : A.guards = some []) : (A.deeper env).guards = some [] := h
theorem fn_g {P : Program} {w : World} {K : PySem.W.Frag} {mg : Str → Option Value} {base : Heap} {k : Nat} {f : Addr} {nm qual : Str} {params : Arguments} {body : List Stmt} {scope : Scope} {dvs : List V} {kws : List (Str × V)} {fd : FuncData} {N ps : List Str} {sp : Sp}
    (F : FunD K nm qual params body scope dvs kws f fd) (S : FnScope N ps scope) (hlen : ∀ vs H Q E, sp vs H Q E → vs.length = ps.length)
    (hb : ∀ (cdv : Value) (A : Around) (outer : List Env) (s : Shared) (H : Hp) (vs : List V) (Q : VK) (E : XK), Room k (A.deeper (envOfC qual scope s.heap.objs.size f cdv)) → A.guards = some [] → sp vs H Q E →
      ∃ t, PSs (cxOf (L2.CX P w) P w K mg base N qual scope f cdv A outer s H E) body t ∧ t { nx := fun _ H2 => Q .non H2, rt := Q } (start N vs) H) : FnG P w K mg base (k + 1) f fd ps sp := by
  obtain ⟨oc, od, dV, kV, doc, pm, an, cdv, ct, osl, efd, look, code, _, _⟩ := F.ex
  subst efd
  constructor
  · exact hlen
  intro A outer s H args us vs Q E room gu e0 bt rel hsp
  have hkeep : ∀ b o, base.get? b = some o → s.heap.get? b = some o := fun b o z => (e0.bs b o z).1
  have hin : K.In s.heap := e0.mod.kin.keeps hkeep
  have hlim := e0.mod.nolimit.keeps hkeep
  refine codeAny_call_function room.depth (hin _ _ look) rfl S.co S.gen rfl (PySem.W.codeRec_of hin code) (bt _ _ _ _ ?_)
  have hpar : ∀ z ∈ ps.zip us, scope.names.lookup z.1 = some .local ∨ (scope.names.lookup z.1 = some .cell ∧ ((cellsFrom (s.heap.objs.size + 1) scope.names []).lookup z.1).isSome = true) := by
    rintro ⟨n, v⟩ hz
    refine (S.par n (List.of_mem_zip hz).1).elim Or.inl fun q => Or.inr ⟨q, ?_⟩
    exact PySem.W.cellsFrom_some _ _ _ (.inl q)
  refine wpAny_newFunctionEnv_cells S.kind hpar fun env eenv s1 fresh => ?_
  subst eenv
  refine ⟨hlim.keeps fresh.toInCall.keep, codeAny_func ?_⟩
  obtain ⟨t, ht, hq⟩ := hb cdv A outer s H vs Q E (room.deeper _) gu hsp
  have I0 := inv_start (CX := L2.CX P w) (E := E) S room.hd e0 (hlen _ _ _ _ hsp) rel fresh
  have run := ht.run [] s1 _ H _ I0 hq
  refine wpAny_mono run (fun fl s2 z => ?_) fun _ _ z => z
  cases fl with
  | brk => exact z.elim fun _ z => z.elim fun _ z => z.2.elim
  | cont => exact z.elim fun _ z => z.elim fun _ z => z.2.elim
  | next =>
    obtain ⟨σ2, H2, J, q⟩ := z
    exact ⟨V.non, H2, J.os, J.bare, J.base, J.hok, rfl, q⟩
  | ret u =>
    obtain ⟨v, σ2, H2, J, rv, q⟩ := z
    exact ⟨v, H2, J.os, J.bare, J.base, J.hok, rv, q⟩

/-! ### the program's defs, level by level -/
structure Ent where
  d : He.DefD
  ps : List Str
  N : List Str
  T : PySem.W.Frag → (Ky → Sp) → WX → TS
def cn0 (fa : List He.Fa) (sh : List Shp) (K : PySem.W.Frag) (Ph : Ky → Sp) (N : List Str) (sc : Scope) (W : WX) : Cn := ⟨false, true, K, fa, sh, Ph, N, sc, fun _ => true, W⟩
def EntOk (fa : List He.Fa) (sh : List Shp) (en : Ent) : Prop := ∀ (K : PySem.W.Frag) (Ph : Ky → Sp) (W : WX), GB (cn0 fa sh K Ph en.N en.d.scope W) en.d.body (en.T K Ph W)
def entOf (es : List Ent) (k : Ky) : Option Ent := es.find? fun en => decide (en.d.at_ = k)
def lev (K : PySem.W.Frag) (es : List Ent) : Nat → Ky → Sp
  | 0, _ => fun _ _ _ _ => False
  | n + 1, k => match entOf es k with
    | some en => fun vs H Q E => vs.length = en.ps.length ∧ en.T K (lev K es n) (fun cls dd _ H2 => E cls dd H2) { nx := fun _ H2 => Q .non H2, rt := Q } (start en.N vs) H
    | none => fun _ _ _ _ => False
/-- the way into a def -/
theorem lev_in {K : PySem.W.Frag} {es : List Ent} {n : Nat} {k : Ky} {en : Ent} {vs : List V} {H : Hp} {Q : VK} {E : XK} (e : entOf es k = some en) (hl : vs.length = en.ps.length)
    (h : en.T K (lev K es n) (fun cls dd _ H2 => E cls dd H2) { nx := fun _ H2 => Q .non H2, rt := Q } (start en.N vs) H) : lev K es (n + 1) k vs H Q E := by
  unfold lev
  rw [e]
  exact ⟨hl, h⟩
def scB (N ps : List Str) (sc : Scope) : Bool := (match sc.kind with | .function => true | _ => false) && (!sc.isCoroutine && (!sc.isGenerator && (decide N.Nodup && (decide (N.take ps.length = ps) &&
  ((ps.all fun x => match sc.names.lookup x with | some .local => true | some .cell => true | _ => false) && sc.names.all fun y => match y.2 with | .free => false | _ => true)))))
theorem scB_ok {N ps : List Str} {sc : Scope} (h : scB N ps sc = true) : FnScope N ps sc := by
  unfold scB at h
  obtain ⟨h1, h⟩ := He.ba h
  obtain ⟨h2, h⟩ := He.ba h
  obtain ⟨h3, h⟩ := He.ba h
  obtain ⟨h4, h⟩ := He.ba h
  obtain ⟨h5, h⟩ := He.ba h
  obtain ⟨h6, h7⟩ := He.ba h
  refine ⟨?_, by simpa using h2, by simpa using h3, of_decide_eq_true h4, of_decide_eq_true h5, fun x hx => ?_, fun y hy e => ?_⟩
  · split at h1
    · assumption
    · cases h1
  · have q := List.all_eq_true.mp h6 x hx
    split at q
    · exact .inl (by assumption)
    · exact .inr (by assumption)
    · cases q
  · have q := List.all_eq_true.mp h7 y hy
    rw [e] at q
    cases q

/-! ### how a call's arguments come to the parameters -/
def plugV (plan : List Src) (us ws : List Value) : List Value := plan.map fun s => match s with
  | .pos i => us.getD i .none
  | .kw j => ws.getD j .none
  | .dfl _ => .none
theorem vals_getD {vs : List V} {us : List Value} (r : Vals vs us) (i : Nat) : RelV (vs.getD i .non) (us.getD i .none) := by
  rw [List.getD_eq_getElem?_getD, List.getD_eq_getElem?_getD]
  cases e : vs[i]? with
  | some v =>
    obtain ⟨u, eu, ru⟩ := r.get e
    rw [eu]
    exact ru
  | none =>
    rw [r.none_of e]
    exact rfl
def noDfl (plan : List Src) : Bool := plan.all fun s => match s with | .dfl _ => false | _ => true
theorem plug_rel {K : PySem.W.Frag} {vs zs : List V} {us ws : List Value} (r : Vals vs us) (rz : Vals zs ws) : ∀ {plan : List Src}, noDfl plan = true → Vals (plug K plan vs zs) (plugV plan us ws)
  | [], _ => .nil
  | .pos i :: l, h => .cons (by show L2.RelV (nth vs i) _; rw [nth_at]; exact vals_getD r i) (plug_rel r rz (plan := l) h)
  | .kw j :: l, h => .cons (by show L2.RelV (nth zs j) _; rw [nth_at]; exact vals_getD rz j) (plug_rel r rz (plan := l) h)
  | .dfl _ :: _, h => by cases h
/-- s is a way to call en -/
def ShpOk (es : List Ent) (s : Shp) : Prop := ∃ en, entOf es s.key = some en ∧ ∀ (K : PySem.W.Frag) (fd : FuncData), FunD K en.d.name en.d.qual en.d.params en.d.body en.d.scope (en.d.dvs K) (en.d.kws K) (He.fAd K s.key) fd →
  ∃ g, KBn K fd en.ps s.n s.ks g (plug K s.plan)
theorem shp_plain {es : List Ent} {s : Shp} {en : Ent} (e : entOf es s.key = some en) (hd : en.d.dfl = []) (hp : noDfl s.plan = true)
    (h : ∀ (kV doc pm : Value) (an : Option Addr) (cdv ct : Value) (us ws : List Value), us.length = s.n → ws.length = s.ks.length →
      bindArgs (PySem.W.fnOf en.d.name en.d.qual en.d.params en.d.body en.d.scope .none kV doc pm an cdv ct) ⟨us, s.ks.zip ws⟩ = pure (en.ps.zip (plugV s.plan us ws))) : ShpOk es s := by
  refine ⟨en, e, fun K fd F => ⟨plugV s.plan, ⟨fun st us ws _ h1 h2 => ?_, fun r rz => plug_rel r rz hp⟩⟩⟩
  obtain ⟨oc, od, dV, kV, doc, pm, an, cdv, ct, osl, efd, look, code, hD, _⟩ := F.ex
  have edv : en.d.dvs K = [] := by unfold He.DefD.dvs; rw [hd]; rfl
  rcases hD with ⟨_, ed⟩ | ⟨ne, _⟩
  · subst efd ed
    exact .of_eq (h kV doc pm an cdv ct us ws h1 h2)
  · exact absurd edv ne

section
variable {P : Program} {w : World} {K : PySem.W.Frag} {mg : Str → Option Value} {base : Heap} {fa : List He.Fa} {sh : List Shp} {es : List Ent}
theorem fun_of (c : He.SaysD fa (es.map (·.d)) K) {en : Ent} (h : en ∈ es) : ∃ fd, FunD K en.d.name en.d.qual en.d.params en.d.body en.d.scope (en.d.dvs K) (en.d.kws K) (He.fAd K en.d.at_) fd := by
  obtain ⟨i, hi, e⟩ := List.getElem_of_mem (List.mem_map_of_mem (f := (·.d)) h)
  exact c.def_ i (d := en.d) (by rw [List.getElem?_eq_getElem hi, e])
theorem entOf_ok {k : Ky} {en : Ent} (e : entOf es k = some en) : en ∈ es ∧ en.d.at_ = k := by
  unfold entOf at e
  exact ⟨List.mem_of_find?_eq_some e, of_decide_eq_true (List.find?_some (p := fun en : Ent => decide (en.d.at_ = k)) e)⟩
/-- ALL DEFS keep what their bodies' readings ask, at every level -/
theorem callees (hin : K.In base) (hns : base.Ns mainGlobals mg) (c : He.SaysD fa (es.map (·.d)) K) (hes : ∀ en ∈ es, EntOk fa sh en) (hsc : (es.all fun en => scB en.N en.ps en.d.scope) = true) (hsh : ∀ s ∈ sh, ShpOk es s) :
    ∀ (n : Nat) (s : Shp), s ∈ sh → CalleeP P w K mg base K (2 * n) s (lev K es n s.key) := by
  have hfa : ∀ f ∈ fa, f.ok K = true := fun f hf => by
    obtain ⟨i, hi, e⟩ := List.getElem_of_mem hf
    exact c.fact i (by rw [List.getElem?_eq_getElem hi, e])
  intro n
  induction n with
  | zero =>
    intro s hs
    obtain ⟨en, e, kb⟩ := hsh s hs
    obtain ⟨mem, ek⟩ := entOf_ok e
    obtain ⟨fd, F⟩ := fun_of c mem
    rw [ek] at F
    obtain ⟨g, kb⟩ := kb K fd F
    exact ⟨⟨fd, en.ps, g, ⟨fun _ _ _ _ z => z.elim, fun _ _ _ _ _ _ _ _ _ _ _ _ _ _ z => z.elim⟩, kb⟩, F.kp⟩
  | succ n ih =>
    intro s hs
    obtain ⟨en, e, kb⟩ := hsh s hs
    obtain ⟨mem, ek⟩ := entOf_ok e
    obtain ⟨fd, F⟩ := fun_of c mem
    rw [ek] at F
    obtain ⟨g, kb⟩ := kb K fd F
    have S := scB_ok (List.all_eq_true.mp hsc en mem)
    refine ⟨⟨fd, en.ps, g, fn_g (k := 2 * n + 1) F S (fun vs H Q E z => ?_) (fun cdv A outer st H vs Q E room gu z => ?_), kb⟩, F.kp⟩
    · unfold lev at z
      rw [e] at z
      exact z.1
    · unfold lev at z
      rw [e] at z
      refine ⟨_, hes en mem K (lev K es n) (fun cls dd _ H2 => E cls dd H2) _ ?_, z.2⟩
      exact {
        hK := rfl
        hN := rfl
        hsc := rfl
        nd := S.nd
        calm := fun _ => rfl
        cold := fun _ => room.hd
        gu := deeper_guards gu
        tk := takes_of rfl rfl rfl rfl
        po := passes_of rfl
        stk := fun _ => ⟨rfl, rfl, rfl⟩
        un := Nat.lt_of_le_of_lt (Nat.add_le_add_right (Nat.le_add_right _ _) _) room.un
        fns := fun _ => ⟨2 * n, room, fun s hs => ih s hs⟩
        fo := hfa
        gx := ⟨base, hin, hns⟩
        fn := fun _ _ => rfl }
end
end Rw

namespace Rw
open PySem PySem.Spec PyProof.Rows L2
/-! ### the law's end -/
section
variable {P : Program} {w : World} {K : PySem.W.Frag} {mg mb : Str → Option Value} {fa a : Addr} {fd : FuncData} {x : Str} {sp : Sp} {s1 : Shared} {vs : List Value} {ns : List Int} {k : Nat}
abbrev EndsTrue (P : Program) (s1 : Shared) (fa a : Addr) : Prop :=
  codeAny (model P w) callerA (.call (.ref fa) ⟨[.ref a], []⟩) (fun r s' => r = .ok (.ret (.bool true)) ∧ OldK s1.heap s'.heap ∧ s'.os = s1.os ∧ AllBare s'.gens) s1
/-- from a heap in which the script alone may be told -/
theorem end_core (KX : K.In s1.heap) (hns : s1.heap.Ns mainGlobals mg) (hb : s1.heap.Ns builtinsNs mb) (hbb : ∀ y : Str, y ≠ "__name__" → mb y = bootBuiltins y) (hlim : s1.heap.NoLimit) (hg : s1.gens = #[])
    (ha : s1.heap.get? a = some { cls := .type "list", data := .seq vs.toArray }) (hr : Room k callerA)
    (F : ∀ bs : Heap, K.In bs → bs.Ns mainGlobals mg → FnG P w K mg bs k fa fd [x] sp) (hbind : ∀ (s : Shared) (u : Value), BindsTo s fd ⟨[u], []⟩ [(x, u)])
    {H : Hp} (hO : Only H) (hsp : sp [.ref a] H (fun v _ => v = .bl true) fun _ _ _ => False) (hok : HOk P w H s1.heap) (hA : ∀ b, H b ≠ none → b = a) (hK : H a ≠ none → K.lookup a = none) :
    EndsTrue (w := w) P s1 fa a := by
  have isA : ∀ {b : Addr} {u : HO}, H b = some u → b = a := fun {b u} q => hA b (by rw [q] <;> intro z <;> cases z)
  have at0 : ∀ {b : Addr} {o : Obj}, s1.heap.get? b = some o → H b = none → (hidT s1.heap H).get? b = some o := fun e n => hidT_get e n
  have dNo : ∀ {b : Addr} {o : Obj} {es : Array DictEntry} {ep : Nat}, s1.heap.get? b = some o → o.data = .dict es ep → H b = none := by
    intro b o es ep e d
    match q : H b with
    | none => rfl
    | some u =>
      obtain rfl := isA q
      rw [ha] at e
      obtain rfl := Option.some.inj e
      exact absurd (show Data.seq vs.toArray _ = Data.dict es ep from d) (fun z => by cases z)
  have nsAt : ∀ {b : Addr} {f : Str → Option Value}, s1.heap.Ns b f → (hidT s1.heap H).Ns b f := by
    rintro b f ⟨o, es, ep, e, d, r⟩
    exact ⟨o, es, ep, at0 e (dNo e d), d, r⟩
  have kAt : K.In (hidT s1.heap H) := by
    intro b o e
    refine at0 (KX b o e) ?_
    match q : H b with
    | none => rfl
    | some u =>
      obtain rfl := isA q
      have z := hK (by rw [q] <;> intro z <;> cases z)
      rw [z] at e
      cases e
  have hM : Mod K mg (hidT s1.heap H) := by
    obtain ⟨mc, l1, l2⟩ := hlim
    exact ⟨kAt, nsAt hns, ⟨mb, nsAt hb, hbb⟩, ⟨mc, nsAt l1, l2⟩⟩
  have e0 : Env0 P w K mg (hidT s1.heap H) callerA [] s1 H :=
    ⟨rfl, hM, fun b o e => of_hidT e, Nat.le_of_eq (hidT_size _ _), trivial, fun b hb => (List.not_mem_nil hb).elim, hok, .of_eq hg⟩
  have gu : callerA.guards = some [] := rfl
  have goes := (F _ kAt (nsAt hns)).run callerA [] s1 H ⟨[.ref a], []⟩ [.ref a] [.ref a] _ _ hr gu e0 (hbind s1 (.ref a)) (.cons rfl .nil) hsp
  refine codeAny_mono goes fun r s2 z => ?_
  match r, z with
  | .error e, z => 
    obtain ⟨_, _, _, _, _, _, _, _, _, _, _, _, _, _, _, _, z⟩ := z
  | .ok .next, z => exact False.elim z
  | .ok .brk, z => exact False.elim z
  | .ok .cont, z => exact False.elim z
  | .ok (.ret u), z =>
    obtain ⟨v, H2, os, bare, un, hok2, rv, ev⟩ := z
    have ev : v = .bl true := ev
    subst ev
    obtain rfl : u = Value.bool true := rv
    refine ⟨rfl, OldK.of_keep fun b o e => ?_, os, bare⟩
    match q : H b with
    | none => exact un.keep b o e q (fun z => (List.not_mem_nil z).elim) (by simp)
    | some u2 =>
      rcases hO b with z | ⟨ob, xs, z⟩
      · rw [q] at z
        cases z
      · have kept := un.frzs b ob _ z
        have o1 := (hok b _ z).1
        have o2 := (hok2 b _ kept).1
        rw [e] at o1
        obtain rfl := Option.some.inj o1
        exact o2
theorem end_call (KX : K.In s1.heap) (hns : s1.heap.Ns mainGlobals mg) (hb : s1.heap.Ns builtinsNs mb) (hbb : ∀ y : Str, y ≠ "__name__" → mb y = bootBuiltins y) (hlim : s1.heap.NoLimit) (hg : s1.gens = #[])
    (ha : s1.heap.get? a = some { cls := .type "list", data := .seq vs.toArray }) (hi : IntsAre vs ns) (hl : ns.length ≤ sizeLine) (hr : Room k callerA)
    (F : ∀ bs : Heap, K.In bs → bs.Ns mainGlobals mg → FnG P w K mg bs k fa fd [x] sp) (hbind : ∀ (s : Shared) (u : Value), BindsTo s fd ⟨[u], []⟩ [(x, u)])
    (hsp : ∀ H : Hp, Only H → SqL K H a (ns.map V.int) → sp [.ref a] H (fun v _ => v = .bl true) fun _ _ _ => False) : EndsTrue (w := w) P s1 fa a := by
  have rv := vals_ints hi
  have core := fun (H : Hp) (hO : Only H) (hS : SqL K H a (ns.map V.int)) => end_core (w := w) KX hns hb hbb hlim hg ha hr F hbind hO (hsp H hO hS)
  match hk : K.lookup a with
  | some o =>
    have e := KX a o hk
    rw [ha] at e
    obtain rfl := Option.some.inj e
    refine core (fun _ => none) (fun _ => .inl rfl) (.inr ⟨_, vs.toArray, _, hk, rfl, rfl, rfl, ?_, by simpa using rv⟩) (fun b u z => absurd (show (none : Option HO) = some u from z) (fun z => by cases z)) (fun b z => absurd rfl z) (fun z => absurd rfl z)
    rw [List.size_toArray, hi.length]
    exact hl
  | none =>
    let F1 : HO := .frz { cls := .type "list", data := .seq vs.toArray } (.lst (ns.map V.int))
    let H1 : Hp := fun b => if b = a then some F1 else none
    have hit : ∀ {b}, b = a → H1 b = some F1 := fun z => if_pos z
    have out : ∀ {b}, ¬ b = a → H1 b = none := fun z => if_neg z
    refine core H1 (fun b => ?_) (.inl (.inr ⟨_, hit rfl⟩)) (fun b u z => ?_) (fun b z => ?_) (fun _ => hk)
    · exact (Decidable.em (b = a)).elim (fun q => .inr ⟨_, _, hit q⟩) fun q => .inl (out q)
    · rcases Decidable.em (b = a) with q | q
      · obtain rfl := Option.some.inj ((hit q).symm.trans z)
        subst q
        exact ⟨ha, by rw [List.length_map] <;> exact hl, vs, _, rv, ha⟩
      · exact absurd ((out q).symm.trans z) (fun z => by cases z)
    · exact Decidable.byContradiction fun q => z (out q)
end
/-- THE END: what the head asks for, from the law's promise at a level -/
theorem walk_w {l : PySem.W.OpenLaw} {n k : Nat} {q : Program} {loose : List Str} {XP : (Str → Option Value) → Heap → Prop} {YP : World → Heap → Prop} {d : DefRec} {x : Str}
    (hn : l.most = some n) (hn2 : n ≤ sizeLine) (hdf : d.params.defaults = []) (hr : Room k callerA)
    (F : ∀ (w : World) (mg : Str → Option Value) (fa : Addr) (h : Heap), YP w h → h.Ns mainGlobals mg → mg d.name = some (.ref fa) →
      ∃ (K : PySem.W.Frag) (fd : FuncData) (sp : Sp), K.In h ∧ (∀ (s : Shared) (u : Value), BindsTo s fd ⟨[u], []⟩ [(x, u)]) ∧
        (∀ (H : Hp) (a : Addr) (ns : List Int), ns.length ≤ n → Only H → SqL K H a (ns.map V.int) → sp [.ref a] H (fun v _ => v = .bl true) fun _ _ _ => False) ∧
        ∀ bs : Heap, K.In bs → bs.Ns mainGlobals mg → FnG l.prog w K mg bs k fa fd [x] sp) :
    PySem.W.WalkO q loose XP YP l.row.toRowW d [] (fun f vs => PySem.call f vs) := by
  refine Att.attach_call hn hdf fun w s₀ s1 mg mb fa o pm cd doc a vs ns G Y ho hd hcd hmg hobj hints hlen hg => ?_
  obtain ⟨K, fd, sp, KX, hb, hsp, hF⟩ := F w mg fa _ Y G.T.g hmg
  exact end_call KX G.T.g G.T.b G.T.builtins G.T.nolimit hg hobj hints (Nat.le_trans hlen hn2) hr hF hb fun H hO hS => hsp H a ns hlen hO hS
theorem room_at {n : Nat} (h : n ≤ 110) : Room (2 * (n + 1)) callerA := by
  have h1 : callerA.depth ≤ 301 := by decide
  have h2 : 1000 ≤ recursionLimit := by decide
  have h3 : callerA.units ≤ 100 := by decide
  have h4 : 9900 ≤ cLine := by decide
  exact ⟨rfl, by omega, by omega⟩
/-- the same from the tables: the law stands at key ("law", none), its only parameter is "script" -/
theorem walk_es {l : PySem.W.OpenLaw} {m n : Nat} {q : Program} {loose : List Str} {XP : (Str → Option Value) → Heap → Prop} {d : DefRec} {fa : List He.Fa} {sh : List Shp} {es : List Ent} {fn : List He.DefD} {enL : Ent}
    (hm : l.most = some m) (hm2 : m ≤ sizeLine) (hdf : d.params.defaults = []) (hdn : d.name = ("law" : Str)) (hn : n ≤ 110) (hfn : fn = es.map (·.d))
    (hes : ∀ en ∈ es, EntOk fa sh en) (hsc : (es.all fun en => scB en.N en.ps en.d.scope) = true) (hsh : ∀ s ∈ sh, ShpOk es s) (hL : entOf es ("law", none) = some enL) (hps : enL.ps = [("script" : Str)]) (hdd : enL.d.dfl = [])
    (hb : ∀ (kV doc pm : Value) (an : Option Addr) (cdv ct : Value) (u : Value), bindArgs (PySem.W.fnOf enL.d.name enL.d.qual enL.d.params enL.d.body enL.d.scope .none kV doc pm an cdv ct) ⟨[u], []⟩ = pure [(("script" : Str), u)])
    (hglo : hasF (isGlo "law") fa = true)
    (pure_ : ∀ (K : PySem.W.Frag) (H : Hp) (a : Addr) (ns : List Int), (∀ f ∈ fa, f.ok K = true) → ns.length ≤ m → Only H → SqL K H a (ns.map V.int) → lev K es (n + 1) ("law", none) [.ref a] H (fun v _ => v = .bl true) fun _ _ _ => False) :
    PySem.W.WalkO q loose XP (He.hookD 4 fa fn).says l.row.toRowW d [] (fun f vs => PySem.call f vs) := by
  refine walk_w (k := 2 * (n + 1)) (x := "script") hm hm2 hdf (room_at hn) ?_
  rintro w mg f h ⟨K, KX, c⟩ G hmg
  rw [hdn] at hmg
  rw [hfn] at c
  have hfa : ∀ z ∈ fa, z.ok K = true := fun z hz => by
    obtain ⟨i, hi, e⟩ := List.getElem_of_mem hz
    exact c.fact i (by rw [List.getElem?_eq_getElem hi, e])
  have ef : f = He.fAd K (("law" : Str), (none : Option Str)) := by
    obtain ⟨z, hz, ez⟩ := hasF_of hglo
    have q := hfa z hz
    cases z with
    | glo y =>
      have e : ("law" : Str) = y := of_decide_eq_true ez
      subst e
      have g := He.glo_ok KX G q
      rw [hmg] at g
      exact (Value.ref.inj (Option.some.inj g))
    | _ => cases ez
  obtain ⟨mem, ek⟩ := entOf_ok hL
  obtain ⟨fd, F⟩ := fun_of c mem
  refine ⟨K, fd, lev K es (n + 1) ("law", none), KX, fun s u => ?_, fun H a ns h1 h2 h3 => pure_ K H a ns hfa h1 h2 h3, fun bs hin hns => ?_⟩
  · obtain ⟨oc, od, dV, kV, doc, pm, an, cdv, ct, osl, efd, look, code, hD, _⟩ := F.ex
    have edv : enL.d.dvs K = [] := by
      unfold He.DefD.dvs
      rw [hdd]
      rfl
    rcases hD with ⟨_, ed⟩ | ⟨ne, _⟩
    · subst efd ed
      exact .of_eq (hb kV doc pm an cdv ct u)
    · exact absurd edv ne
  · have S := scB_ok (List.all_eq_true.mp hsc enL mem)
    have cal := fun (i : Nat) (s : Shp) (hs : s ∈ sh) => callees (P := l.prog) (w := w) hin hns c hes hsc hsh i s hs
    rw [ek] at F
    rw [ef]
    have R := fn_g (P := l.prog) (w := w) (mg := mg) (base := bs) (k := 2 * n + 1) (sp := lev K es (n + 1) ("law", none)) F S (fun vs H Q E z => ?_) (fun cdv A outer st H vs Q E room gu z => ?_)
    · rw [hps] at R
      exact R
    · unfold lev at z
      rw [hL] at z
      exact z.1
    · unfold lev at z
      rw [hL] at z
      refine ⟨_, hes enL mem K (lev K es n) (fun cls dd _ H2 => E cls dd H2) _ ?_, z.2⟩
      exact {
        hK := rfl
        hN := rfl
        hsc := rfl
        nd := S.nd
        calm := fun _ => rfl
        cold := fun _ => room.hd
        gu := deeper_guards gu
        tk := takes_of rfl rfl rfl rfl
        po := passes_of rfl
        stk := fun _ => ⟨rfl, rfl, rfl⟩
        un := Nat.lt_of_le_of_lt (Nat.add_le_add_right (Nat.le_add_right _ _) _) room.un
        fns := fun _ => ⟨2 * n, room, fun s hs => cal n s hs⟩
        fo := hfa
        gx := ⟨bs, hin, hns⟩
        fn := fun _ _ => rfl }
end Rw

namespace Rw
open PySem PySem.Spec PyProof.Rows L2
section
variable {c : Cn} {a b d e o tg : Expr} {es : List Expr} {ta tb tc te to : TE} {t u : TT} {tA tK : TA} {wi wj : TI} {pos apos p p2 : Pos} {x y m : Str}
/-! ### one of two readings -/
def tEor (t1 t2 : TE) : TE := fun σ H Q => t1 σ H Q ∨ t2 σ H Q
theorem g_alt (h1 : GE c e ta) (h2 : GE c e tb) : GE c e (tEor ta tb) := fun X h => ⟨fun pins s σ H Q I q => q.elim ((h1 X h).run pins s σ H Q I) ((h2 X h).run pins s σ H Q I)⟩
/-- a list, a tuple, a text, a dict's keys -/
def iAny (K : PySem.W.Frag) (te : TE) : TI := fun σ H R => iSeq K te σ H R ∨ iStr te σ H R ∨ iKeys te σ H R
theorem gi_any (h : GE c e te) : GI c tg e (iAny c.K te) := fun X b => PI.or (gi_seq h X b) (PI.or (gi_str h X b) (gi_keys h X b))
/-! ### dict displays -/
theorem g_dict0 : GE c (.Dict [] [] pos) tDNewK := fun _ _ => pe_dnewK
theorem g_dict {ks : List (Option Expr)} {vs : List Expr} {trs : List (TE × TE)} (h : GP c pos ks vs trs) (hall : ks.all (·.isSome) = true := by rfl) (hl : ks.length = vs.length := by rfl) (h0 : ks ≠ [] := by exact List.cons_ne_nil _ _) (h15 : ks.length ≤ 15 := by exact Nat.le_of_ble_eq_true rfl) :
    GE c (.Dict ks vs pos) (tDisp trs) := fun X b => pe_disp (h X b) hall hl h0 h15
end
theorem all_nil {α : Type} {p : α → Prop} : ∀ x ∈ ([] : List α), p x := fun _ h => (List.not_mem_nil h).elim
theorem all_cons {α : Type} {p : α → Prop} {a : α} {l : List α} (h : p a) (hs : ∀ x ∈ l, p x) : ∀ x ∈ a :: l, p x := fun x hx => by
  rcases List.mem_cons.mp hx with e | e
  · rw [e]
    exact h
  · exact hs x e
end Rw

namespace Rw
open PySem PySem.Spec PyProof.Rows L2
/-! ### the pure part: steps -/
/-- all but what M names stays -/
def Ext (M : Addr → Prop) (H H' : Hp) : Prop := ∀ q o, ¬ M q → H q = some o → H' q = some o
def noM : Addr → Prop := fun _ => False
theorem noM_not {q : Addr} : ¬ noM q := fun h => h
theorem Ext.rfl {M : Addr → Prop} {H : Hp} : Ext M H H := fun _ _ _ h => h
theorem Ext.trans {M : Addr → Prop} {H H1 H2 : Hp} (h : Ext M H H1) (h2 : Ext M H1 H2) : Ext M H H2 := fun q o m e => h2 q o m (h q o m e)
theorem Ext.up {M : Addr → Prop} {H H1 : Hp} (h : Ext noM H H1) : Ext M H H1 := fun q o _ e => h q o noM_not e
theorem Ext.sub {M N : Addr → Prop} {H H1 : Hp} (h : Ext M H H1) (s : ∀ q, M q → N q) : Ext N H H1 := fun q o m e => h q o (fun z => m (s q z)) e
theorem Ext.new {M : Addr → Prop} {H : Hp} {p : Addr} {o : HO} (h : H p = none) : Ext M H (upd H p o) := fun q o' _ e => by
  rw [upd_ne (fun z => by rw [z, h] at e; cases e)]
  exact e
theorem Ext.set {M : Addr → Prop} {H : Hp} {p : Addr} {o : HO} (h : M p) : Ext M H (upd H p o) := fun q o' m e => by
  rw [upd_ne (fun z => m (by rw [z]; exact h))]
  exact e
theorem ne_new {H : Hp} {p q : Addr} {o : HO} (h : H p = some o) (h' : H q = none) : q ≠ p := fun e => by rw [e, h] at h'; cases h'
theorem get_new {H : Hp} {p q : Addr} {o o' : HO} (h : H p = none) (e : H q = some o) : upd H p o' q = some o := Ext.new (M := noM) h q o noM_not e
section
variable {K : PySem.W.Frag} {t u : TS} {D : Ends} {σ : L2.St} {H : Hp} {Q : VK} {te ta tb tc to : TE} {tA tK : TA} {c d : TT} {g : TG} {R : Bool → Hp → Prop} {QA : List V → Hp → Prop} {Qs : L2.St → Hp → Prop}
theorem s_seq (h : t { D with nx := u D } σ H) : tSeq t u D σ H := h
theorem s_next (h : D.nx σ H) : tNext D σ H := h
theorem s_ret (h : te σ H D.rt) : tRet te D σ H := h
theorem s_retN (h : D.rt .non H) : tRetN D σ H := h
theorem s_if (h : c σ H fun b H1 => if b = true then t D σ H1 else u D σ H1) : tIfS c t u D σ H := h
theorem s_drop (h : te σ H fun _ H1 => D.nx σ H1) : tDrop te D σ H := h
theorem s_asg (h : te σ H fun x H1 => g x σ H1 D.nx) : tAsg te g D σ H := h
theorem s_par {i j : Nat} (h : tA σ H fun vs H1 => ∃ v w, vs = [v, w] ∧ D.nx ((σ.set i (some v)).set j (some w)) H1) : tPar i j tA D σ H := h
theorem x_name {i : Nat} {v : V} (h : Qs (σ.set i (some v)) H) : gName i v σ H Qs := h
theorem x_sub {ti : TE} {ts : TSet} {v : V} (h : to σ H fun o H1 => ti σ H1 fun i H2 => ts o i v H2 fun H3 => Qs σ H3) : gSub to ti ts v σ H Qs := h
theorem x_nil  (h : Qs σ H) : gNil [] σ H Qs := ⟨rfl, h⟩
theorem x_cons {gg : TGs} {v : V} {r : List V} (h : g v σ H fun σ' H' => gg r σ' H' Qs) : gCons g gg (v :: r) σ H Qs := ⟨v, r, rfl, h⟩
theorem x_tup {gg : TGs} {n : Nat} {a : Addr} {xs : List V} (e : H a = some (.tup xs)) (l : xs.length = n) (h : gg xs σ H Qs) : gUnp K n gg (.ref a) σ H Qs := .inl ⟨a, xs, rfl, .inl (.inl e), l, h⟩
theorem x_lst {gg : TGs} {n : Nat} {a : Addr} {xs : List V} (e : H a = some (.lst xs)) (l : xs.length = n) (h : gg xs σ H Qs) : gUnp K n gg (.ref a) σ H Qs := .inr ⟨a, xs, rfl, .inl (.inl e), l, h⟩
theorem e_var {i : Nat} {v : V} (e : σ[i]? = some (some v)) (h : Q v H) : tVar i σ H Q := ⟨v, e, h⟩
theorem e_c {v : V} (h : Q v H) : tC v σ H Q := h
theorem e_op {r : R2} (h : ta σ H fun x H1 => tb σ H1 fun y H2 => r x y H2 Q) : tOp r ta tb σ H Q := h
theorem e_un {r : V → Hp → VK → Prop} (h : ta σ H fun x H1 => r x H1 Q) : tUn r ta σ H Q := h
theorem c_test (h : te σ H fun x H1 => ∃ k, x = .bl k ∧ R k H1) : tTest te σ H R := h
theorem c_tru (h : te σ H fun x H1 => ∃ k, TruV K x H1 k ∧ R k H1) : tTru K te σ H R := h
theorem c_and (h : c σ H fun b H1 => if b = true then d σ H1 R else R false H1) : tAnd c d σ H R := h
theorem c_or (h : c σ H fun b H1 => if b = true then R true H1 else d σ H1 R) : tOr c d σ H R := h
theorem c_not (h : c σ H fun b H1 => R (!b) H1) : tNot c σ H R := h
theorem e_ite (h : c σ H fun b H1 => if b = true then ta σ H1 Q else tb σ H1 Q) : tIf c ta tb σ H Q := h
theorem e_and (h : ta σ H fun x H1 => ∃ k, TruV K x H1 k ∧ if k = true then tb σ H1 Q else Q x H1) : tAndT K ta tb σ H Q := h
theorem e_or (h : ta σ H fun x H1 => ∃ k, TruV K x H1 k ∧ if k = true then Q x H1 else tb σ H1 Q) : tOrT K ta tb σ H Q := h
theorem e_not (h : ta σ H fun x H1 => ∃ k, TruV K x H1 k ∧ Q (.bl (!k)) H1) : tNotT K ta σ H Q := h
theorem e_chain {r r' : R2} (h : ta σ H fun x H1 => tb σ H1 fun y H2 => r x y H2 fun z H3 => ∃ k, z = .bl k ∧ (if k = true then tc σ H3 fun w' H4 => r' y w' H4 Q else Q (.bl false) H3)) : tChain r r' ta tb tc σ H Q := h
theorem a_nil (h : QA [] H) : tNil σ H QA := h
theorem a_cons (h : te σ H fun x H1 => tA σ H1 fun xs H2 => QA (x :: xs) H2) : tCons te tA σ H QA := h
theorem e_cb {r : List V → Hp → VK → Prop} (h : tA σ H fun vs H1 => r vs H1 Q) : tCB r tA σ H Q := h
theorem e_bm {T : String} {r : V → List V → Hp → VK → Prop} (h : to σ H fun x H1 => tyV K T x H1 ∧ tA σ H1 fun xs H2 => r x xs H2 Q) : tBM K T r to tA σ H Q := h
theorem e_bm0 {T : String} {r : V → List V → Hp → VK → Prop} (h : to σ H fun x H1 => tyV K T x H1 ∧ r x [] H1 Q) : tBM0 K T r to σ H Q := h
theorem e_sl {r : V → Option Int → Option Int → Hp → VK → Prop} {tl th : TO} (h : te σ H fun x H1 => tl σ H1 fun l H2 => th σ H2 fun u H3 => r x l u H3 Q) : tSl r te tl th σ H Q := h
theorem p_none {QO : Option Int → Hp → Prop} (h : QO none H) : tNoPart σ H QO := h
theorem p_some {QO : Option Int → Hp → Prop} (h : te σ H fun x H1 => ∃ i, x = .int i ∧ QO (some i) H1) : tPart te σ H QO := h
theorem p_int {i : Int} {q : Int → Prop} (h : q i) : ∃ j, V.int i = .int j ∧ q j := ⟨i, rfl, h⟩
def New (n : Nat) (H : Hp) (o : HO) (Q : VK) : Prop := n ≤ sizeLine ∧ ∀ p, H p = none → Q (.ref p) (upd H p o)
theorem e_tup (h : tA σ H fun xs H1 => New xs.length H1 (.tup xs) Q) : tTup tA σ H Q := h
theorem e_lst (h : tA σ H fun xs H1 => New xs.length H1 (.lst xs) Q) : tLst tA σ H Q := h
/-- a new object: what is known of the heap behind -/
theorem n_obj {o : HO} {n : Nat} (l : n ≤ sizeLine) (h : ∀ p H2, H p = none → Ext noM H H2 → H2 p = some o → Q (.ref p) H2) : New n H o Q := ⟨l, fun p e => h p _ e (Ext.new e) upd_same⟩
theorem n_obj' {o : HO} {QR : V → Hp → Prop} (h : ∀ p H2, H p = none → Ext noM H H2 → H2 p = some o → QR (.ref p) H2) : ∀ p, H p = none → QR (.ref p) (upd H p o) := fun p e => h p _ e (Ext.new e) upd_same
/-! values -/
theorem v_addI {i j : Int} (h : Q (.int (i + j)) H) : rAddU (.int i) (.int j) H Q := h
theorem v_addS {i j : Str} (l : i.length + j.length ≤ sizeLine) (h : Q (.str (i ++ j)) H) : rAddU (.str i) (.str j) H Q := ⟨l, h⟩
theorem v_addL {a b : Addr} {xs ys : List V} (e : H a = some (.lst xs)) (e2 : H b = some (.lst ys)) (l : xs.length + ys.length ≤ sizeLine) (h : ∀ p H2, H p = none → Ext noM H H2 → H2 p = some (.lst (xs ++ ys)) → Q (.ref p) H2) : rAddU (.ref a) (.ref b) H Q := ⟨xs, ys, e, e2, l, n_obj' h⟩
theorem v_sub {i j : Int} (h : Q (.int (i - j)) H) : rSubU (.int i) (.int j) H Q := ⟨i, j, rfl, rfl, h⟩
theorem v_mul {i j : Int} (l : CMul i j) (h : Q (.int (i * j)) H) : rMulU (.int i) (.int j) H Q := ⟨l, h⟩
theorem v_div {i j : Int} (l : CDiv i j) (h : Q (.int (i / j)) H) : rDivU (.int i) (.int j) H Q := ⟨i, j, rfl, rfl, l, h⟩
theorem v_mod {i j : Int} (l : 0 < j) (h : Q (.int (i % j)) H) : rModU (.int i) (.int j) H Q := ⟨i, j, rfl, rfl, l, h⟩
theorem v_pow {i j : Int} (l : CPow i j) (h : Q (.int (i ^ j.toNat)) H) : rPowU (.int i) (.int j) H Q := ⟨i, j, rfl, rfl, l, h⟩
theorem v_neg {i : Int} (h : Q (.int (-i)) H) : rNegU (.int i) H Q := ⟨i, rfl, h⟩
theorem v_lt {i j : Int} (h : Q (.bl (decide (i < j))) H) : rLtU (.int i) (.int j) H Q := ⟨i, j, rfl, rfl, h⟩
theorem v_le {i j : Int} (h : Q (.bl (decide (i ≤ j))) H) : rLeU (.int i) (.int j) H Q := ⟨i, j, rfl, rfl, h⟩
theorem v_gt {i j : Int} (h : Q (.bl (decide (j < i))) H) : rGtU (.int i) (.int j) H Q := ⟨i, j, rfl, rfl, h⟩
theorem v_ge {i j : Int} (h : Q (.bl (decide (j ≤ i))) H) : rGeU (.int i) (.int j) H Q := ⟨i, j, rfl, rfl, h⟩
theorem v_is {x : V} (h : Q (.bl (decide (x = .non))) H) : rIsU x .non H Q := ⟨rfl, h⟩
theorem v_isnt {x : V} (h : Q (.bl (!decide (x = .non))) H) : rIsntU x .non H Q := ⟨rfl, h⟩
theorem v_eqI {i j : Int} (h : Q (.bl (decide (i = j))) H) : rEqU K (.int i) (.int j) H Q := .inl ⟨rfl, by
  have e : decide (V.int i = V.int j) = decide (i = j) := decide_eq_decide.mpr ⟨V.int.inj, fun z => congrArg _ z⟩
  rw [e]
  exact h⟩
theorem v_eqS {i j : Str} (h : Q (.bl (decide (i = j))) H) : rEqU K (.str i) (.str j) H Q := .inl ⟨rfl, by
  have e : decide (V.str i = V.str j) = decide (i = j) := decide_eq_decide.mpr ⟨V.str.inj, fun z => congrArg _ z⟩
  rw [e]
  exact h⟩
theorem v_neI {i j : Int} (h : Q (.bl (!decide (i = j))) H) : rNeU K (.int i) (.int j) H Q := .inl ⟨rfl, by
  have e : decide (V.int i = V.int j) = decide (i = j) := decide_eq_decide.mpr ⟨V.int.inj, fun z => congrArg _ z⟩
  rw [e]
  exact h⟩
theorem v_neS {i j : Str} (h : Q (.bl (!decide (i = j))) H) : rNeU K (.str i) (.str j) H Q := .inl ⟨rfl, by
  have e : decide (V.str i = V.str j) = decide (i = j) := decide_eq_decide.mpr ⟨V.str.inj, fun z => congrArg _ z⟩
  rw [e]
  exact h⟩
theorem v_ixL {a : Addr} {xs : List V} {i : Int} {v : V} (e : H a = some (.lst xs)) (l : atI xs i = some v) (h : Q v H) : rSubU' K (.ref a) (.int i) H Q := .inl (.inl ⟨a, xs, i, v, rfl, rfl, .inl (.inl e), l, h⟩)
theorem v_ixT {a : Addr} {xs : List V} {i : Int} {v : V} (e : H a = some (.tup xs)) (l : atI xs i = some v) (h : Q v H) : rSubU' K (.ref a) (.int i) H Q := .inl (.inr (.inl ⟨a, xs, i, v, rfl, rfl, .inl (.inl e), l, h⟩))
theorem v_ixS {z : Str} {i : Int} {n : Nat} (s : z.length ≤ sizeLine) (l : atI z.cps.toList i = some n) (h : Q (.str ⟨#[n]⟩) H) : rSubU' K (.str z) (.int i) H Q := .inl (.inr (.inr ⟨z, i, n, rfl, rfl, s, l, h⟩))
theorem v_lenL {a : Addr} {xs : List V} (e : H a = some (.lst xs)) (h : Q (.int xs.length) H) : rLenU K [.ref a] H Q := ⟨_, _, rfl, .inl (.inl ⟨xs, .inl (.inl e), rfl⟩), h⟩
theorem v_lenT {a : Addr} {xs : List V} (e : H a = some (.tup xs)) (h : Q (.int xs.length) H) : rLenU K [.ref a] H Q := ⟨_, _, rfl, .inl (.inr ⟨xs, .inl (.inl e), rfl⟩), h⟩
theorem v_lenS {z : Str} (s : z.length ≤ sizeLine) (h : Q (.int z.length) H) : rLenU K [.str z] H Q := ⟨_, _, rfl, .inl ⟨s, rfl⟩, h⟩
theorem v_abs {i : Int} (h : Q (.int (if i < 0 then -i else i)) H) : rAbsU [.int i] H Q := ⟨i, rfl, h⟩
theorem v_max {i j : Int} (h : Q (.int (if j > i then j else i)) H) : rMax2U [.int i, .int j] H Q := ⟨i, j, rfl, h⟩
theorem v_min {i j : Int} (h : Q (.int (if j < i then j else i)) H) : rMin2U [.int i, .int j] H Q := ⟨i, j, rfl, h⟩
theorem v_divmod {i j : Int} (l : 0 < j ∧ j.natAbs.log2 < 9000) (h : ∀ p H2, H p = none → Ext noM H H2 → H2 p = some (.tup [.int (i / j), .int (i % j)]) → Q (.ref p) H2) : rDmU [.int i, .int j] H Q := ⟨i, j, rfl, l, n_obj' h⟩
theorem v_append {l : Addr} {xs : List V} {y : V} (e : H l = some (.lst xs)) (z : xs.length < sizeLine) (h : Q .non (upd H l (.lst (xs ++ [y])))) : rAppend (.ref l) [y] H Q := ⟨l, xs, y, rfl, rfl, e, z, h⟩
theorem v_inst {x : V} {n T : String} {b : Bool} (ty : TyX K H x (.type n)) (hk : PySem.W.kitOne K (.type n) (.type T) = some b) (h : Q (.bl b) H) : rInst K [x, .ty T] H Q := .inl ⟨x, .ty T, .type n, .type T, b, rfl, .ty T, ty, hk, h⟩
theorem b_bl {b : Bool} {q : Bool → Prop} (h : q b) : ∃ k, V.bl b = .bl k ∧ q k := ⟨b, rfl, h⟩
theorem b_tru {b : Bool} {q : Bool → Prop} (h : q b) : ∃ k, TruV K (.bl b) H k ∧ q k := ⟨b, rfl, h⟩
theorem b_truI {i : Int} {q : Bool → Prop} (h : q (i != 0)) : ∃ k, TruV K (.int i) H k ∧ q k := ⟨_, rfl, h⟩
theorem i_dec {p : Prop} [Decidable p] {a b : Prop} (h1 : p → a) (h2 : ¬ p → b) : if decide p = true then a else b := by
  by_cases h : p
  · rw [if_pos (decide_eq_true h)]
    exact h1 h
  · rw [if_neg (by rw [decide_eq_false h]; exact Bool.false_ne_true)]
    exact h2 h
theorem i_ndec {p : Prop} [Decidable p] {a b : Prop} (h1 : ¬ p → a) (h2 : p → b) : if (!decide p) = true then a else b := by
  by_cases h : p
  · rw [if_neg (by rw [decide_eq_true h]; exact Bool.false_ne_true)]
    exact h2 h
  · rw [if_pos (by rw [decide_eq_false h]; rfl)]
    exact h1 h
theorem i_both {k l : Bool} {q : Bool → Prop} (h : q (k && l)) : if k = true then q l else q false := by
  cases k
  · exact h
  · exact h
theorem i_either {k l : Bool} {q : Bool → Prop} (h : q (k || l)) : if k = true then q true else q l := by
  cases k
  · exact h
  · exact h
theorem i_t {a b : Prop} (h : a) : if true = true then a else b := by rw [if_pos rfl]; exact h
theorem i_f {a b : Prop} (h : b) : if false = true then a else b := by rw [if_neg Bool.false_ne_true]; exact h
theorem i_nf {a b : Prop} (h : a) : if (!false) = true then a else b := by rw [if_pos (show (!false) = true from rfl)]; exact h
theorem i_nt {a b : Prop} (h : b) : if (!true) = true then a else b := by rw [if_neg (show ¬ (!true) = true from Bool.false_ne_true)]; exact h
theorem i_b {k : Bool} {a b : Prop} (h1 : k = true → a) (h2 : k = false → b) : if k = true then a else b := by
  cases k
  · exact i_f (h2 rfl)
  · exact i_t (h1 rfl)
end
section
variable {c : Cn} {x : Str} {na : Nat} {ks : List Str} {tA tK : TA} {σ : L2.St} {H : Hp} {Q : VK}
theorem e_fn {hot top : Bool} {K : PySem.W.Frag} {fa : List He.Fa} {sh : List Shp} {Ph : Ky → Sp} {N : List Str} {sc : Scope} {fnn : Str → Bool} {W : WX} {k : Ky} {nn : Nat} {kk : List Str} {pl : List Src} (hs : shpOf sh (x, none) (([] : List V).length + na) ks = some ⟨k, nn, kk, pl⟩)
    (h : tA σ H fun vs H1 => tK σ H1 fun zs H2 => vs.length = na ∧ zs.length = ks.length ∧ Ph k (plug K pl ([] ++ vs) zs) H2 Q (WE W σ)) : tFn ⟨hot, top, K, fa, sh, Ph, N, sc, fnn, W⟩ x na ks tA tK σ H Q := ⟨_, hs, h⟩
theorem f_go {vs zs : List V} {Ph : Ky → Sp} {k : Ky} {K : PySem.W.Frag} {pl : List Src} {first : List V} {E : XK} (h1 : vs.length = na) (h2 : zs.length = ks.length) {ws : List V} (e : plug K pl (first ++ vs) zs = ws) (h : Ph k ws H Q E) : vs.length = na ∧ zs.length = ks.length ∧ Ph k (plug K pl (first ++ vs) zs) H Q E := ⟨h1, h2, by rw [e]; exact h⟩
end
theorem ty_non {K : PySem.W.Frag} {H : Hp} : TyX K H .non (.type "NoneType") := .base .non
theorem ty_bl {K : PySem.W.Frag} {H : Hp} {b : Bool} : TyX K H (.bl b) (.type "bool") := .base (.bl b)
theorem ty_int {K : PySem.W.Frag} {H : Hp} {i : Int} : TyX K H (.int i) (.type "int") := .base (.int i)
theorem ty_str {K : PySem.W.Frag} {H : Hp} {z : Str} : TyX K H (.str z) (.type "str") := .base (.str z)
theorem ty_lst {K : PySem.W.Frag} {H : Hp} {a : Addr} {xs : List V} (e : H a = some (.lst xs)) : TyX K H (.ref a) (.type "list") := .base (.lst e)
theorem ty_tup {K : PySem.W.Frag} {H : Hp} {a : Addr} {xs : List V} (e : H a = some (.tup xs)) : TyX K H (.ref a) (.type "tuple") := .base (.tup e)
theorem ty_dK {K : PySem.W.Frag} {H : Hp} {a : Addr} {xs : List (Key × V)} (e : H a = some (.dK xs)) : TyX K H (.ref a) (.type "dict") := .base (.dK e)
end Rw

namespace Rw
open PySem PySem.Spec PyProof.Rows L2
/-! loops -/
/-- the walk J tells xs, where P holds -/
def Tells (J : It) (xs : List V) (P : Nat → Hp → Prop) : Prop := ∀ k H, P k H → (∀ x, xs[k]? = some x → J.go k H ∧ ∀ x' H', J.yld k H x' H' → H' = H ∧ x' = x) ∧ (xs.length ≤ k → J.stop k H)
def rngL (lo : Int) (n : Nat) : List V := (List.range n).map fun k => .int (lo + (k : Nat))
theorem rngL_len {lo : Int} {n : Nat} : (rngL lo n).length = n := by simp [rngL]
theorem rngL_at {lo : Int} {n k : Nat} {x : V} (h : (rngL lo n)[k]? = some x) : k < n ∧ x = .int (lo + k) := by
  unfold rngL at h
  rw [List.getElem?_map] at h
  by_cases hk : k < n
  · rw [List.getElem?_range hk] at h
    exact ⟨hk, (Option.some.inj h).symm⟩
  · rw [List.getElem?_eq_none (by simpa using hk)] at h
    cases h
theorem tells_rng {lo : Int} {n : Nat} {P : Nat → Hp → Prop} : Tells (Itr lo n) (rngL lo n) P := fun k H _ => by
  refine ⟨fun x hx => ?_, fun h => ?_⟩
  · obtain ⟨h1, h2⟩ := rngL_at hx
    exact ⟨h1, fun x' H' y => ⟨y.1, y.2.trans h2.symm⟩⟩
  · rw [rngL_len] at h
    exact h
def strL (z : Str) : List V := z.cps.toList.map fun c => .str ⟨#[c]⟩
theorem strL_len {z : Str} : (strL z).length = z.length := by simp [strL, Str.length]
theorem tells_str {z : Str} {P : Nat → Hp → Prop} : Tells (Its z) (strL z) P := fun k H _ => by
  refine ⟨fun x hx => ?_, fun h => (show z.cps.size ≤ k by simpa [strL] using h)⟩
  unfold strL at hx
  rw [List.getElem?_map] at hx
  by_cases hk : k < z.cps.size
  · have e : z.cps.toList[k]? = some z.cps[k] := by simp [hk]
    rw [e] at hx
    obtain rfl := Option.some.inj hx
    refine ⟨hk, fun x' H' y => ⟨y.1, ?_⟩⟩
    obtain ⟨c, e1, e2⟩ := y.2
    rw [Array.getElem?_eq_getElem hk] at e1
    obtain rfl := Option.some.inj e1
    exact e2
  · rw [List.getElem?_eq_none (by simpa using hk)] at hx
    cases hx
theorem tells_lst {K : PySem.W.Frag} {a : Addr} {xs : List V} {P : Nat → Hp → Prop} (h : ∀ k H, P k H → SqL K H a xs) : Tells (Itl K a) xs P := fun k H p => by
  have q := h k H p
  refine ⟨fun x hx => ⟨⟨xs, x, q, hx⟩, fun x' H' y => ⟨y.1, ?_⟩⟩, fun l => ⟨xs, q, l⟩⟩
  have e := y.2 xs q
  rw [hx] at e
  exact (Option.some.inj e).symm
theorem tells_tup {K : PySem.W.Frag} {a : Addr} {xs : List V} {P : Nat → Hp → Prop} (h : ∀ k H, P k H → SqT K H a xs) : Tells (Itt K a) xs P := fun k H p => by
  have q := h k H p
  refine ⟨fun x hx => ⟨⟨xs, x, q, hx⟩, fun x' H' y => ⟨y.1, ?_⟩⟩, fun l => ⟨xs, q, l⟩⟩
  have e := y.2 xs q
  rw [hx] at e
  exact (Option.some.inj e).symm
section
variable {K : PySem.W.Frag} {σ : L2.St} {H H1 : Hp} {Q : VK} {te : TE} {J : It} {xs : List V} {i : Nat} {D : Ends} {tb : TS} {wi : TI}
theorem wipe1 {σ : L2.St} {i : Nat} {v : Option V} : wipe ((wipe σ [i]).set i v) [i] = wipe σ [i] := by
  show (List.set (List.set (List.set σ i none) i v) i none) = List.set σ i none
  rw [List.set_set, List.set_set]
/-- what a comprehension asks for, J its walk -/
abbrev LcAsk (J : It) (g : TG) (tt : TT) (te : TE) (vs : List Nat) (σ : L2.St) (H1 : Hp) (Q : VK) : Prop := ∀ D, H1 D = none → ∃ W : Nat → Nat → Hp → Prop, (∃ m, W 0 m (upd H1 D (.lst []))) ∧ ∀ i m H, W i m H →
  (J.stop i H ∧ Q (.ref D) H) ∨ (J.go i H ∧ ∃ Nx : Hp → Prop, (∀ H', Nx H' → ∃ m', m' < m ∧ W (i + 1) m' H') ∧ ∀ x H', J.yld i H x H' → g x (wipe σ vs) H' fun σ2 H2 => wipe σ2 vs = wipe σ vs ∧ tt σ2 H2 fun b H3 =>
    if b = true then te σ2 H3 fun y H4 => ∃ acc, H4 D = some (.lst acc) ∧ acc.length < sizeLine ∧ Nx (upd H4 D (.lst (acc ++ [y]))) else Nx H3)
theorem e_lc {g : TG} {tt : TT} {vs : List Nat} (h : wi σ H fun J H1 => LcAsk J g tt te vs σ H1 Q) : tLc wi g tt te vs σ H Q := h
/-- [e for x in xs if t], P: the new list's place, the turn, the list so far -/
theorem lc_any {g : TG} {tt : TT} {vs : List Nat} (P : Addr → Nat → Hp → Prop) (hJ : ∀ d, Tells J xs (P d)) (h0 : ∀ d H2, H1 d = none → Ext noM H1 H2 → H2 d = some (.lst []) → P d 0 H2)
    (hs : ∀ d k H x, P d k H → xs[k]? = some x → g x (wipe σ vs) H fun σ2 H2 => wipe σ2 vs = wipe σ vs ∧ tt σ2 H2 fun b H3 => if b = true then te σ2 H3 fun y H4 => ∃ acc, H4 d = some (.lst acc) ∧ acc.length < sizeLine ∧ P d (k + 1) (upd H4 d (.lst (acc ++ [y]))) else P d (k + 1) H3)
    (he : ∀ d H, P d xs.length H → Q (.ref d) H) : LcAsk J g tt te vs σ H1 Q := by
  intro d hd
  refine ⟨fun k m H => P d k H ∧ k + m = xs.length, ⟨xs.length, h0 d _ hd (Ext.new hd) upd_same, Nat.zero_add _⟩, fun k m H ⟨p, hm⟩ => ?_⟩
  have t := hJ d k H p
  cases m with
  | zero =>
    have e : k = xs.length := hm
    subst e
    exact .inl ⟨t.2 (Nat.le_refl _), he d H p⟩
  | succ m =>
    have hk : k < xs.length := by omega
    have ex : xs[k]? = some xs[k] := List.getElem?_eq_getElem hk
    obtain ⟨go, yl⟩ := t.1 _ ex
    refine .inr ⟨go, P d (k + 1), fun H' q => ⟨m, Nat.lt_succ_self m, q, by omega⟩, fun x H' hy => ?_⟩
    obtain ⟨e1, e2⟩ := yl x H' hy
    subst e1 e2
    exact hs d k H' _ p ex
/-- of one name, no test -/
theorem lc_map (P : Addr → Nat → Hp → Prop) (hJ : ∀ d, Tells J xs (P d)) (h0 : ∀ d H2, H1 d = none → Ext noM H1 H2 → H2 d = some (.lst []) → P d 0 H2)
    (hs : ∀ d k H x, P d k H → xs[k]? = some x → te ((wipe σ [i]).set i (some x)) H fun y H4 => ∃ acc, H4 d = some (.lst acc) ∧ acc.length < sizeLine ∧ P d (k + 1) (upd H4 d (.lst (acc ++ [y]))))
    (he : ∀ d H, P d xs.length H → Q (.ref d) H) : LcAsk J (gName i) tYes te [i] σ H1 Q := by
  refine lc_any P hJ h0 (fun d k H x p hx => ?_) he
  refine ⟨wipe1, ?_⟩
  have z := hs d k H x p hx
  unfold tYes
  dsimp only
  rw [if_pos rfl]
  exact z
/-- [e for x in xs], e without any trace -/
theorem lc_pure (f : V → V) (hJ : ∀ P, (∀ k H, P k H → Ext noM H1 H) → Tells J xs P) (hl : xs.length < sizeLine)
    (hs : ∀ H x (R : VK), x ∈ xs → Ext noM H1 H → R (f x) H → te ((wipe σ [i]).set i (some x)) H R)
    (he : ∀ d H, H1 d = none → Ext noM H1 H → H d = some (.lst (xs.map f)) → Q (.ref d) H) : LcAsk J (gName i) tYes te [i] σ H1 Q := by
  refine lc_map (fun d k H => H1 d = none ∧ Ext noM H1 H ∧ H d = some (.lst ((xs.take k).map f))) (fun d => hJ _ fun k H p => p.2.1) (fun d H2 h1 h2 h3 => ⟨h1, h2, h3⟩) (fun d k H x p hx => ?_) fun d H p => ?_
  · obtain ⟨h1, h2, h4⟩ := p
    refine hs H x _ (List.mem_of_getElem? hx) h2 ⟨_, h4, ?_, h1, fun q o _ e => ?_, ?_⟩
    · rw [List.length_map]
      exact Nat.lt_of_le_of_lt (List.length_take_le' _ _) hl
    · rw [upd_ne (ne_new e h1).symm]
      exact h2 q o noM_not e
    · rw [upd_same, List.take_add_one, hx]
      simp
  · obtain ⟨h1, h2, h4⟩ := p
    rw [List.take_length] at h4
    exact he d H h1 h2 h4
theorem s_for {g : TG} (h : wi σ H fun J H1 => ∃ W : Nat → Nat → L2.St → Hp → Prop, (∃ m, W 0 m σ H1) ∧ ∀ i m σ H, W i m σ H →
  (J.stop i H ∧ D.nx σ H) ∨ (J.go i H ∧ ∃ N : L2.St → Hp → Prop, (∀ σ' H', N σ' H' → ∃ m', m' < m ∧ W (i + 1) m' σ' H') ∧ ∀ x H', J.yld i H x H' → g x σ H' fun σ2 H2 => tb { D with nx := N, ct := N, bk := D.nx } σ2 H2)) : tFor wi g tb D σ H := h
/-- for .. in xs: P, by the turn -/
theorem for_go {g : TG} (P : Nat → L2.St → Hp → Prop) (hJ : Tells J xs fun k H => ∃ σ, P k σ H) (h0 : P 0 σ H1)
    (hs : ∀ k σ H x, P k σ H → xs[k]? = some x → g x σ H fun σ2 H2 => tb { D with nx := P (k + 1), ct := P (k + 1), bk := D.nx } σ2 H2) (he : ∀ σ H, P xs.length σ H → D.nx σ H) :
    ∃ W : Nat → Nat → L2.St → Hp → Prop, (∃ m, W 0 m σ H1) ∧ ∀ i m σ H, W i m σ H →
      (J.stop i H ∧ D.nx σ H) ∨ (J.go i H ∧ ∃ N : L2.St → Hp → Prop, (∀ σ' H', N σ' H' → ∃ m', m' < m ∧ W (i + 1) m' σ' H') ∧ ∀ x H', J.yld i H x H' → g x σ H' fun σ2 H2 => tb { D with nx := N, ct := N, bk := D.nx } σ2 H2) := by
  refine ⟨fun k m σ H => P k σ H ∧ k + m = xs.length, ⟨xs.length, h0, Nat.zero_add _⟩, fun k m σ H ⟨p, hm⟩ => ?_⟩
  have t := hJ k H ⟨σ, p⟩
  cases m with
  | zero =>
    have e : k = xs.length := hm
    subst e
    exact .inl ⟨t.2 (Nat.le_refl _), he σ H p⟩
  | succ m =>
    have hk : k < xs.length := by omega
    have ex : xs[k]? = some xs[k] := List.getElem?_eq_getElem hk
    obtain ⟨go, yl⟩ := t.1 _ ex
    refine .inr ⟨go, P (k + 1), fun σ' H' q => ⟨m, Nat.lt_succ_self m, q, by omega⟩, fun x H' hy => ?_⟩
    obtain ⟨e1, e2⟩ := yl x H' hy
    subst e1 e2
    exact hs k σ H' _ p ex
theorem s_while {c : TT} (h : ∃ W : Nat → L2.St → Hp → Prop, (∃ m, W m σ H) ∧ ∀ m σ H, W m σ H →
  c σ H fun b H1 => if b = true then ∃ N : L2.St → Hp → Prop, (∀ σ' H', N σ' H' → ∃ m', m' < m ∧ W m' σ' H') ∧ tb { D with nx := N, ct := N, bk := D.nx } σ H1 else D.nx σ H1) : tWhile c tb D σ H := h
theorem i_seqL {R : It → Hp → Prop} (h : te σ H fun x H1 => ∃ a, x = .ref a ∧ (∃ xs, SqL K H1 a xs) ∧ R (Itl K a) H1) : iAny K te σ H R := .inl (.inl h)
theorem i_seqT {R : It → Hp → Prop} (h : te σ H fun x H1 => ∃ a, x = .ref a ∧ (∃ xs, SqT K H1 a xs) ∧ R (Itt K a) H1) : iAny K te σ H R := .inl (.inr h)
theorem i_text {R : It → Hp → Prop} (h : te σ H fun v H1 => ∃ x, v = .str x ∧ R (Its x) H1) : iAny K te σ H R := .inr (.inl h)
theorem j_ref {a : Addr} {xs : List V} {R : Addr → Prop} (e : H a = some (.lst xs)) (h : R a) : ∃ b, V.ref a = .ref b ∧ (∃ ys, SqL K H b ys) ∧ R b := ⟨a, rfl, ⟨xs, .inl (.inl e)⟩, h⟩
theorem j_text {z : Str} {R : Str → Prop} (h : R z) : ∃ x, V.str z = .str x ∧ R x := ⟨z, rfl, h⟩
theorem x_putL {M : Addr → Prop} {p : Addr} {vs : List V} {k : Int} {j : Nat} {v : V} {Qh : Hp → Prop} (mp : M p) (e : H p = some (.lst vs)) (hj : ixN vs.length k = some j) (h : ∀ H2, Ext M H H2 → H2 p = some (.lst (vs.set j v)) → Qh H2) : rPutU (.ref p) (.int k) v H Qh := .inl ⟨p, vs, k, j, rfl, rfl, e, hj, h _ (Ext.set mp) upd_same⟩
theorem y_str {z : Str} {p : Prop} (h : p) : tyV K "str" (.str z) H ∧ p := ⟨rfl, h⟩
theorem y_lst {a : Addr} {vs : List V} {p : Prop} (e : H a = some (.lst vs)) (h : p) : tyV K "list" (.ref a) H ∧ p := ⟨.inl ⟨rfl, vs, .inl (.inl e)⟩, h⟩
theorem y_dK {a : Addr} {vs : List (Key × V)} {p : Prop} (e : H a = some (.dK vs)) (h : p) : tyV K "dict" (.ref a) H ∧ p := ⟨.inr (.inr (.inl ⟨rfl, .inl ⟨vs, e⟩⟩)), h⟩
theorem Ext.setNew {M : Addr → Prop} {H0 : Hp} {p : Addr} {o : HO} (h : Ext M H0 H) (hn : H0 p = none) : Ext M H0 (upd H p o) := fun q o' m e => by
  rw [upd_ne (ne_new e hn).symm]
  exact h q o' m e
theorem e_dnew (h : ∀ p H2, H p = none → Ext noM H H2 → H2 p = some (.dK []) → Q (.ref p) H2) : tDNewK σ H Q := fun p e => h p _ e (Ext.new e) upd_same
def DispEnd (p : Addr) (Q : VK) (ps : List (V × V)) (H2 : Hp) : Prop := H2 p = some (.dK []) ∧ ∃ kvs : List (Key × V), ps = kvs.map (fun kv => (kV kv.1, kv.2)) ∧ kvs.length ≤ 15 ∧ Q (.ref p) (upd H2 p (.dK (mergeK [] kvs)))
theorem e_disp {trs : List (TE × TE)} (h : ∀ p H2, H p = none → Ext noM H H2 → H2 p = some (.dK []) → tPairs trs σ H2 (DispEnd p Q)) : tDisp trs σ H Q := fun p e => h p _ e (Ext.new e) upd_same
theorem q_cons {tk tv : TE} {r : List (TE × TE)} {R : List (V × V) → Hp → Prop} (h : tk σ H fun x H1 => tv σ H1 fun y H2 => tPairs r σ H2 fun ps H3 => R ((x, y) :: ps) H3) : tPairs ((tk, tv) :: r) σ H R := h
theorem q_nil {R : List (V × V) → Hp → Prop} (h : R [] H) : tPairs [] σ H R := h
theorem disp_end {p : Addr} {ps : List (V × V)} (kvs : List (Key × V)) (e : H p = some (.dK [])) (ek : ps = kvs.map fun kv => (kV kv.1, kv.2)) (l : kvs.length ≤ 15) (h : ∀ H2, (∀ M H0, Ext M H0 H → H0 p = none → Ext M H0 H2) → H2 p = some (.dK (mergeK [] kvs)) → Q (.ref p) H2) : DispEnd p Q ps H := ⟨e, kvs, ek, l, h _ (fun _ _ x z => x.setNew z) upd_same⟩
theorem v_app {l : Addr} {vs : List V} {y : V} (e : H l = some (.lst vs)) (z : vs.length < sizeLine) (h : ∀ H2, (∀ M H0, Ext M H0 H → H0 l = none → Ext M H0 H2) → (∀ M, M l → Ext M H H2) → H2 l = some (.lst (vs ++ [y])) → Q .non H2) : rAppend (.ref l) [y] H Q := ⟨l, vs, y, rfl, rfl, e, z, h _ (fun _ _ x z => x.setNew z) (fun _ m => Ext.set m) upd_same⟩
theorem v_lenLn {a : Addr} {vs : List V} {n : Nat} (e : H a = some (.lst vs)) (hn : vs.length = n) (h : Q (.int (n : Nat)) H) : rLenU K [.ref a] H Q := ⟨_, _, rfl, .inl (.inl ⟨vs, .inl (.inl e), rfl⟩), by rw [hn]; exact h⟩
theorem Ext.drop {H0 : Hp} {p : Addr} {M : Addr → Prop} (h : Ext M H0 H) (hp : ∀ q, M q → H0 q = none) : Ext noM H0 H := fun q o _ e => h q o (fun z => by rw [hp q z] at e; cases e) e
theorem rd_ext {M : Addr → Prop} {H2 : Hp} {a : Addr} {u : HO} (h : Rd H a u) (x : Ext M H H2) (m : H a ≠ none → ¬ M a) : Rd H2 a u := by
  rcases h with e | ⟨o, e⟩
  · exact .inl (x _ _ (m (by rw [e]; exact fun z => nomatch z)) e)
  · exact .inr ⟨o, x _ _ (m (by rw [e]; exact fun z => nomatch z)) e⟩
theorem sql_ext {M : Addr → Prop} {H2 : Hp} {a : Addr} {vs : List V} (h : SqL K H a vs) (x : Ext M H H2) (m : H a ≠ none → ¬ M a) : SqL K H2 a vs := by
  rcases h with h | h
  · exact .inl (rd_ext h x m)
  · exact .inr h
theorem v_lenQ {a : Addr} {vs : List V} (e : SqL K H a vs) (h : Q (.int vs.length) H) : rLenU K [.ref a] H Q := ⟨_, _, rfl, .inl (.inl ⟨vs, e, rfl⟩), h⟩
theorem v_ixQ {a : Addr} {vs : List V} {i : Int} {v : V} (e : SqL K H a vs) (l : atI vs i = some v) (h : Q v H) : rSubU' K (.ref a) (.int i) H Q := .inl (.inl ⟨a, vs, i, v, rfl, rfl, e, l, h⟩)
theorem v_repr {x : V} (d : PyData) (e : Dp K H x d) (h1 : d.showable = true) (h2 : d.depth ≤ 100) (h3 : d.shown.length ≤ sizeLine) (h : Q (.str d.shown) H) : rRepr K [x] H Q := ⟨x, d, rfl, e, h1, h2, h3, h⟩
def one (c : Nat) : Str := ⟨#[c]⟩
def ofL (cs : List Nat) : Str := ⟨cs.toArray⟩
theorem ofL_len {cs : List Nat} : (ofL cs).length = cs.length := by simp [ofL, Str.length]
theorem ofL_list {cs : List Nat} : (ofL cs).cps.toList = cs := by simp [ofL]
theorem join_ones : ∀ cs : List Nat, Str.join "" (cs.map one) = ofL cs
  | [] => rfl
  | [c] => rfl
  | c :: d :: cs => by
    show one c ++ ("" : Str) ++ Str.join "" ((d :: cs).map one) = _
    rw [join_ones (d :: cs)]
    refine Str.ext' ?_
    have e : ("" : Str).cps = #[] := by decide
    simp [Str.cps_append, e, one, ofL]
theorem v_join {a : Addr} {cs : List Nat} (e : H a = some (.lst (cs.map fun c => .str (one c)))) (l : cs.length ≤ 1000) (h : Q (.str (ofL cs)) H) : rJoin K (.str "") [.ref a] H Q := by
  refine ⟨"", a, cs.map one, rfl, rfl, .inl (.inl (.inl ?_)), ?_, ?_⟩
  · rw [List.map_map]
    exact e
  · have e1 : ((cs.map one).map (·.length)).sum = cs.length := by
      rw [List.map_map]
      clear e l h
      induction cs with
      | nil => rfl
      | cons c cs ih =>
        rw [List.map_cons, List.sum_cons, ih, List.length_cons]
        show 1 + _ = _
        omega
    rw [e1]
    have e2 : ("" : Str).length = 0 := by decide
    rw [e2]
    omega
  · have e : Txt.join "" (cs.map one) = ofL cs := (TL.join_eq _ _).trans (join_ones cs)
    rw [e]
    exact h
theorem v_isN (h : Q (.bl true) H) : rIsU .non .non H Q := ⟨rfl, h⟩
theorem v_isR {a : Addr} (h : Q (.bl false) H) : rIsU (.ref a) .non H Q := ⟨rfl, h⟩
theorem v_isI {i : Int} (h : Q (.bl false) H) : rIsU (.int i) .non H Q := ⟨rfl, h⟩
theorem v_isS {z : Str} (h : Q (.bl false) H) : rIsU (.str z) .non H Q := ⟨rfl, h⟩
theorem v_isB {b : Bool} (h : Q (.bl false) H) : rIsU (.bl b) .non H Q := ⟨rfl, h⟩
theorem v_isntN (h : Q (.bl false) H) : rIsntU .non .non H Q := ⟨rfl, h⟩
theorem v_isntR {a : Addr} (h : Q (.bl true) H) : rIsntU (.ref a) .non H Q := ⟨rfl, h⟩
theorem v_isntI {i : Int} (h : Q (.bl true) H) : rIsntU (.int i) .non H Q := ⟨rfl, h⟩
theorem v_isntS {z : Str} (h : Q (.bl true) H) : rIsntU (.str z) .non H Q := ⟨rfl, h⟩
theorem v_isntB {b : Bool} (h : Q (.bl true) H) : rIsntU (.bl b) .non H Q := ⟨rfl, h⟩
theorem at0 {y : V} {ys : List V} : atI (y :: ys) 0 = some y := by
  unfold atI ixN
  rw [if_pos (Int.le_refl 0), if_pos (by simp only [List.length_cons]; omega)]
  rfl
theorem atN {xs : List V} {k : Nat} {y : V} (h : xs[k]? = some y) : atI xs (k : Nat) = some y := by
  obtain ⟨hk, _⟩ := List.getElem?_eq_some_iff.mp h
  unfold atI ixN
  rw [if_pos (Int.natCast_nonneg k), if_pos (by omega)]
  exact h
theorem v_inS {n : Nat} {z : Str} (h : Q (.bl (decide (n ∈ z.cps.toList))) H) : rInU K (.str ⟨#[n]⟩) (.str z) H Q := .inr (.inl ⟨n, z, rfl, rfl, h⟩)
theorem v_inL {x : V} {a : Addr} {xs : List V} (e : H a = some (.lst xs)) (f1 : flatV x = true) (f2 : xs.all flatV = true) (h : Q (.bl (inV x xs)) H) : rInU K x (.ref a) H Q := .inl ⟨a, xs, rfl, .inl (.inl (.inl e)), f1, f2, by rw [if_neg Bool.false_ne_true]; exact h⟩
theorem v_all {a : Addr} {bs : List Bool} (e : H a = some (.lst (bs.map V.bl))) (h : Q (.bl (bs.all id)) H) : rAll K [.ref a] H Q := ⟨a, bs, rfl, .inl (.inl e), h⟩
theorem v_any {a : Addr} {bs : List Bool} (e : H a = some (.lst (bs.map V.bl))) (h : Q (.bl (bs.any id)) H) : rAny K [.ref a] H Q := ⟨a, bs, rfl, .inl (.inl e), h⟩
theorem i_rng1 {tA : TA} {R : It → Hp → Prop} (h : tA σ H fun vs H1 => ∃ j : Int, vs = [.int j] ∧ -(2 ^ 62) ≤ j ∧ j < 2 ^ 62 ∧ R (Itr 0 j.toNat) H1) : iRng1 tA σ H R := h
theorem i_rng2 {tA : TA} {R : It → Hp → Prop} (h : tA σ H fun vs H1 => ∃ i j : Int, vs = [.int i, .int j] ∧ (-(2 ^ 62) ≤ i ∧ i < 2 ^ 62 ∧ -(2 ^ 62) ≤ j ∧ j < 2 ^ 62) ∧ R (Itr i (j - i).toNat) H1) : iRng2 tA σ H R := h
theorem j_rng1 {j : Int} {R : Int → Prop} (h1 : -(2 ^ 62) ≤ j) (h2 : j < 2 ^ 62) (h : R j) : ∃ i : Int, [V.int j] = [.int i] ∧ -(2 ^ 62) ≤ i ∧ i < 2 ^ 62 ∧ R i := ⟨j, rfl, h1, h2, h⟩
end
end Rw

open Rw in
local macro_rules | `(tactic| walk_at "go1") => `(tactic| first
  | with_reducible apply s_seq
  | with_reducible apply s_ret
  | with_reducible apply e_c
  | ((with_reducible apply e_var); · exact rfl)
  | with_reducible apply e_op
  | with_reducible apply a_cons
  | with_reducible apply a_nil
  | ((with_reducible apply e_fn); · exact rfl)
  | ((with_reducible apply f_go); (· exact rfl); (· exact rfl); (· dsimp only [plug, List.map, List.nil_append, List.cons_append, nth] <;> exact rfl))
  | with_reducible apply e_cb
  | with_reducible apply s_if
  | with_reducible apply s_asg
  | with_reducible apply x_name
  | with_reducible apply c_test
  | with_reducible apply c_tru
  | with_reducible apply c_and
  | with_reducible apply c_or
  | with_reducible apply c_not
  | with_reducible apply b_bl
  | with_reducible apply b_tru
  | with_reducible apply b_truI
  | with_reducible apply e_and
  | with_reducible apply e_or
  | with_reducible apply e_not
  | with_reducible apply e_chain
  | with_reducible apply e_ite
  | with_reducible apply i_t
  | with_reducible apply i_f
  | with_reducible apply i_nt
  | with_reducible apply i_nf
  | with_reducible apply s_next
  | with_reducible apply s_drop
  | with_reducible apply s_retN
  | with_reducible apply e_tup
  | with_reducible apply e_lst
  | with_reducible apply e_un
  | with_reducible apply e_sl
  | with_reducible apply p_none
  | with_reducible apply p_some
  | with_reducible apply p_int
  | with_reducible apply s_par
  | with_reducible apply v_lt
  | with_reducible apply v_le
  | with_reducible apply v_gt
  | with_reducible apply v_ge
  | with_reducible apply v_addI
  | with_reducible apply v_sub
  | with_reducible apply v_neg
  | with_reducible apply v_isN
  | with_reducible apply v_isR
  | with_reducible apply v_isI
  | with_reducible apply v_isS
  | with_reducible apply v_isB
  | with_reducible apply v_isntN
  | with_reducible apply v_isntR
  | with_reducible apply v_isntI
  | with_reducible apply v_isntS
  | with_reducible apply v_isntB
  | with_reducible apply v_is
  | with_reducible apply v_isnt
  | with_reducible apply v_eqI
  | with_reducible apply v_eqS
  | with_reducible apply v_neI
  | with_reducible apply v_neS
  | with_reducible apply v_abs
  | with_reducible apply v_max
  | with_reducible apply v_min
  | with_reducible apply v_inS
  | with_reducible apply x_nil
  | with_reducible apply x_cons
  | with_reducible apply x_sub
  | ((with_reducible apply v_ixT); (· assumption); (· exact rfl))
  | ((with_reducible apply v_ixL); (· assumption); (· exact rfl))
  | ((with_reducible apply x_tup); (· assumption); (· exact rfl))
  | ((with_reducible apply v_inst (b := true)); (· first | exact ty_int | exact ty_non | exact ty_bl | exact ty_str | exact ty_tup (by assumption) | exact ty_lst (by assumption) | exact ty_dK (by assumption)); (· exact rfl))
  | ((with_reducible apply v_inst (b := false)); (· first | exact ty_int | exact ty_non | exact ty_bl | exact ty_str | exact ty_tup (by assumption) | exact ty_lst (by assumption) | exact ty_dK (by assumption)); (· exact rfl))
  | with_reducible apply e_lc
  | with_reducible apply s_for
  | with_reducible apply i_rng1
  | with_reducible apply i_rng2
  | with_reducible apply q_cons
  | with_reducible apply q_nil
  | with_reducible apply y_str
  | ((with_reducible apply y_lst); (· assumption))
  | ((with_reducible apply n_obj); (· exact Nat.le_of_ble_eq_true rfl))
  | with_reducible apply e_bm
  | with_reducible apply e_bm0)
local macro_rules | `(tactic| walk_at "go") => `(tactic| repeat walk_at "go1")

namespace Hd
open PySem PySem.Spec PyProof.Rows L2
def top (i : Nat) : Stmt := PySem.Challenge.pw_roomwhole_k11_cells.main.body.getD i (.Pass ⟨0, 0, 0, 0⟩)
def dd (a : Str × Option Str) (n q : Str) (s : Stmt) (dfl : List He.Dv) (kwd : List (Str × He.Dv)) : He.DefD := ⟨a, n, q, defArgs s, defBody s, defScope s, dfl, kwd⟩
def fn : List He.DefD := [
  dd ("is_whole", none) "is_whole" "is_whole" (top 6) [] [],
  dd ("is_number", none) "is_number" "is_number" (top 7) [] [],
  dd ("is_word", none) "is_word" "is_word" (top 8) [] [],
  dd ("is_name", none) "is_name" "is_name" (top 9) [] [],
  dd ("is_tag", none) "is_tag" "is_tag" (top 10) [] [],
  dd ("is_spoken", none) "is_spoken" "is_spoken" (top 11) [] [],
  dd ("is_cell", none) "is_cell" "is_cell" (top 12) [] [],
  dd ("_law_pot", none) "_law_pot" "_law_pot" (top 14) [] [],
  dd ("_law_draw", none) "_law_draw" "_law_draw" (top 15) [] [],
  dd ("_law_number", none) "_law_number" "_law_number" (top 16) [] [],
  dd ("_law_text", none) "_law_text" "_law_text" (top 17) [] [],
  dd ("_law_named", none) "_law_named" "_law_named" (top 18) [] [],
  dd ("_law_no_text", none) "_law_no_text" "_law_no_text" (top 19) [] [],
  dd ("_law_right_cell", none) "_law_right_cell" "_law_right_cell" (top 20) [] [],
  dd ("_law_odd", none) "_law_odd" "_law_odd" (top 21) [] [],
  dd ("_law_spoilt", none) "_law_spoilt" "_law_spoilt" (top 22) [] [],
  dd ("_law_thing", none) "_law_thing" "_law_thing" (top 23) [] [],
  dd ("law", none) "law" "law" (top 24) [] []]
def fa0 : List He.Fa := [.glo "_law_draw", .glo "_law_named", .glo "_law_no_text", .glo "_law_number", .glo "_law_odd", .glo "_law_pot", .glo "_law_right_cell", .glo "_law_spoilt", .glo "_law_text", .glo "_law_thing", .glo "is_cell", .glo "is_name", .glo "is_number", .glo "is_spoken", .glo "is_tag", .glo "is_whole", .glo "is_word", .glo "law", .free "abs", .free "all", .free "bool", .free "divmod", .free "int", .free "isinstance", .free "len", .free "max", .free "min", .free "range", .free "repr", .free "str", .free "tuple", .int "GREATEST" 999999999999, .int "MOST_SIGNS" 8, .int "MOST_FIELDS" 30, .str "LETTERS" "abcdefghijklmnopqrstuvwxyz", .str "DIGITS" "0123456789"]
def fa : List He.Fa := fa0
def lo0 : List Str := [("GREATEST" : Str), ("MOST_SIGNS" : Str), ("MOST_FIELDS" : Str), ("LETTERS" : Str), ("DIGITS" : Str), ("is_whole" : Str), ("is_number" : Str), ("is_word" : Str), ("is_name" : Str), ("is_tag" : Str), ("is_spoken" : Str), ("is_cell" : Str), ("_law_pot" : Str), ("_law_draw" : Str), ("_law_number" : Str), ("_law_text" : Str), ("_law_named" : Str), ("_law_no_text" : Str), ("_law_right_cell" : Str), ("_law_odd" : Str), ("_law_spoilt" : Str), ("_law_thing" : Str)]
def lo : List Str := lo0
abbrev R : PySem.W.OpenRow := PySem.W.OpenLaw.row PySem.Challenge.rw_roomwhole_k11_cells
abbrev hk : PySem.W.Hook := He.hookD 4 fa fn
def ob (s : PySem.W.SharedT) : He.AlD := He.obsDG 4 fa fn (HandSHeadRun.getT s)
theorem ob_eq (s : PySem.W.SharedT) : ob s = hk.obs s.abs := He.obsDG_eq (HandSHeadRun.getT_eq s)
theorem run (w : World) : HandSHeadRun.RunEq R (PySem.W.view R.prog [24]) hk ob 20000 lo w := by
  intro os
  kernel_rfl


open Rw
def sh : List Shp := [⟨("is_whole", none), 1, [], [.pos 0]⟩,
  ⟨("is_word", none), 2, [], [.pos 0, .pos 1]⟩,
  ⟨("is_number", none), 1, [], [.pos 0]⟩,
  ⟨("is_spoken", none), 3, [], [.pos 0, .pos 1, .pos 2]⟩,
  ⟨("_law_draw", none), 2, [], [.pos 0, .pos 1]⟩,
  ⟨("_law_text", none), 4, [], [.pos 0, .pos 1, .pos 2, .pos 3]⟩,
  ⟨("_law_number", none), 1, [], [.pos 0]⟩,
  ⟨("_law_odd", none), 1, [], [.pos 0]⟩,
  ⟨("_law_spoilt", none), 1, [], [.pos 0]⟩,
  ⟨("_law_right_cell", none), 1, [], [.pos 0]⟩,
  ⟨("_law_no_text", none), 1, [], [.pos 0]⟩,
  ⟨("_law_named", none), 1, [], [.pos 0]⟩,
  ⟨("is_number", none), 0, ["thing"], [.kw 0]⟩,
  ⟨("is_name", none), 0, ["thing"], [.kw 0]⟩,
  ⟨("is_tag", none), 0, ["thing"], [.kw 0]⟩,
  ⟨("is_cell", none), 0, ["thing"], [.kw 0]⟩,
  ⟨("is_name", none), 1, [], [.pos 0]⟩,
  ⟨("is_tag", none), 1, [], [.pos 0]⟩,
  ⟨("is_cell", none), 1, [], [.pos 0]⟩,
  ⟨("_law_thing", none), 1, [], [.pos 0]⟩,
  ⟨("_law_pot", none), 2, [], [.pos 0, .pos 1]⟩]
def N_is_whole : List Str := [("thing" : Str)]
def d_is_whole : He.DefD := dd ("is_whole", none) "is_whole" "is_whole" (top 6) [] []
def D_is_whole (K : PySem.W.Frag) (Ph : Ky → Sp) (W : WX) : {t : TS // GB (cn0 fa sh K Ph N_is_whole (d_is_whole).scope W) (d_is_whole).body t} := ⟨_,
   (gb_cons (gs_ret (g_and (g_fn f_isi (ga_cons (gv 0) (ga_cons (gty "int") ga_nil))) (g_one (g_not (g_fn f_isi (ga_cons (gv 0) (ga_cons (gty "bool") ga_nil)))))))
   gb_nil)⟩
def e_is_whole : Ent := ⟨d_is_whole, [("thing" : Str)], N_is_whole, fun K Ph W => (D_is_whole K Ph W).1⟩
def N_is_number : List Str := [("thing" : Str)]
def d_is_number : He.DefD := dd ("is_number", none) "is_number" "is_number" (top 7) [] []
def D_is_number (K : PySem.W.Frag) (Ph : Ky → Sp) (W : WX) : {t : TS // GB (cn0 fa sh K Ph N_is_number (d_is_number).scope W) (d_is_number).body t} := ⟨_,
   (gb_cons (gs_ret (g_and (g_call (ga_cons (gv 0) ga_nil) gk_nil) (g_one (g_chain .le .le gi (gv 0) (gint (i := 999999999999))))))
   gb_nil)⟩
def e_is_number : Ent := ⟨d_is_number, [("thing" : Str)], N_is_number, fun K Ph W => (D_is_number K Ph W).1⟩
def N_is_word : List Str := [("thing" : Str), ("signs" : Str), ("sign" : Str)]
def d_is_word : He.DefD := dd ("is_word", none) "is_word" "is_word" (top 8) [] []
def D_is_word (K : PySem.W.Frag) (Ph : Ky → Sp) (W : WX) : {t : TS // GB (cn0 fa sh K Ph N_is_word (d_is_word).scope W) (d_is_word).body t} := ⟨_,
   (gb_cons (gs_if (gt_bool (gw_or (gt_not (gt_val (g_fn f_isi (ga_cons (gv 0) (ga_cons (gty "str") ga_nil))))) (gw_or1 (gt_not (gt_chain .le .le gi (g_fn f_len (ga_cons (gv 0) ga_nil)) (gint (i := 8)))))))
    (gb_cons (gs_ret gb)
   gb_nil)
    gb_nil)
   (gb_cons (gs_ret (g_fn f_all (ga_cons (g_lc [("sign", 2)] [2] (gi_any (gv 0)) (gg_name 2) gts_nil (g_cmp .inn (gv 2) (gv 1))) ga_nil)))
   gb_nil))⟩
def e_is_word : Ent := ⟨d_is_word, [("thing" : Str), ("signs" : Str)], N_is_word, fun K Ph W => (D_is_word K Ph W).1⟩
def N_is_name : List Str := [("thing" : Str)]
def d_is_name : He.DefD := dd ("is_name", none) "is_name" "is_name" (top 9) [] []
def D_is_name (K : PySem.W.Frag) (Ph : Ky → Sp) (W : WX) : {t : TS // GB (cn0 fa sh K Ph N_is_name (d_is_name).scope W) (d_is_name).body t} := ⟨_,
   (gb_cons (gs_ret (g_call (ga_cons (gv 0) (ga_cons (gstr (z := "abcdefghijklmnopqrstuvwxyz")) ga_nil)) gk_nil))
   gb_nil)⟩
def e_is_name : Ent := ⟨d_is_name, [("thing" : Str)], N_is_name, fun K Ph W => (D_is_name K Ph W).1⟩
def N_is_tag : List Str := [("thing" : Str)]
def d_is_tag : He.DefD := dd ("is_tag", none) "is_tag" "is_tag" (top 10) [] []
def D_is_tag (K : PySem.W.Frag) (Ph : Ky → Sp) (W : WX) : {t : TS // GB (cn0 fa sh K Ph N_is_tag (d_is_tag).scope W) (d_is_tag).body t} := ⟨_,
   (gb_cons (gs_ret (g_call (ga_cons (gv 0) (ga_cons (g_add (gstr (z := "abcdefghijklmnopqrstuvwxyz")) (gstr (z := "0123456789"))) ga_nil)) gk_nil))
   gb_nil)⟩
def e_is_tag : Ent := ⟨d_is_tag, [("thing" : Str)], N_is_tag, fun K Ph W => (D_is_tag K Ph W).1⟩
def N_is_spoken : List Str := [("thing" : Str), ("word" : Str), ("many" : Str)]
def d_is_spoken : He.DefD := dd ("is_spoken", none) "is_spoken" "is_spoken" (top 11) [] []
def D_is_spoken (K : PySem.W.Frag) (Ph : Ky → Sp) (W : WX) : {t : TS // GB (cn0 fa sh K Ph N_is_spoken (d_is_spoken).scope W) (d_is_spoken).body t} := ⟨_,
   (gb_cons (gs_ret (g_and (g_fn f_isi (ga_cons (gv 0) (ga_cons (gty "tuple") ga_nil))) (g_and (g_cmp .eq (g_fn f_len (ga_cons (gv 0) ga_nil)) (gv 2)) (g_and (g_fn f_isi (ga_cons (g_ix (gv 0) gi) (ga_cons (gty "str") ga_nil))) (g_one (g_cmp .eq (g_ix (gv 0) gi) (gv 1)))))))
   gb_nil)⟩
def e_is_spoken : Ent := ⟨d_is_spoken, [("thing" : Str), ("word" : Str), ("many" : Str)], N_is_spoken, fun K Ph W => (D_is_spoken K Ph W).1⟩
def N_is_cell : List Str := [("thing" : Str)]
def d_is_cell : He.DefD := dd ("is_cell", none) "is_cell" "is_cell" (top 12) [] []
def D_is_cell (K : PySem.W.Frag) (Ph : Ky → Sp) (W : WX) : {t : TS // GB (cn0 fa sh K Ph N_is_cell (d_is_cell).scope W) (d_is_cell).body t} := ⟨_,
   (gb_cons (gs_if (gt_bool (gw_or (gt_cmp .isn (gv 0) gn) (gw_or1 (gt_val (g_call (ga_cons (gv 0) ga_nil) gk_nil)))))
    (gb_cons (gs_ret gb)
   gb_nil)
    gb_nil)
   (gb_cons (gs_if (gt_val (g_call (ga_cons (gv 0) (ga_cons gs (ga_cons gi ga_nil))) gk_nil))
    (gb_cons (gs_ret (g_call (ga_cons (g_ix (gv 0) gi) ga_nil) gk_nil))
   gb_nil)
    gb_nil)
   (gb_cons (gs_if (gt_bool (gw_or (gt_not (gt_val (g_call (ga_cons (gv 0) (ga_cons gs (ga_cons gi ga_nil))) gk_nil))) (gw_or (gt_not (gt_val (g_call (ga_cons (g_ix (gv 0) gi) ga_nil) gk_nil))) (gw_or1 (gt_cmp .eq (g_ix (gv 0) gi) gi)))))
    (gb_cons (gs_ret gb)
   gb_nil)
    gb_nil)
   (gb_cons (gs_ret (g_and (g_call (ga_cons (g_ix (gv 0) gi) ga_nil) gk_nil) (g_one (g_chain .le .le gi (g_ix (gv 0) gi) (gint (i := 30))))))
   gb_nil))))⟩
def e_is_cell : Ent := ⟨d_is_cell, [("thing" : Str)], N_is_cell, fun K Ph W => (D_is_cell K Ph W).1⟩
def N__law_pot : List Str := [("script" : Str), ("k" : Str), ("cell" : Str)]
def d__law_pot : He.DefD := dd ("_law_pot", none) "_law_pot" "_law_pot" (top 14) [] []
def D__law_pot (K : PySem.W.Frag) (Ph : Ky → Sp) (W : WX) : {t : TS // GB (cn0 fa sh K Ph N__law_pot (d__law_pot).scope W) (d__law_pot).body t} := ⟨_,
   (gb_cons (gs_asg (g_if (gt_cmp .lt (gv 1) (g_fn f_len (ga_cons (gv 0) ga_nil))) (g_ix (gv 0) (gv 1)) gi) (gg_name 2))
   (gb_cons (gs_ret (g_lst (ga_cons (g_fn f_max2 (ga_cons gi (ga_cons (g_sub (g_fn f_abs (ga_cons (gv 2) ga_nil)) (g_pow gi gi)) ga_nil))) (ga_cons (g_add (g_add (g_mod (g_fn f_abs (ga_cons (gv 2) ga_nil)) gi) (g_mul gi (gv 1))) gi) ga_nil))))
   gb_nil))⟩
def e__law_pot : Ent := ⟨d__law_pot, [("script" : Str), ("k" : Str)], N__law_pot, fun K Ph W => (D__law_pot K Ph W).1⟩
def N__law_draw : List Str := [("pot" : Str), ("many" : Str), ("digit" : Str)]
def d__law_draw : He.DefD := dd ("_law_draw", none) "_law_draw" "_law_draw" (top 15) [] []
def D__law_draw (K : PySem.W.Frag) (Ph : Ky → Sp) (W : WX) : {t : TS // GB (cn0 fa sh K Ph N__law_draw (d__law_draw).scope W) (d__law_draw).body t} := ⟨_,
   (gb_cons (gs_if (gt_cmp .gt (g_ix (gv 0) gi) gi)
    (gb_cons (gs_asg (g_fn f_divmod (ga_cons (g_ix (gv 0) gi) (ga_cons (gv 1) ga_nil))) (gg_tup 2 (ggs_cons (gg_sub (gv 0) gi) (ggs_cons (gg_name 2) ggs_nil))))
   (gb_cons (gs_ret (gv 2))
   gb_nil))
    gb_nil)
   (gb_cons (gs_asg (g_mod (g_add (g_mul (g_ix (gv 0) gi) gi) gi) gi) (gg_sub (gv 0) gi))
   (gb_cons (gs_ret (g_mod (g_div (g_mod (g_mul (g_ix (gv 0) gi) (g_ix (gv 0) gi)) gi) gi) (gv 1)))
   gb_nil)))⟩
def e__law_draw : Ent := ⟨d__law_draw, [("pot" : Str), ("many" : Str)], N__law_draw, fun K Ph W => (D__law_draw K Ph W).1⟩
def N__law_number : List Str := [("pot" : Str), ("turn" : Str)]
def d__law_number : He.DefD := dd ("_law_number", none) "_law_number" "_law_number" (top 16) [] []
def D__law_number (K : PySem.W.Frag) (Ph : Ky → Sp) (W : WX) : {t : TS // GB (cn0 fa sh K Ph N__law_number (d__law_number).scope W) (d__law_number).body t} := ⟨_,
   (gb_cons (gs_asg (g_call (ga_cons (gv 0) (ga_cons gi ga_nil)) gk_nil) (gg_name 1))
   (gb_cons (gs_if (gt_cmp .lt (gv 1) gi)
    (gb_cons (gs_ret (g_ix (g_lst (ga_cons gi (ga_cons gi (ga_cons gi ga_nil)))) (gv 1)))
   gb_nil)
    gb_nil)
   (gb_cons (gs_ret (g_ix (g_lst (ga_cons (g_call (ga_cons (gv 0) (ga_cons gi ga_nil)) gk_nil) (ga_cons (g_call (ga_cons (gv 0) (ga_cons (g_pow gi gi) ga_nil)) gk_nil) (ga_cons (g_sub (g_sub (g_pow gi gi) gi) (g_call (ga_cons (gv 0) (ga_cons gi ga_nil)) gk_nil)) ga_nil)))) (g_sub (gv 1) gi)))
   gb_nil)))⟩
def e__law_number : Ent := ⟨d__law_number, [("pot" : Str)], N__law_number, fun K Ph W => (D__law_number K Ph W).1⟩
def N__law_text : List Str := [("pot" : Str), ("signs" : Str), ("least" : Str), ("most" : Str), ("k" : Str)]
def d__law_text : He.DefD := dd ("_law_text", none) "_law_text" "_law_text" (top 17) [] []
def D__law_text (K : PySem.W.Frag) (Ph : Ky → Sp) (W : WX) : {t : TS // GB (cn0 fa sh K Ph N__law_text (d__law_text).scope W) (d__law_text).body t} := ⟨_,
   (gb_cons (gs_ret (g_bm m_join gs (ga_cons (g_lc [("k", 4)] [4] (gi_rng1 (g_add (gv 2) (g_call (ga_cons (gv 0) (ga_cons (g_add (g_sub (gv 3) (gv 2)) gi) ga_nil)) gk_nil))) (gg_name 4) gts_nil (g_ix (gv 1) (g_call (ga_cons (gv 0) (ga_cons (g_fn f_len (ga_cons (gv 1) ga_nil)) ga_nil)) gk_nil))) ga_nil)))
   gb_nil)⟩
def e__law_text : Ent := ⟨d__law_text, [("pot" : Str), ("signs" : Str), ("least" : Str), ("most" : Str)], N__law_text, fun K Ph W => (D__law_text K Ph W).1⟩
def N__law_named : List Str := [("pot" : Str), ("letters" : Str), ("turn" : Str), ("digit" : Str), ("own" : Str), ("at" : Str)]
def d__law_named : He.DefD := dd ("_law_named", none) "_law_named" "_law_named" (top 18) [] []
def D__law_named (K : PySem.W.Frag) (Ph : Ky → Sp) (W : WX) : {t : TS // GB (cn0 fa sh K Ph N__law_named (d__law_named).scope W) (d__law_named).body t} := ⟨_,
   (gb_cons (gs_asg gs (gg_name 1))
   (gb_cons (gs_asg (g_call (ga_cons (gv 0) (ga_cons gi ga_nil)) gk_nil) (gg_name 2))
   (gb_cons (gs_if (gt_cmp .eq (gv 2) gi)
    (gb_cons (gs_ret (g_tup (ga_cons (g_call (ga_cons (gv 0) (ga_cons (gv 1) (ga_cons gi (ga_cons gi ga_nil)))) gk_nil) (ga_cons (g_lst (ga_cons gb (ga_cons gb (ga_cons gb (ga_cons gb ga_nil))))) ga_nil))))
   gb_nil)
    gb_nil)
   (gb_cons (gs_if (gt_cmp .eq (gv 2) gi)
    (gb_cons (gs_asg (g_call (ga_cons (gv 0) (ga_cons gs (ga_cons gi (ga_cons gi ga_nil)))) gk_nil) (gg_name 3))
   (gb_cons (gs_asg (g_call (ga_cons (gv 0) (ga_cons (g_add (gv 1) gs) (ga_cons gi (ga_cons gi ga_nil)))) gk_nil) (gg_name 4))
   (gb_cons (gs_asg (g_call (ga_cons (gv 0) (ga_cons (g_add (g_fn f_len (ga_cons (gv 4) ga_nil)) gi) ga_nil)) gk_nil) (gg_name 5))
   (gb_cons (gs_ret (g_tup (ga_cons (g_add (g_add (g_slice (gv 4) go_none (go_some (gv 5))) (gv 3)) (g_slice (gv 4) (go_some (gv 5)) go_none)) (ga_cons (g_lst (ga_cons gb (ga_cons gb (ga_cons gb (ga_cons gb ga_nil))))) ga_nil))))
   gb_nil))))
    gb_nil)
   (gb_cons (gs_ret (g_tup (ga_cons (g_ix (g_lst (ga_cons gs (ga_cons gs (ga_cons gs (ga_cons gs (ga_cons gs (ga_cons gs (ga_cons gs ga_nil)))))))) (g_call (ga_cons (gv 0) (ga_cons gi ga_nil)) gk_nil)) (ga_cons (g_lst (ga_cons gb (ga_cons gb (ga_cons gb (ga_cons gb ga_nil))))) ga_nil))))
   gb_nil)))))⟩
def e__law_named : Ent := ⟨d__law_named, [("pot" : Str)], N__law_named, fun K Ph W => (D__law_named K Ph W).1⟩
def N__law_no_text : List Str := [("pot" : Str), ("letters" : Str), ("turn" : Str), ("own" : Str), ("at" : Str)]
def d__law_no_text : He.DefD := dd ("_law_no_text", none) "_law_no_text" "_law_no_text" (top 19) [] []
def D__law_no_text (K : PySem.W.Frag) (Ph : Ky → Sp) (W : WX) : {t : TS // GB (cn0 fa sh K Ph N__law_no_text (d__law_no_text).scope W) (d__law_no_text).body t} := ⟨_,
   (gb_cons (gs_asg gs (gg_name 1))
   (gb_cons (gs_asg (g_call (ga_cons (gv 0) (ga_cons gi ga_nil)) gk_nil) (gg_name 2))
   (gb_cons (gs_if (gt_cmp .eq (gv 2) gi)
    (gb_cons (gs_ret (g_ix (g_lst (ga_cons gs (ga_cons gs (ga_cons gs (ga_cons gs (ga_cons gs (ga_cons gs (ga_cons gs (ga_cons gs (ga_cons gs (ga_cons gs (ga_cons gs (ga_cons gs (ga_cons gs (ga_cons gs (ga_cons gs ga_nil)))))))))))))))) (g_call (ga_cons (gv 0) (ga_cons gi ga_nil)) gk_nil)))
   gb_nil)
    gb_nil)
   (gb_cons (gs_if (gt_cmp .eq (gv 2) gi)
    (gb_cons (gs_ret (g_call (ga_cons (gv 0) (ga_cons (gv 1) (ga_cons gi (ga_cons gi ga_nil)))) gk_nil))
   gb_nil)
    gb_nil)
   (gb_cons (gs_asg (g_call (ga_cons (gv 0) (ga_cons (gv 1) (ga_cons gi (ga_cons gi ga_nil)))) gk_nil) (gg_name 3))
   (gb_cons (gs_asg (g_call (ga_cons (gv 0) (ga_cons (g_add (g_fn f_len (ga_cons (gv 3) ga_nil)) gi) ga_nil)) gk_nil) (gg_name 4))
   (gb_cons (gs_ret (g_add (g_add (g_slice (gv 3) go_none (go_some (gv 4))) (g_ix gs (g_call (ga_cons (gv 0) (ga_cons gi ga_nil)) gk_nil))) (g_slice (gv 3) (go_some (gv 4)) go_none)))
   gb_nil)))))))⟩
def e__law_no_text : Ent := ⟨d__law_no_text, [("pot" : Str)], N__law_no_text, fun K Ph W => (D__law_no_text K Ph W).1⟩
def N__law_right_cell : List Str := [("pot" : Str), ("turn" : Str)]
def d__law_right_cell : He.DefD := dd ("_law_right_cell", none) "_law_right_cell" "_law_right_cell" (top 20) [] []
def D__law_right_cell (K : PySem.W.Frag) (Ph : Ky → Sp) (W : WX) : {t : TS // GB (cn0 fa sh K Ph N__law_right_cell (d__law_right_cell).scope W) (d__law_right_cell).body t} := ⟨_,
   (gb_cons (gs_asg (g_call (ga_cons (gv 0) (ga_cons gi ga_nil)) gk_nil) (gg_name 1))
   (gb_cons (gs_if (gt_cmp .eq (gv 1) gi)
    (gb_cons (gs_ret gn)
   gb_nil)
    gb_nil)
   (gb_cons (gs_if (gt_cmp .eq (gv 1) gi)
    (gb_cons (gs_ret (g_tup (ga_cons gs (ga_cons (g_call (ga_cons (gv 0) ga_nil) gk_nil) ga_nil))))
   gb_nil)
    gb_nil)
   (gb_cons (gs_ret (g_tup (ga_cons gs (ga_cons (g_fn f_max2 (ga_cons gi (ga_cons (g_call (ga_cons (gv 0) ga_nil) gk_nil) ga_nil))) (ga_cons (g_ix (g_lst (ga_cons gi (ga_cons gi (ga_cons (g_call (ga_cons (gv 0) (ga_cons gi ga_nil)) gk_nil) ga_nil)))) (g_call (ga_cons (gv 0) (ga_cons gi ga_nil)) gk_nil)) ga_nil)))))
   gb_nil))))⟩
def e__law_right_cell : Ent := ⟨d__law_right_cell, [("pot" : Str)], N__law_right_cell, fun K Ph W => (D__law_right_cell K Ph W).1⟩
def N__law_odd : List Str := [("pot" : Str), ("some" : Str)]
def d__law_odd : He.DefD := dd ("_law_odd", none) "_law_odd" "_law_odd" (top 21) [] []
def D__law_odd (K : PySem.W.Frag) (Ph : Ky → Sp) (W : WX) : {t : TS // GB (cn0 fa sh K Ph N__law_odd (d__law_odd).scope W) (d__law_odd).body t} := ⟨_,
   (gb_cons (gs_asg (g_lst (ga_cons (g_neg gi) (ga_cons (g_pow gi gi) (ga_cons (g_pow gi gi) (ga_cons (g_neg (g_pow gi gi)) (ga_cons gb (ga_cons gb (ga_cons gs (ga_cons (g_lst (ga_cons gi ga_nil)) (ga_cons (g_tup (ga_cons gi ga_nil)) (ga_cons (g_tup ga_nil) (ga_cons (g_lst ga_nil) (ga_cons g_dict0 (ga_cons (g_dict (gp_cons gs gi gp_nil)) (ga_cons (g_tup (ga_cons gs ga_nil)) ga_nil))))))))))))))) (gg_name 1))
   (gb_cons (gs_expr (g_bm m_append (gv 1) (ga_cons (g_tup (ga_cons gs ga_nil)) ga_nil)))
   (gb_cons (gs_ret (g_ix (gv 1) (g_call (ga_cons (gv 0) (ga_cons (g_fn f_len (ga_cons (gv 1) ga_nil)) ga_nil)) gk_nil)))
   gb_nil)))⟩
def e__law_odd : Ent := ⟨d__law_odd, [("pot" : Str)], N__law_odd, fun K Ph W => (D__law_odd K Ph W).1⟩
def N__law_spoilt : List Str := [("pot" : Str), ("number" : Str), ("fields" : Str), ("turn" : Str)]
def d__law_spoilt : He.DefD := dd ("_law_spoilt", none) "_law_spoilt" "_law_spoilt" (top 22) [] []
def D__law_spoilt (K : PySem.W.Frag) (Ph : Ky → Sp) (W : WX) : {t : TS // GB (cn0 fa sh K Ph N__law_spoilt (d__law_spoilt).scope W) (d__law_spoilt).body t} := ⟨_,
   (gb_cons (gs_par 1 2 (g_call (ga_cons (gv 0) ga_nil) gk_nil) (g_call (ga_cons (gv 0) (ga_cons gi ga_nil)) gk_nil))
   (gb_cons (gs_asg (g_call (ga_cons (gv 0) (ga_cons gi ga_nil)) gk_nil) (gg_name 3))
   (gb_cons (gs_if (gt_cmp .eq (gv 3) gi)
    (gb_cons (gs_ret (g_tup (ga_cons gs (ga_cons (g_call (ga_cons (gv 0) ga_nil) gk_nil) ga_nil))))
   gb_nil)
    gb_nil)
   (gb_cons (gs_if (gt_cmp .eq (gv 3) gi)
    (gb_cons (gs_ret (g_ix (g_lst (ga_cons (g_lst (ga_cons gs (ga_cons (gv 1) ga_nil))) (ga_cons (g_lst (ga_cons gs (ga_cons (g_add (gv 1) gi) (ga_cons (gv 2) ga_nil)))) (ga_cons (g_tup (ga_cons gs (ga_cons (gv 1) (ga_cons (gv 1) ga_nil)))) (ga_cons (g_tup (ga_cons gs (ga_cons gn ga_nil))) ga_nil))))) (g_call (ga_cons (gv 0) (ga_cons gi ga_nil)) gk_nil)))
   gb_nil)
    gb_nil)
   (gb_cons (gs_if (gt_cmp .eq (gv 3) gi)
    (gb_cons (gs_ret (g_tup (ga_cons gs (ga_cons (g_ix (g_lst (ga_cons gi (ga_cons (g_call (ga_cons (gv 0) ga_nil) gk_nil) ga_nil))) (g_call (ga_cons (gv 0) (ga_cons gi ga_nil)) gk_nil)) (ga_cons (gv 2) ga_nil)))))
   gb_nil)
    gb_nil)
   (gb_cons (gs_if (gt_cmp .eq (gv 3) gi)
    (gb_cons (gs_ret (g_tup (ga_cons gs (ga_cons (g_fn f_max2 (ga_cons gi (ga_cons (gv 1) ga_nil))) (ga_cons (g_ix (g_lst (ga_cons gi (ga_cons (g_neg gi) (ga_cons gn (ga_cons gb (ga_cons (g_pow gi gi) (ga_cons (g_call (ga_cons (gv 0) ga_nil) gk_nil) ga_nil))))))) (g_call (ga_cons (gv 0) (ga_cons gi ga_nil)) gk_nil)) ga_nil)))))
   gb_nil)
    gb_nil)
   (gb_cons (gs_if (gt_cmp .eq (gv 3) gi)
    (gb_cons (gs_ret (g_ix (g_lst (ga_cons (g_tup (ga_cons gs (ga_cons (g_fn f_max2 (ga_cons gi (ga_cons (gv 1) ga_nil))) ga_nil))) (ga_cons (g_tup (ga_cons gs (ga_cons (g_fn f_max2 (ga_cons gi (ga_cons (gv 1) ga_nil))) (ga_cons (gv 2) (ga_cons gi ga_nil))))) ga_nil))) (g_call (ga_cons (gv 0) (ga_cons gi ga_nil)) gk_nil)))
   gb_nil)
    gb_nil)
   (gb_cons (gs_if (gt_cmp .eq (gv 3) gi)
    (gb_cons (gs_ret (g_tup (ga_cons (g_ix (g_lst (ga_cons gn (ga_cons gi (ga_cons gs (ga_cons gs (ga_cons gs (ga_cons gs (ga_cons (g_tup (ga_cons gs ga_nil)) (ga_cons (g_lst (ga_cons gs ga_nil)) (ga_cons gs ga_nil)))))))))) (g_call (ga_cons (gv 0) (ga_cons gi ga_nil)) gk_nil)) (ga_cons (gv 1) ga_nil))))
   gb_nil)
    gb_nil)
   (gb_cons (gs_if (gt_cmp .eq (gv 3) gi)
    (gb_cons (gs_ret (g_tup (ga_cons (g_ix (g_lst (ga_cons gn (ga_cons gi (ga_cons gs (ga_cons gs (ga_cons gs (ga_cons gs (ga_cons gs ga_nil)))))))) (g_call (ga_cons (gv 0) (ga_cons gi ga_nil)) gk_nil)) (ga_cons (g_fn f_max2 (ga_cons gi (ga_cons (gv 1) ga_nil))) (ga_cons (gv 2) ga_nil)))))
   gb_nil)
    gb_nil)
   (gb_cons (gs_ret (g_tup (ga_cons (g_tup (ga_cons gs (ga_cons (gv 1) ga_nil))) (ga_cons (g_tup (ga_cons gs (ga_cons (g_fn f_max2 (ga_cons gi (ga_cons (gv 1) ga_nil))) (ga_cons (gv 2) ga_nil)))) ga_nil))))
   gb_nil))))))))))⟩
def e__law_spoilt : Ent := ⟨d__law_spoilt, [("pot" : Str)], N__law_spoilt, fun K Ph W => (D__law_spoilt K Ph W).1⟩
def N__law_thing : List Str := [("pot" : Str), ("turn" : Str)]
def d__law_thing : He.DefD := dd ("_law_thing", none) "_law_thing" "_law_thing" (top 23) [] []
def D__law_thing (K : PySem.W.Frag) (Ph : Ky → Sp) (W : WX) : {t : TS // GB (cn0 fa sh K Ph N__law_thing (d__law_thing).scope W) (d__law_thing).body t} := ⟨_,
   (gb_cons (gs_asg (g_call (ga_cons (gv 0) (ga_cons gi ga_nil)) gk_nil) (gg_name 1))
   (gb_cons (gs_if (gt_cmp .eq (gv 1) gi)
    (gb_cons (gs_ret (g_tup (ga_cons (g_call (ga_cons (gv 0) ga_nil) gk_nil) (ga_cons (g_lst (ga_cons gb (ga_cons gb (ga_cons gb (ga_cons gb ga_nil))))) ga_nil))))
   gb_nil)
    gb_nil)
   (gb_cons (gs_if (gt_cmp .eq (gv 1) gi)
    (gb_cons (gs_ret (g_call (ga_cons (gv 0) ga_nil) gk_nil))
   gb_nil)
    gb_nil)
   (gb_cons (gs_if (gt_cmp .eq (gv 1) gi)
    (gb_cons (gs_ret (g_tup (ga_cons (g_call (ga_cons (gv 0) ga_nil) gk_nil) (ga_cons (g_lst (ga_cons gb (ga_cons gb (ga_cons gb (ga_cons gb ga_nil))))) ga_nil))))
   gb_nil)
    gb_nil)
   (gb_cons (gs_if (gt_cmp .eq (gv 1) gi)
    (gb_cons (gs_ret (g_tup (ga_cons (g_call (ga_cons (gv 0) ga_nil) gk_nil) (ga_cons (g_lst (ga_cons gb (ga_cons gb (ga_cons gb (ga_cons gb ga_nil))))) ga_nil))))
   gb_nil)
    gb_nil)
   (gb_cons (gs_if (gt_cmp .eq (gv 1) gi)
    (gb_cons (gs_ret (g_tup (ga_cons (g_call (ga_cons (gv 0) ga_nil) gk_nil) (ga_cons (g_lst (ga_cons gb (ga_cons gb (ga_cons gb (ga_cons gb ga_nil))))) ga_nil))))
   gb_nil)
    gb_nil)
   (gb_cons (gs_ret (g_tup (ga_cons (g_call (ga_cons (gv 0) ga_nil) gk_nil) (ga_cons (g_lst (ga_cons gb (ga_cons gb (ga_cons gb (ga_cons gb ga_nil))))) ga_nil))))
   gb_nil)))))))⟩
def e__law_thing : Ent := ⟨d__law_thing, [("pot" : Str)], N__law_thing, fun K Ph W => (D__law_thing K Ph W).1⟩
def N_law : List Str := [("script" : Str), ("k" : Str), ("pot" : Str), ("gem" : Str), ("due" : Str), ("told" : Str), ("again" : Str)]
def d_law : He.DefD := dd ("law", none) "law" "law" (top 24) [] []
def D_law (K : PySem.W.Frag) (Ph : Ky → Sp) (W : WX) : {t : TS // GB (cn0 fa sh K Ph N_law (d_law).scope W) (d_law).body t} := ⟨_,
   (gb_cons (gs_for (gi_rng1 (g_fn f_max2 (ga_cons gi (ga_cons (g_fn f_min2 (ga_cons gi (ga_cons (g_fn f_len (ga_cons (gv 0) ga_nil)) ga_nil))) ga_nil)))) (gg_name 1)
    (gb_cons (gs_asg (g_call (ga_cons (gv 0) (ga_cons (gv 1) ga_nil)) gk_nil) (gg_name 2))
   (gb_cons (gs_asg (g_call (ga_cons (gv 2) ga_nil) gk_nil) (gg_tup 2 (ggs_cons (gg_name 3) (ggs_cons (gg_name 4) ggs_nil))))
   (gb_cons (gs_asg (g_lst (ga_cons (g_call (ga_cons (gv 3) ga_nil) gk_nil) (ga_cons (g_call (ga_cons (gv 3) ga_nil) gk_nil) (ga_cons (g_call (ga_cons (gv 3) ga_nil) gk_nil) (ga_cons (g_call (ga_cons (gv 3) ga_nil) gk_nil) ga_nil))))) (gg_name 5))
   (gb_cons (gs_if (gt_cmp .ne (g_fn f_repr (ga_cons (gv 5) ga_nil)) (g_fn f_repr (ga_cons (gv 4) ga_nil)))
    (gb_cons (gs_ret gb)
   gb_nil)
    gb_nil)
   (gb_cons (gs_asg (g_lst (ga_cons (g_call0 (gk_cons (gv 3) gk_nil)) (ga_cons (g_call0 (gk_cons (gv 3) gk_nil)) (ga_cons (g_call0 (gk_cons (gv 3) gk_nil)) (ga_cons (g_call0 (gk_cons (gv 3) gk_nil)) ga_nil))))) (gg_name 6))
   (gb_cons (gs_if (gt_cmp .ne (g_fn f_repr (ga_cons (gv 6) ga_nil)) (g_fn f_repr (ga_cons (gv 4) ga_nil)))
    (gb_cons (gs_ret gb)
   gb_nil)
    gb_nil)
   gb_nil)))))))
   (gb_cons (gs_ret gb)
   gb_nil))⟩
def e_law : Ent := ⟨d_law, [("script" : Str)], N_law, fun K Ph W => (D_law K Ph W).1⟩
def es : List Ent := [e_is_whole, e_is_number, e_is_word, e_is_name, e_is_tag, e_is_spoken, e_is_cell, e__law_pot, e__law_draw, e__law_number, e__law_text, e__law_named, e__law_no_text, e__law_right_cell, e__law_odd, e__law_spoilt, e__law_thing, e_law]
theorem ok_is_whole : EntOk fa sh e_is_whole := fun K Ph W => (D_is_whole K Ph W).2
theorem ok_is_number : EntOk fa sh e_is_number := fun K Ph W => (D_is_number K Ph W).2
theorem ok_is_word : EntOk fa sh e_is_word := fun K Ph W => (D_is_word K Ph W).2
theorem ok_is_name : EntOk fa sh e_is_name := fun K Ph W => (D_is_name K Ph W).2
theorem ok_is_tag : EntOk fa sh e_is_tag := fun K Ph W => (D_is_tag K Ph W).2
theorem ok_is_spoken : EntOk fa sh e_is_spoken := fun K Ph W => (D_is_spoken K Ph W).2
theorem ok_is_cell : EntOk fa sh e_is_cell := fun K Ph W => (D_is_cell K Ph W).2
theorem ok__law_pot : EntOk fa sh e__law_pot := fun K Ph W => (D__law_pot K Ph W).2
theorem ok__law_draw : EntOk fa sh e__law_draw := fun K Ph W => (D__law_draw K Ph W).2
theorem ok__law_number : EntOk fa sh e__law_number := fun K Ph W => (D__law_number K Ph W).2
theorem ok__law_text : EntOk fa sh e__law_text := fun K Ph W => (D__law_text K Ph W).2
theorem ok__law_named : EntOk fa sh e__law_named := fun K Ph W => (D__law_named K Ph W).2
theorem ok__law_no_text : EntOk fa sh e__law_no_text := fun K Ph W => (D__law_no_text K Ph W).2
theorem ok__law_right_cell : EntOk fa sh e__law_right_cell := fun K Ph W => (D__law_right_cell K Ph W).2
theorem ok__law_odd : EntOk fa sh e__law_odd := fun K Ph W => (D__law_odd K Ph W).2
theorem ok__law_spoilt : EntOk fa sh e__law_spoilt := fun K Ph W => (D__law_spoilt K Ph W).2
theorem ok__law_thing : EntOk fa sh e__law_thing := fun K Ph W => (D__law_thing K Ph W).2
theorem ok_law : EntOk fa sh e_law := fun K Ph W => (D_law K Ph W).2
theorem es_ok : ∀ en ∈ es, EntOk fa sh en := (all_cons ok_is_whole (all_cons ok_is_number (all_cons ok_is_word (all_cons ok_is_name (all_cons ok_is_tag (all_cons ok_is_spoken (all_cons ok_is_cell (all_cons ok__law_pot (all_cons ok__law_draw (all_cons ok__law_number (all_cons ok__law_text (all_cons ok__law_named (all_cons ok__law_no_text (all_cons ok__law_right_cell (all_cons ok__law_odd (all_cons ok__law_spoilt (all_cons ok__law_thing (all_cons ok_law all_nil))))))))))))))))))
theorem sh_ok : ∀ s ∈ sh, ShpOk es s := (all_cons (shp_plain (en := e_is_whole) rfl rfl rfl fun _ _ _ _ _ _ us ws h1 h2 => match us, ws, h1, h2 with | [_], [], _, _ => rfl)
  (all_cons (shp_plain (en := e_is_word) rfl rfl rfl fun _ _ _ _ _ _ us ws h1 h2 => match us, ws, h1, h2 with | [_, _], [], _, _ => rfl)
  (all_cons (shp_plain (en := e_is_number) rfl rfl rfl fun _ _ _ _ _ _ us ws h1 h2 => match us, ws, h1, h2 with | [_], [], _, _ => rfl)
  (all_cons (shp_plain (en := e_is_spoken) rfl rfl rfl fun _ _ _ _ _ _ us ws h1 h2 => match us, ws, h1, h2 with | [_, _, _], [], _, _ => rfl)
  (all_cons (shp_plain (en := e__law_draw) rfl rfl rfl fun _ _ _ _ _ _ us ws h1 h2 => match us, ws, h1, h2 with | [_, _], [], _, _ => rfl)
  (all_cons (shp_plain (en := e__law_text) rfl rfl rfl fun _ _ _ _ _ _ us ws h1 h2 => match us, ws, h1, h2 with | [_, _, _, _], [], _, _ => rfl)
  (all_cons (shp_plain (en := e__law_number) rfl rfl rfl fun _ _ _ _ _ _ us ws h1 h2 => match us, ws, h1, h2 with | [_], [], _, _ => rfl)
  (all_cons (shp_plain (en := e__law_odd) rfl rfl rfl fun _ _ _ _ _ _ us ws h1 h2 => match us, ws, h1, h2 with | [_], [], _, _ => rfl)
  (all_cons (shp_plain (en := e__law_spoilt) rfl rfl rfl fun _ _ _ _ _ _ us ws h1 h2 => match us, ws, h1, h2 with | [_], [], _, _ => rfl)
  (all_cons (shp_plain (en := e__law_right_cell) rfl rfl rfl fun _ _ _ _ _ _ us ws h1 h2 => match us, ws, h1, h2 with | [_], [], _, _ => rfl)
  (all_cons (shp_plain (en := e__law_no_text) rfl rfl rfl fun _ _ _ _ _ _ us ws h1 h2 => match us, ws, h1, h2 with | [_], [], _, _ => rfl)
  (all_cons (shp_plain (en := e__law_named) rfl rfl rfl fun _ _ _ _ _ _ us ws h1 h2 => match us, ws, h1, h2 with | [_], [], _, _ => rfl)
  (all_cons (shp_plain (en := e_is_number) rfl rfl rfl fun _ _ _ _ _ _ us ws h1 h2 => match us, ws, h1, h2 with | [], [_], _, _ => rfl)
  (all_cons (shp_plain (en := e_is_name) rfl rfl rfl fun _ _ _ _ _ _ us ws h1 h2 => match us, ws, h1, h2 with | [], [_], _, _ => rfl)
  (all_cons (shp_plain (en := e_is_tag) rfl rfl rfl fun _ _ _ _ _ _ us ws h1 h2 => match us, ws, h1, h2 with | [], [_], _, _ => rfl)
  (all_cons (shp_plain (en := e_is_cell) rfl rfl rfl fun _ _ _ _ _ _ us ws h1 h2 => match us, ws, h1, h2 with | [], [_], _, _ => rfl)
  (all_cons (shp_plain (en := e_is_name) rfl rfl rfl fun _ _ _ _ _ _ us ws h1 h2 => match us, ws, h1, h2 with | [_], [], _, _ => rfl)
  (all_cons (shp_plain (en := e_is_tag) rfl rfl rfl fun _ _ _ _ _ _ us ws h1 h2 => match us, ws, h1, h2 with | [_], [], _, _ => rfl)
  (all_cons (shp_plain (en := e_is_cell) rfl rfl rfl fun _ _ _ _ _ _ us ws h1 h2 => match us, ws, h1, h2 with | [_], [], _, _ => rfl)
  (all_cons (shp_plain (en := e__law_thing) rfl rfl rfl fun _ _ _ _ _ _ us ws h1 h2 => match us, ws, h1, h2 with | [_], [], _, _ => rfl)
  (all_cons (shp_plain (en := e__law_pot) rfl rfl rfl fun _ _ _ _ _ _ us ws h1 h2 => match us, ws, h1, h2 with | [_, _], [], _, _ => rfl)
  all_nil)))))))))))))))))))))
theorem sc_ok : (es.all fun en => scB en.N en.ps en.d.scope) = true := by decide +kernel

end Hd
namespace Hd
open PySem PySem.Spec PyProof.Rows L2 Rw
section
variable {K : PySem.W.Frag} {M : Addr → Prop} {H : Hp} {Q : VK} {E : XK} {n : Nat}
def isWhole : V → Bool
  | .int _ => true
  | _ => false
def isNum : V → Bool
  | .int i => decide (0 ≤ i) && decide (i ≤ 999999999999)
  | _ => false
/-- what a thing is, by isinstance -/
inductive Kn (K : PySem.W.Frag) (M : Addr → Prop) (H : Hp) : V → Prop
  | non : Kn K M H .non
  | bl {b} : Kn K M H (.bl b)
  | int {i} : Kn K M H (.int i)
  | str {z} (s : z.length ≤ sizeLine) : Kn K M H (.str z)
  | lst {a xs} (m : ¬ M a) (e : H a = some (.lst xs)) : Kn K M H (.ref a)
  | tup {a xs} (m : ¬ M a) (e : H a = some (.tup xs)) (k : ∀ x ∈ xs, Kn K M H x) : Kn K M H (.ref a)
  | dK {a xs} (m : ¬ M a) (e : H a = some (.dK xs)) : Kn K M H (.ref a)
theorem sp_whole {x : V} (k : Kn K M H x) (q : Q (.bl (isWhole x)) H) : lev K es (n + 1) ("is_whole", none) [x] H Q E := by
  refine lev_in (en := e_is_whole) rfl rfl ?_
  dsimp only [e_is_whole, D_is_whole, cn0]
  cases k <;> (walk_at "go"; exact q)
theorem sp_number {x : V} (k : Kn K M H x) (q : Q (.bl (isNum x)) H) : lev K es (n + 2) ("is_number", none) [x] H Q E := by
  refine lev_in (en := e_is_number) rfl rfl ?_
  dsimp only [e_is_number, D_is_number, cn0]
  walk_at "go"
  refine sp_whole k ?_
  cases k
  case int i =>
    dsimp only [isWhole]
    walk_at "go"
    refine i_b (fun h => ?_) fun h => ?_ <;> walk_at "go"
    · simpa only [isNum, h, Bool.true_and] using q
    · simpa only [isNum, h, Bool.false_and] using q
  all_goals (dsimp only [isWhole]; walk_at "go"; exact q)
def isWord (s : Str) : V → Bool
  | .str z => (decide (1 ≤ (z.length : Int)) && decide ((z.length : Int) ≤ 8)) && z.cps.toList.all fun c => decide (c ∈ s.cps.toList)
  | _ => false
theorem sp_word {x : V} {s : Str} (k : Kn K M H x) (q : ∀ H2, Ext noM H H2 → Q (.bl (isWord s x)) H2) : lev K es (n + 1) ("is_word", none) [x, .str s] H Q E := by
  refine lev_in (en := e_is_word) rfl rfl ?_
  dsimp only [e_is_word, D_is_word, cn0]
  cases k
  case str z hz =>
    walk_at "go"
    refine v_lenS hz ?_
    walk_at "go"
    refine i_dec (fun h => ?_) fun h => ?_ <;> walk_at "go"
    · refine i_ndec (fun h2 => ?_) fun h2 => ?_ <;> walk_at "go"
      · refine cast ?_ (q _ Ext.rfl)
        simp [isWord, h2]
      · refine i_text ?_
        walk_at "go"
        refine j_text ?_
        refine lc_pure (fun x => .bl (match x with | .str c => decide (c.cps[0]! ∈ s.cps.toList) | _ => false)) (fun P _ => tells_str) ?_ (fun H' x R hx ex hR => ?_) fun d H' hd ex hr => ?_
        · rw [strL_len]
          have h4 : 8 < sizeLine := by decide
          omega
        · obtain ⟨c, hc, rfl⟩ := List.mem_map.mp hx
          walk_at "go"
          exact hR
        · walk_at "go"
          have e : (strL z).map (fun x => V.bl (match x with | .str c => decide (c.cps[0]! ∈ s.cps.toList) | _ => false)) = (z.cps.toList.map fun c => decide (c ∈ s.cps.toList)).map V.bl := by
            unfold strL
            rw [List.map_map, List.map_map]
            rfl
          rw [e] at hr
          refine v_all hr (cast ?_ (q _ ex))
          simp only [isWord, h, h2, decide_true, Bool.true_and, List.all_map]
          rfl
    · refine cast ?_ (q _ Ext.rfl)
      simp [isWord, h]
  all_goals (walk_at "go"; exact q _ Ext.rfl)
def lettersS : Str := "abcdefghijklmnopqrstuvwxyz"
def digitsS : Str := "0123456789"
theorem sp_name {x : V} (k : Kn K M H x) (q : ∀ H2, Ext noM H H2 → Q (.bl (isWord lettersS x)) H2) : lev K es (n + 2) ("is_name", none) [x] H Q E := by
  refine lev_in (en := e_is_name) rfl rfl ?_
  dsimp only [e_is_name, D_is_name, cn0]
  walk_at "go"
  exact sp_word k q
theorem sp_tag {x : V} (k : Kn K M H x) (q : ∀ H2, Ext noM H H2 → Q (.bl (isWord (lettersS ++ digitsS) x)) H2) : lev K es (n + 2) ("is_tag", none) [x] H Q E := by
  refine lev_in (en := e_is_tag) rfl rfl ?_
  dsimp only [e_is_tag, D_is_tag, cn0]
  walk_at "go"
  refine v_addS (by decide) ?_
  walk_at "go"
  exact sp_word k q
/-- a tuple of many parts, the first of them this text -/
def isSpoken (H : Hp) (w : Str) (m : Int) : V → Bool
  | .ref a => match H a with
    | some (.tup xs) => decide ((xs.length : Int) = m) && (match xs with | .str z :: _ => decide (z = w) | _ => false)
    | _ => false
  | _ => false
theorem sp_spoken {x : V} {w : Str} {m : Int} (hm : 0 < m) (k : Kn K M H x) (q : Q (.bl (isSpoken H w m x)) H) : lev K es (n + 1) ("is_spoken", none) [x, .str w, .int m] H Q E := by
  refine lev_in (en := e_is_spoken) rfl rfl ?_
  dsimp only [e_is_spoken, D_is_spoken, cn0]
  cases k
  case tup a xs m e ke =>
    simp only [isSpoken, e] at q
    walk_at "go"
    refine v_lenT e ?_
    walk_at "go"
    refine i_dec (fun h => ?_) fun h => ?_
    · cases xs with
      | nil => simp at h; omega
      | cons y ys =>
        walk_at "go"
        have kk := ke y (List.mem_cons_self)
        refine v_ixT e at0 ?_
        cases kk
        case str z hz =>
          walk_at "go"
          refine v_ixT e at0 ?_
          walk_at "go"
          simpa only [h, decide_true, Bool.true_and] using q
        all_goals (walk_at "go"; simpa only [h, decide_true, Bool.true_and] using q)
    · walk_at "go"
      refine cast ?_ q
      simp [h]
  case lst a xs m e => 
    simp only [isSpoken, e] at q
    walk_at "go"
    exact q
  case dK a xs m e => 
    simp only [isSpoken, e] at q
    walk_at "go"
    exact q
  all_goals (walk_at "go"; exact q)
def few : V → Bool
  | .int i => decide (0 ≤ i) && decide (i ≤ 30)
  | _ => false
def nz : V → Bool
  | .int i => decide (i ≠ 0)
  | _ => true
def isCell (H : Hp) : V → Bool
  | .non => true
  | .int i => isNum (.int i)
  | .ref a => match H a with
    | some (.tup [.str z, x]) => decide (z = "to") && isNum x
    | some (.tup [.str z, x, y]) => decide (z = "thing") && (isNum x && nz x && few y)
    | _ => false
  | _ => false
theorem Kn.at {a : Addr} {xs : List V} {k : Nat} {x : V} (e : H a = some (.tup xs)) (h : Kn K M H (.ref a)) (hx : xs[k]? = some x) : Kn K M H x := by
  cases h with
  | lst m e2 => rw [e] at e2; cases e2
  | tup m e2 ke => rw [e] at e2; cases e2; exact ke x (List.mem_of_getElem? hx)
  | dK m e2 => rw [e] at e2; cases e2
theorem spoken_of {a : Addr} {xs : List V} {w : Str} {m : Nat} (e : H a = some (.tup xs)) (h : isSpoken H w m (.ref a) = true) : ∃ ys, xs = .str w :: ys ∧ ys.length + 1 = m := by
  simp only [isSpoken, e, Bool.and_eq_true, decide_eq_true_eq] at h
  obtain ⟨h1, h2⟩ := h
  split at h2
  · rename_i z ys
    obtain rfl := of_decide_eq_true h2
    exact ⟨ys, rfl, by simp only [List.length_cons] at h1; omega⟩
  · cases h2
theorem cell_no {a : Addr} {xs : List V} (e : H a = some (.tup xs)) (h : isSpoken H "to" 2 (.ref a) = false) (h2 : isSpoken H "thing" 3 (.ref a) = false) : isCell H (.ref a) = false := by
  simp only [isSpoken, e] at h h2
  simp only [isCell, e]
  split
  · rename_i z x z2
    cases z2
    simp only [List.length_cons, List.length_nil] at h
    have : decide (z = "to") = false := by simpa using h
    rw [this]
    rfl
  · rename_i z x y z2
    cases z2
    simp only [List.length_cons, List.length_nil] at h2
    have : decide (z = "thing") = false := by simpa using h2
    rw [this]
    rfl
  · rfl
theorem cell_int {i : Int} : isCell H (.int i) = isNum (.int i) := rfl
theorem sp_cell {x : V} (k : Kn K M H x) (q : Q (.bl (isCell H x)) H) : lev K es (n + 3) ("is_cell", none) [x] H Q E := by
  refine lev_in (en := e_is_cell) rfl rfl ?_
  dsimp only [e_is_cell, D_is_cell, cn0]
  cases k
  case tup a xs m e ke =>
    have kx : Kn K M H (.ref a) := .tup m e ke
    walk_at "go"
    refine sp_number kx ?_
    dsimp only [isNum]
    walk_at "go"
    refine sp_spoken (by decide) kx ?_
    walk_at "go"
    refine i_b (fun h => ?_) fun h => ?_
    · obtain ⟨ys, rfl, l⟩ := spoken_of (m := 2) e h
      rcases ys with _ | ⟨y, _ | ⟨y2, ys⟩⟩
      · simp at l
      · walk_at "go"
        refine sp_number (kx.at (k := 1) e rfl) ?_
        simp only [isCell, e] at q
        exact q
      · simp at l
    · walk_at "go"
      refine sp_spoken (by decide) kx ?_
      walk_at "go"
      cases h2 : isSpoken H "thing" 3 (.ref a) with
      | true =>
        obtain ⟨ys, rfl, l⟩ := spoken_of (m := 3) e h2
        rcases ys with _ | ⟨y, _ | ⟨y2, _ | ⟨y3, ys⟩⟩⟩
        · simp at l
        · simp at l
        · simp only [isCell, e] at q
          walk_at "go"
          refine sp_number (kx.at (k := 1) e rfl) ?_
          walk_at "go"
          cases h3 : isNum y with
          | true =>
            cases y with
            | int i =>
              walk_at "go"
              simp only [h3, decide_true, Bool.true_and] at q
              refine i_dec (fun h4 => ?_) fun h4 => ?_ <;> walk_at "go"
              · simpa [few, nz, h4] using q
              · refine sp_whole (kx.at (k := 2) e rfl) ?_
                cases y2 with
                | int j =>
                  dsimp only [isWhole]
                  walk_at "go"
                  refine i_dec (fun h5 => ?_) fun h5 => ?_ <;> walk_at "go"
                  · simpa [few, nz, h4, h5] using q
                  · simpa [few, nz, h4, h5] using q
                | _ =>
                  dsimp only [isWhole]
                  walk_at "go"
                  simpa [few, nz, h4] using q
            | _ => cases h3
          | false =>
            rw [h3] at q
            walk_at "go"
            exact q
        · simp at l
      | false =>
        rw [cell_no e h h2] at q
        walk_at "go"
        exact q
  case lst a xs m e =>
    have kx : Kn K M H (.ref a) := .lst m e
    simp only [isCell, e] at q
    walk_at "go"
    refine sp_number kx ?_
    dsimp only [isNum]
    walk_at "go"
    refine sp_spoken (by decide) kx ?_
    simp only [isSpoken, e]
    walk_at "go"
    refine sp_spoken (by decide) kx ?_
    simp only [isSpoken, e]
    walk_at "go"
    exact q
  case dK a xs m e =>
    have kx : Kn K M H (.ref a) := .dK m e
    simp only [isCell, e] at q
    walk_at "go"
    refine sp_number kx ?_
    dsimp only [isNum]
    walk_at "go"
    refine sp_spoken (by decide) kx ?_
    simp only [isSpoken, e]
    walk_at "go"
    refine sp_spoken (by decide) kx ?_
    simp only [isSpoken, e]
    walk_at "go"
    exact q
  case non =>
    walk_at "go"
    exact q
  case int i =>
    walk_at "go"
    refine sp_number (M := M) .int ?_
    simp only [isCell] at q
    cases h : isNum (.int i) with
    | true =>
      rw [h] at q
      walk_at "go"
      exact q
    | false =>
      rw [h] at q
      walk_at "go"
      refine sp_spoken (M := M) (by decide) .int ?_
      dsimp only [isSpoken]
      walk_at "go"
      refine sp_spoken (M := M) (by decide) .int ?_
      dsimp only [isSpoken]
      walk_at "go"
      exact q
  case str z hz =>
    have kx : Kn K M H (.str z) := .str hz
    walk_at "go"
    refine sp_number kx ?_
    dsimp only [isNum]
    walk_at "go"
    refine sp_spoken (by decide) kx ?_
    dsimp only [isSpoken]
    walk_at "go"
    refine sp_spoken (by decide) kx ?_
    dsimp only [isSpoken]
    walk_at "go"
    exact q
  case bl b =>
    have kx : Kn K M H (.bl b) := .bl
    walk_at "go"
    refine sp_number kx ?_
    dsimp only [isNum]
    walk_at "go"
    refine sp_spoken (by decide) kx ?_
    dsimp only [isSpoken]
    walk_at "go"
    refine sp_spoken (by decide) kx ?_
    dsimp only [isSpoken]
    walk_at "go"
    exact q
end
end Hd

namespace Hd
open PySem PySem.Spec PyProof.Rows L2 Rw
section
variable {K : PySem.W.Frag} {M : Addr → Prop} {H : Hp} {Q : VK} {E : XK} {n : Nat}
def at1 (p : Addr) : Addr → Prop := fun q => q = p
def Pot (H : Hp) (p : Addr) : Prop := ∃ a b : Int, H p = some (.lst [.int a, .int b]) ∧ 0 ≤ b ∧ b < 2 ^ 33
theorem Pot.ne {p d : Addr} (h : Pot H p) (hd : H d = none) : ¬ at1 p d := fun e => by
  obtain ⟨a, b, e2, _⟩ := h
  have e : d = p := e
  rw [e, e2] at hd
  cases hd
theorem Pot.new {p : Addr} {H2 : Hp} (h : Pot H p) (x : Ext noM H H2) : Pot H2 p := by
  obtain ⟨a, b, e, r⟩ := h
  exact ⟨a, b, x p _ noM_not e, r⟩
theorem sp_draw {p : Addr} {m : Int} (h : Pot H p) (hm : 0 < m) (hl : m.natAbs.log2 < 9000) (q : ∀ d H2, 0 ≤ d → d < m → Ext (at1 p) H H2 → Pot H2 p → Q (.int d) H2) : lev K es (n + 1) ("_law_draw", none) [.ref p, .int m] H Q E := by
  refine lev_in (en := e__law_draw) rfl rfl ?_
  dsimp only [e__law_draw, D__law_draw, cn0]
  obtain ⟨a, b, e, hb, hb2⟩ := h
  have mp : at1 p p := rfl
  walk_at "go"
  refine i_dec (fun h => ?_) fun h => ?_ <;> walk_at "go"
  · refine v_divmod ⟨hm, hl⟩ fun t H2 ht x2 et => ?_
    have e2 := x2 p _ noM_not e
    walk_at "go"
    refine x_putL mp e2 (j := 0) rfl fun H3 x3 e3 => ?_
    walk_at "go"
    exact q _ _ (Int.emod_nonneg _ (by omega)) (Int.emod_lt_of_pos _ hm) (x2.up.trans x3) ⟨_, _, e3, hb, hb2⟩
  · refine v_mul (.inl (by constructor <;> omega)) ?_
    walk_at "go"
    refine v_mod (by decide) ?_
    walk_at "go"
    refine x_putL mp e (j := 1) rfl fun H3 x3 e3 => ?_
    have g1 := Int.emod_nonneg (b * 39373 + 30011) (b := 2147483647) (by decide)
    have g2 := Int.emod_lt_of_pos (b * 39373 + 30011) (b := 2147483647) (by decide)
    walk_at "go"
    refine v_mul (.inl (by constructor <;> omega)) ?_
    walk_at "go"
    refine v_mod (by decide) ?_
    walk_at "go"
    refine v_div ⟨by decide, by decide⟩ ?_
    walk_at "go"
    refine v_mod hm ?_
    walk_at "go"
    exact q _ _ (Int.emod_nonneg _ (by omega)) (Int.emod_lt_of_pos _ hm) x3 ⟨_, _, e3, g1, by omega⟩
theorem sp_lnum {p : Addr} (h : Pot H p) (q : ∀ i H2, isNum (.int i) = true → Ext (at1 p) H H2 → Pot H2 p → Q (.int i) H2) : lev K es (n + 2) ("_law_number", none) [.ref p] H Q E := by
  have q' : ∀ i H2, 0 ≤ i → i ≤ 999999999999 → Ext (at1 p) H H2 → Pot H2 p → Q (.int i) H2 := fun i H2 a b => q i H2 (by simp [isNum, a, b])
  refine lev_in (en := e__law_number) rfl rfl ?_
  dsimp only [e__law_number, D__law_number, cn0]
  walk_at "go"
  refine sp_draw h (by decide) (by decide) fun d H1 d0 d1 x1 h1 => ?_
  walk_at "go"
  refine i_dec (fun hd => ?_) fun hd => ?_ <;> walk_at "go"
  · intro l H2 hl x2 e2
    obtain rfl | rfl | rfl : d = 0 ∨ d = 1 ∨ d = 2 := by omega
    all_goals
      walk_at "go"
      exact q' _ _ (by decide) (by decide) (x1.trans x2.up) (h1.new x2)
  · refine sp_draw h1 (by decide) (by decide) fun a H2 a0 a1 x2 h2 => ?_
    walk_at "go"
    refine v_pow ⟨by decide, by decide, by decide⟩ ?_
    walk_at "go"
    refine sp_draw h2 (by decide) (by decide) fun b H3 b0 b1 x3 h3 => ?_
    walk_at "go"
    refine v_pow ⟨by decide, by decide, by decide⟩ ?_
    walk_at "go"
    refine sp_draw h3 (by decide) (by decide) fun c H4 c0 c1 x4 h4 => ?_
    walk_at "go"
    intro l H5 hl x5 e5
    have e12 : (10 : Int) ^ (12 : Int).toNat = 1000000000000 := by decide
    rw [e12] at b1 e5
    have x := ((x1.trans x2).trans (x3.trans x4)).trans x5.up
    obtain rfl | rfl | rfl : d = 3 ∨ d = 4 ∨ d = 5 := by omega
    · walk_at "go"
      exact q' _ _ a0 (by omega) x (h4.new x5)
    · walk_at "go"
      exact q' _ _ b0 (by omega) x (h4.new x5)
    · walk_at "go"
      exact q' _ _ (by omega) (by omega) x (h4.new x5)
theorem sp_text {p : Addr} {z : Str} {lo hi : Int} (h : Pot H p) (hz : 0 < z.length) (hz2 : z.length ≤ 1000) (h0 : 0 ≤ lo) (h1 : lo ≤ hi) (h2 : hi ≤ 100) (q : ∀ cs H2, (∀ c ∈ cs, c ∈ z.cps.toList) → lo ≤ cs.length → cs.length ≤ hi → Ext (at1 p) H H2 → Pot H2 p → Q (.str (ofL cs)) H2) :
    lev K es (n + 2) ("_law_text", none) [.ref p, .str z, .int lo, .int hi] H Q E := by
  refine lev_in (en := e__law_text) rfl rfl ?_
  dsimp only [e__law_text, D__law_text, cn0]
  walk_at "go"
  refine sp_draw h (by omega) (by
    have : (hi - lo + 1).natAbs.log2 ≤ (hi - lo + 1).natAbs := Nat.log2_le_self _
    omega) fun d H1 d0 d1 x1 p1 => ?_
  walk_at "go"
  refine j_rng1 (by omega) (by omega) ?_
  have sz : z.length ≤ sizeLine := Nat.le_trans hz2 (by decide)
  refine lc_map (fun D k H' => H1 D = none ∧ Ext (at1 p) H1 H' ∧ Pot H' p ∧ ∃ cs : List Nat, cs.length = k ∧ (∀ c ∈ cs, c ∈ z.cps.toList) ∧ H' D = some (.lst (cs.map fun c => .str (one c)))) (fun D => tells_rng) (fun D H2 hD x2 e2 => ⟨hD, x2.up, p1.new x2, [], rfl, fun _ z => (List.not_mem_nil z).elim, e2⟩) (fun D k H' x ⟨hD, x2, p2, cs, hk, hc, e2⟩ hx => ?_) fun D H' ⟨hD, x2, p2, cs, hk, hc, e2⟩ => ?_
  · obtain ⟨hx1, rfl⟩ := rngL_at hx
    walk_at "go"
    refine v_lenS sz ?_
    walk_at "go"
    refine sp_draw p2 (by omega) (by
      have : (z.length : Int).natAbs.log2 ≤ (z.length : Int).natAbs := Nat.log2_le_self _
      omega) fun g H3 g0 g1 x3 p3 => ?_
    have hg : g.toNat < z.cps.toList.length := by
      have : z.cps.toList.length = z.length := by simp [Str.length]
      omega
    have eg : atI z.cps.toList g = some z.cps.toList[g.toNat] := by
      have e : g = (g.toNat : Nat) := by omega
      conv => lhs; rw [e]
      unfold atI ixN
      rw [if_pos (Int.natCast_nonneg _), if_pos (by omega)]
      exact List.getElem?_eq_getElem hg
    refine v_ixS sz eg ?_
    have nD : ¬ at1 p D := p1.ne hD
    have e3 := x3 D _ nD e2
    refine ⟨_, e3, by rw [List.length_map]; exact Nat.lt_of_lt_of_le (show cs.length < 101 by omega) (by decide), hD, fun q o m e => ?_, ?_, cs ++ [z.cps.toList[g.toNat]], by simp [hk], fun c hcc => ?_, ?_⟩
    · rw [upd_ne (ne_new e hD).symm]
      exact x3 q o m (x2 q o m e)
    · obtain ⟨a, b, e4, r⟩ := p3
      exact ⟨a, b, by rw [upd_ne (fun z => nD z.symm)]; exact e4, r⟩
    · rcases List.mem_append.mp hcc with c1 | c1
      · exact hc c c1
      · rw [List.mem_singleton.mp c1]
        exact List.getElem_mem hg
    · rw [upd_same, List.map_append]
      rfl
  · rw [rngL_len] at hk
    walk_at "go"
    refine v_join e2 (by omega) ?_
    walk_at "go"
    exact q cs _ hc (by omega) (by omega) (x1.trans x2) p2
end
end Hd

namespace Hd
open PySem PySem.Spec PyProof.Rows L2 Rw
section
variable {K : PySem.W.Frag} {M : Addr → Prop} {H H2 : Hp} {Q : VK} {E : XK} {n : Nat}
theorem Kn.mono {x : V} (h : Kn K M H x) (e : Ext M H H2) : Kn K M H2 x := by
  induction h with
  | non => exact .non
  | bl => exact .bl
  | int => exact .int
  | str s => exact .str s
  | lst m e1 => exact .lst m (e _ _ m e1)
  | tup m e1 _ ih => exact .tup m (e _ _ m e1) ih
  | dK m e1 => exact .dK m (e _ _ m e1)
theorem Kn.cell {x : V} (h : Kn K M H x) (e : Ext M H H2) : isCell H2 x = isCell H x := by
  cases h with
  | lst m e1 => simp only [isCell, e1, e _ _ m e1]
  | tup m e1 _ => simp only [isCell, e1, e _ _ m e1]
  | dK m e1 => simp only [isCell, e1, e _ _ m e1]
  | _ => rfl
structure Good (K : PySem.W.Frag) (M : Addr → Prop) (H : Hp) (g : V) (b1 b2 b3 b4 : Bool) : Prop where
  k : Kn K M H g
  n : isNum g = b1
  w : isWord lettersS g = b2
  t : isWord (lettersS ++ digitsS) g = b3
  c : isCell H g = b4
theorem Good.mono {g : V} {b1 b2 b3 b4 : Bool} (h : Good K M H g b1 b2 b3 b4) (e : Ext M H H2) : Good K M H2 g b1 b2 b3 b4 := ⟨h.k.mono e, h.n, h.w, h.t, (h.k.cell e).trans h.c⟩
theorem word_at {S : Str} {cs : List Nat} : isWord S (.str (ofL cs)) = ((decide (1 ≤ (cs.length : Int)) && decide ((cs.length : Int) ≤ 8)) && cs.all fun c => decide (c ∈ S.cps.toList)) := by
  simp only [isWord, ofL_len, ofL_list]
theorem word_t {S : Str} {cs : List Nat} (h1 : 1 ≤ (cs.length : Int)) (h2 : (cs.length : Int) ≤ 8) (h : ∀ c ∈ cs, c ∈ S.cps.toList) : isWord S (.str (ofL cs)) = true := by
  rw [word_at, decide_eq_true h1, decide_eq_true h2]
  simpa using h
theorem word_f {S : Str} {cs : List Nat} {c : Nat} (h : c ∈ cs) (hc : c ∉ S.cps.toList) : isWord S (.str (ofL cs)) = false := by
  rw [word_at]
  have : (cs.all fun c => decide (c ∈ S.cps.toList)) = false := by
    rw [List.all_eq_false]
    exact ⟨c, h, by simpa using hc⟩
  rw [this, Bool.and_false]
theorem word_l {S : Str} {cs : List Nat} (h : 8 < (cs.length : Int)) : isWord S (.str (ofL cs)) = false := by
  rw [word_at, decide_eq_false (show ¬ (cs.length : Int) ≤ 8 by omega), Bool.and_false]
  rfl
theorem cut_lo {cs : List Nat} {k : Nat} (h : k ≤ cs.length) : cutS (ofL cs) none (some (k : Nat)) = ofL (cs.take k) := by
  unfold cutS
  rw [HT.sIx_nat, HT.sIx_none, ofL_list, ofL_len, Nat.min_eq_left h]
  rfl
theorem cut_hi {cs : List Nat} {k : Nat} (h : k ≤ cs.length) : cutS (ofL cs) (some (k : Nat)) none = ofL (cs.drop k) := by
  unfold cutS
  rw [HT.sIx_nat, HT.sIx_none, ofL_list, ofL_len, Nat.min_eq_left h]
  unfold ofL
  congr 2
  rw [List.take_of_length_le]
  rw [List.length_drop]
  exact Nat.le_refl _
theorem ofL_add {a b : List Nat} : ofL a ++ ofL b = ofL (a ++ b) := Str.ext' (by simp [Str.cps_append, ofL])
theorem at_mem {xs : List V} {d : Int} (h0 : 0 ≤ d) (h1 : d < xs.length) : ∃ v, atI xs d = some v ∧ v ∈ xs := by
  have e : d = (d.toNat : Nat) := by omega
  have hd : d.toNat < xs.length := by omega
  have z := atN (List.getElem?_eq_getElem hd)
  rw [← e] at z
  exact ⟨_, z, List.getElem_mem hd⟩
theorem v_slS {z : Str} {lo hi : Option Int} (s : z.length ≤ sizeLine) (h : Q (.str (cutS z lo hi)) H) : rSlU K (.str z) lo hi H Q := .inr (.inl ⟨z, rfl, s, h⟩)
theorem dig_no : ∀ c ∈ digitsS.cps.toList, c ∉ lettersS.cps.toList := by decide +kernel
theorem let_tag : ∀ c ∈ lettersS.cps.toList, c ∈ (lettersS ++ digitsS).cps.toList := by decide +kernel
theorem dig_tag : ∀ c ∈ digitsS.cps.toList, c ∈ (lettersS ++ digitsS).cps.toList := by decide +kernel
theorem let_len : lettersS.length = 26 := by decide +kernel
theorem dig_len : digitsS.length = 10 := by decide +kernel
theorem tag_len : (lettersS ++ digitsS).length = 36 := by decide +kernel
/-- what a maker of things with their dues tells -/
def Pair (K : PySem.W.Frag) (M : Addr → Prop) (H : Hp) (t : Addr) : Prop := ∃ g d b1 b2 b3 b4, H t = some (.tup [g, .ref d]) ∧ H d = some (.lst [.bl b1, .bl b2, .bl b3, .bl b4]) ∧ ¬ M d ∧ Good K M H g b1 b2 b3 b4
theorem small {k : Nat} (h : k ≤ 1000) : k ≤ sizeLine := Nat.le_trans h (by decide)
theorem sp_named {p : Addr} (h : Pot H p) (q : ∀ t H2, Pair K (at1 p) H2 t → Ext (at1 p) H H2 → Pot H2 p → Q (.ref t) H2) : lev K es (n + 3) ("_law_named", none) [.ref p] H Q E := by
  refine lev_in (en := e__law_named) rfl rfl ?_
  dsimp only [e__law_named, D__law_named, cn0]
  walk_at "go"
  refine sp_draw h (by decide) (by decide) fun d H1 d0 d1 x1 h1 => ?_
  walk_at "go"
  refine i_dec (fun hd => ?_) fun hd => ?_ <;> walk_at "go"
  · refine sp_text (z := lettersS) h1 (by decide) (by decide) (by decide) (by decide) (by decide) fun cs H2 hc l1 l2 x2 h2 => ?_
    walk_at "go"
    intro l H3 hl x3 e3
    walk_at "go"
    intro t H4 ht x4 e4
    walk_at "go"
    refine q _ _ ⟨_, _, _, _, _, _, e4, x4 _ _ noM_not e3, h2.ne hl, .str (small ?_), rfl, word_t l1 l2 hc, word_t l1 l2 fun c z => let_tag c (hc c z), rfl⟩ ((x1.trans x2).trans (x3.up.trans x4.up)) ((h2.new x3).new x4)
    rw [ofL_len]
    omega
  · refine i_dec (fun hd2 => ?_) fun hd2 => ?_ <;> walk_at "go"
    · refine sp_text (z := digitsS) h1 (by decide) (by decide) (by decide) (by decide) (by decide) fun ds H2 hds l1 l2 x2 h2 => ?_
      walk_at "go"
      refine v_addS (by decide) ?_
      walk_at "go"
      refine sp_text (z := lettersS ++ digitsS) h2 (by decide) (by decide) (by decide) (by decide) (by decide) fun cs H3 hc l3 l4 x3 h3 => ?_
      walk_at "go"
      refine v_lenS (small (by rw [ofL_len]; omega)) ?_
      walk_at "go"
      rw [ofL_len]
      refine sp_draw h3 (by omega) (by
        have : ((cs.length : Int) + 1).natAbs.log2 ≤ ((cs.length : Int) + 1).natAbs := Nat.log2_le_self _
        omega) fun k H4 k0 k1 x4 h4 => ?_
      obtain ⟨k, rfl⟩ := Int.eq_ofNat_of_zero_le k0
      walk_at "go"
      refine v_slS (small (by rw [ofL_len]; omega)) ?_
      walk_at "go"
      rw [cut_lo (by omega)]
      refine v_addS (small (by rw [ofL_len, ofL_len, List.length_take]; omega)) ?_
      rw [ofL_add]
      walk_at "go"
      refine v_slS (small (by rw [ofL_len]; omega)) ?_
      rw [cut_hi (by omega)]
      refine v_addS (small (by rw [ofL_len, ofL_len, List.length_append, List.length_take, List.length_drop]; omega)) ?_
      rw [ofL_add]
      walk_at "go"
      intro l H5 hl x5 e5
      walk_at "go"
      intro t H6 ht x6 e6
      walk_at "go"
      have len : (cs.take k ++ ds ++ cs.drop k).length = cs.length + ds.length := by
        rw [List.length_append, List.length_append, List.length_take, List.length_drop]
        omega
      refine q _ _ ⟨_, _, _, _, _, _, e6, x6 _ _ noM_not e5, h4.ne hl, .str (small ?_), rfl, ?_, word_t (by rw [len]; omega) (by rw [len]; omega) fun c hcc => ?_, rfl⟩ (((x1.trans x2).trans (x3.trans x4)).trans (x5.up.trans x6.up)) ((h4.new x5).new x6)
      · rw [ofL_len, len]
        omega
      · cases ds with
        | nil => simp at l1
        | cons c ds => exact word_f (c := c) (by simp) (dig_no c (hds c (by simp)))
      · rcases List.mem_append.mp hcc with z | z
        · rcases List.mem_append.mp z with z | z
          · exact hc c (List.mem_of_mem_take z)
          · exact dig_tag c (hds c z)
        · exact hc c (List.mem_of_mem_drop z)
    · intro l H2 hl x2 e2
      walk_at "go"
      refine sp_draw (h1.new x2) (by decide) (by decide) fun k H3 k0 k1 x3 h3 => ?_
      obtain ⟨v, ev, hv⟩ := at_mem (xs := [.str "to", .str "thing", .str "none", .str "a", .str "z", .str "abcdefgh", .str "name"]) k0 k1
      have e3 := x3 _ _ (h1.ne hl) e2
      refine v_ixL e3 ev ?_
      walk_at "go"
      intro l2 H4 hl2 x4 e4
      walk_at "go"
      intro t H5 ht x5 e5
      walk_at "go"
      refine q _ _ ⟨_, _, _, _, _, _, e5, x5 _ _ noM_not e4, h3.ne hl2, ?_⟩ ((x1.trans x2.up).trans (x3.trans (x4.up.trans x5.up))) ((h3.new x4).new x5)
      simp only [List.mem_cons, List.not_mem_nil, or_false] at hv
      rcases hv with rfl | rfl | rfl | rfl | rfl | rfl | rfl <;> exact ⟨.str (by decide +kernel), rfl, by decide +kernel, by decide +kernel, rfl⟩
def badS : Str := " ABZ_-\n.=>'/:\x40[{"
theorem bad_no : ∀ c ∈ badS.cps.toList, c ∉ (lettersS ++ digitsS).cps.toList := by decide +kernel
/-- a text that's no word at all -/
def NoWord (v : V) : Prop := ∃ z, v = .str z ∧ z.length ≤ sizeLine ∧ isWord lettersS (.str z) = false ∧ isWord (lettersS ++ digitsS) (.str z) = false
theorem sp_no_text {p : Addr} (h : Pot H p) (q : ∀ v H2, NoWord v → Ext (at1 p) H H2 → Pot H2 p → Q v H2) : lev K es (n + 3) ("_law_no_text", none) [.ref p] H Q E := by
  refine lev_in (en := e__law_no_text) rfl rfl ?_
  dsimp only [e__law_no_text, D__law_no_text, cn0]
  walk_at "go"
  refine sp_draw h (by decide) (by decide) fun d H1 d0 d1 x1 h1 => ?_
  walk_at "go"
  refine i_dec (fun hd => ?_) fun hd => ?_ <;> walk_at "go"
  · intro l H2 hl x2 e2
    walk_at "go"
    refine sp_draw (h1.new x2) (by decide) (by decide) fun k H3 k0 k1 x3 h3 => ?_
    obtain ⟨v, ev, hv⟩ := at_mem (xs := [.str "", .str " ", .str "A", .str "Z", .str "_", .str "-", .str "\n", .str "a b", .str "a ", .str " a", .str "aB", .str "a-", .str "@", .str "{", .str "/"]) k0 k1
    have e3 := x3 _ _ (h1.ne hl) e2
    refine v_ixL e3 ev ?_
    refine q _ _ ?_ (x1.trans (x2.up.trans x3)) h3
    simp only [List.mem_cons, List.not_mem_nil, or_false] at hv
    rcases hv with rfl | rfl | rfl | rfl | rfl | rfl | rfl | rfl | rfl | rfl | rfl | rfl | rfl | rfl | rfl <;> exact ⟨_, rfl, by decide +kernel, by decide +kernel, by decide +kernel⟩
  · refine i_dec (fun hd2 => ?_) fun hd2 => ?_ <;> walk_at "go"
    · refine sp_text (z := lettersS ++ digitsS) h1 (by decide) (by decide) (by decide) (by decide) (by decide) fun cs H2 hc l1 l2 x2 h2 => ?_
      exact q _ _ ⟨_, rfl, small (by rw [ofL_len]; omega), word_l (by omega), word_l (by omega)⟩ (x1.trans x2) h2
    · refine sp_text (z := lettersS ++ digitsS) h1 (by decide) (by decide) (by decide) (by decide) (by decide) fun cs H3 hc l3 l4 x3 h3 => ?_
      walk_at "go"
      refine v_lenS (small (by rw [ofL_len]; omega)) ?_
      walk_at "go"
      rw [ofL_len]
      refine sp_draw h3 (by omega) (by
        have : ((cs.length : Int) + 1).natAbs.log2 ≤ ((cs.length : Int) + 1).natAbs := Nat.log2_le_self _
        omega) fun k H4 k0 k1 x4 h4 => ?_
      obtain ⟨k, rfl⟩ := Int.eq_ofNat_of_zero_le k0
      walk_at "go"
      refine v_slS (small (by rw [ofL_len]; omega)) ?_
      walk_at "go"
      rw [cut_lo (by omega)]
      refine sp_draw h4 (by decide) (by decide) fun g H5 g0 g1 x5 h5 => ?_
      have hg : g.toNat < badS.cps.toList.length := by
        have : badS.cps.toList.length = 16 := by decide +kernel
        omega
      have eg : atI badS.cps.toList g = some badS.cps.toList[g.toNat] := by
        have z : atI badS.cps.toList (g.toNat : Nat) = some badS.cps.toList[g.toNat] := by
          unfold atI ixN
          rw [if_pos (Int.natCast_nonneg _), if_pos (by omega)]
          exact List.getElem?_eq_getElem hg
        rw [← (show g = (g.toNat : Nat) by omega)] at z
        exact z
      refine v_ixS (z := badS) (by decide) eg ?_
      generalize eb : badS.cps.toList[g.toNat] = bc
      have hb : bc ∈ badS.cps.toList := by rw [← eb]; exact List.getElem_mem hg
      refine v_addS (small (by rw [ofL_len]; show (List.take k cs).length + 1 ≤ _; rw [List.length_take]; omega)) ?_
      have e1 : (⟨#[bc]⟩ : Str) = ofL [bc] := rfl
      rw [e1, ofL_add]
      walk_at "go"
      refine v_slS (small (by rw [ofL_len]; omega)) ?_
      rw [cut_hi (by omega)]
      refine v_addS (small (by rw [ofL_len, ofL_len, List.length_append, List.length_take, List.length_drop]; simp only [List.length_singleton]; omega)) ?_
      rw [ofL_add]
      have len : (cs.take k ++ [bc] ++ cs.drop k).length = cs.length + 1 := by
        rw [List.length_append, List.length_append, List.length_take, List.length_drop, List.length_singleton]
        omega
      have nb := bad_no bc hb
      exact q _ _ ⟨_, rfl, small (by rw [ofL_len, len]; omega), word_f (c := bc) (by simp) fun z => nb (let_tag bc z), word_f (c := bc) (by simp) nb⟩ ((x1.trans x3).trans (x4.trans x5)) h5
end
end Hd

namespace Hd
open PySem PySem.Spec PyProof.Rows L2 Rw
section
variable {K : PySem.W.Frag} {M : Addr → Prop} {H H2 : Hp} {Q : VK} {E : XK} {n : Nat}
theorem max_num {i : Int} (h : isNum (.int i) = true) : isNum (.int (if i > 1 then i else 1)) = true ∧ (if i > 1 then i else 1) ≠ 0 := by
  simp only [isNum, Bool.and_eq_true, decide_eq_true_eq] at h ⊢
  split <;> omega
theorem sp_right {p : Addr} (h : Pot H p) (q : ∀ v H2, Good K (at1 p) H2 v false false false true → Ext (at1 p) H H2 → Pot H2 p → Q v H2) : lev K es (n + 3) ("_law_right_cell", none) [.ref p] H Q E := by
  refine lev_in (en := e__law_right_cell) rfl rfl ?_
  dsimp only [e__law_right_cell, D__law_right_cell, cn0]
  walk_at "go"
  refine sp_draw h (by decide) (by decide) fun d H1 d0 d1 x1 h1 => ?_
  walk_at "go"
  refine i_dec (fun hd => ?_) fun hd => ?_ <;> walk_at "go"
  · exact q _ _ ⟨.non, rfl, rfl, rfl, rfl⟩ x1 h1
  · refine i_dec (fun hd2 => ?_) fun hd2 => ?_ <;> walk_at "go"
    · refine sp_lnum h1 fun i H2 hi x2 h2 => ?_
      walk_at "go"
      intro t H3 ht x3 e3
      refine q _ _ ⟨.tup (h2.ne ht) e3 ?_, rfl, rfl, rfl, ?_⟩ ((x1.trans x2).trans x3.up) (h2.new x3)
      · simp only [List.mem_cons, List.not_mem_nil, or_false]
        rintro x (rfl | rfl)
        · exact .str (by decide +kernel)
        · exact .int
      · simp [isCell, e3, hi]
    · refine sp_lnum h1 fun i H2 hi x2 h2 => ?_
      walk_at "go"
      refine sp_draw h2 (by decide) (by decide) fun a H3 a0 a1 x3 h3 => ?_
      walk_at "go"
      intro l H4 hl x4 e4
      walk_at "go"
      refine sp_draw (h3.new x4) (by decide) (by decide) fun b H5 b0 b1 x5 h5 => ?_
      have e5 := x5 _ _ (h3.ne hl) e4
      have fin : ∀ j t H6, 0 ≤ j → j ≤ 30 → H5 t = none → Ext noM H5 H6 → H6 t = some (.tup [.str "thing", .int (if i > 1 then i else 1), .int j]) → Q (.ref t) H6 := fun j t H6 j0 j1 ht x6 e6 => by
        refine q _ _ ⟨.tup (h5.ne ht) e6 ?_, rfl, rfl, rfl, ?_⟩ ((x1.trans x2).trans ((x3.trans x4.up).trans (x5.trans x6.up))) (h5.new x6)
        · simp only [List.mem_cons, List.not_mem_nil, or_false]
          rintro x (rfl | rfl | rfl)
          · exact .str (by decide +kernel)
          · exact .int
          · exact .int
        · obtain ⟨m1, m2⟩ := max_num hi
          simp only [isCell, e6, m1, nz, few, decide_eq_true m2, decide_eq_true j0, decide_eq_true j1]
          decide +kernel
      obtain rfl | rfl | rfl : b = 0 ∨ b = 1 ∨ b = 2 := by omega
      all_goals
        walk_at "go"
        intro t H6 ht x6 e6
        exact fin _ t H6 (by omega) (by omega) ht x6 e6
theorem sp_odd {p : Addr} (h : Pot H p) (q : ∀ v H2, Good K (at1 p) H2 v false false false false → Ext (at1 p) H H2 → Pot H2 p → Q v H2) : lev K es (n + 3) ("_law_odd", none) [.ref p] H Q E := by
  refine lev_in (en := e__law_odd) rfl rfl ?_
  dsimp only [e__law_odd, D__law_odd, cn0]
  walk_at "go"
  refine v_pow ⟨by decide, by decide, by decide⟩ ?_
  have e12 : (10 : Int) ^ (12 : Int).toNat = 1000000000000 := by decide
  have e30 : (10 : Int) ^ (30 : Int).toNat = 1000000000000000000000000000000 := by decide
  rw [e12]
  walk_at "go"
  refine v_pow ⟨by decide, by decide, by decide⟩ ?_
  rw [e30]
  walk_at "go"
  refine v_pow ⟨by decide, by decide, by decide⟩ ?_
  rw [e12]
  walk_at "go"
  intro l1 H1 n1 x1 e1
  walk_at "go"
  intro l2 H2 n2 x2 e2
  walk_at "go"
  intro l3 H3 n3 x3 e3
  walk_at "go"
  intro l4 H4 n4 x4 e4
  walk_at "go"
  refine e_dnew fun l5 H5 n5 x5 e5 => ?_
  walk_at "go"
  refine e_disp fun l6 H6 n6 x6 e6 => ?_
  walk_at "go"
  refine disp_end [(.inr "to", .int 3)] e6 rfl (by decide) fun H7 x7 e7 => ?_
  walk_at "go"
  intro l8 H8 n8 x8 e8
  walk_at "go"
  intro l9 H9 n9 x9 e9
  walk_at "go"
  intro l10 H10 n10 x10 e10
  walk_at "go"
  have e9' := x10 _ _ noM_not e9
  refine v_app e9' (by show 14 < sizeLine; decide) fun H11 x11 y11 e11 => ?_
  walk_at "go"
  refine v_lenLn (n := 15) e11 rfl ?_
  walk_at "go"
  have w9 : Ext noM H8 H11 := x11 _ _ (x9.trans x10) n9
  have w7 : Ext noM H7 H11 := x8.trans w9
  have w6 : Ext noM H5 H11 := (x7 _ _ x6 n6).trans w7
  have w5 : Ext noM H4 H11 := x5.trans w6
  have w4 : Ext noM H3 H11 := x4.trans w5
  have w3 : Ext noM H2 H11 := x3.trans w4
  have w2 : Ext noM H1 H11 := x2.trans w3
  have w1 : Ext noM H H11 := x1.trans w2
  have p9 : Pot H8 p := h.new (x1.trans (x2.trans (x3.trans (x4.trans (x5.trans ((x7 _ _ x6 n6).trans x8))))))
  have hl : H l8 = none ∧ H l10 = none ∧ H l1 = none ∧ H l2 = none ∧ H l3 = none ∧ H l4 = none ∧ H l5 = none ∧ H l6 = none := by
    have u : ∀ {H0 H' : Hp} {b : Addr}, Ext noM H0 H' → H' b = none → H0 b = none := fun {H0 H' b} x z => by
      cases hh : H0 b with
      | none => rfl
      | some o => rw [x _ _ noM_not hh] at z; cases z
    have y4 : Ext noM H H4 := x1.trans (x2.trans (x3.trans x4))
    have y7 : Ext noM H H7 := y4.trans (x5.trans (x7 _ _ x6 n6))
    exact ⟨u y7 n8, u (y7.trans (x8.trans x9)) n10, n1, u x1 n2, u (x1.trans x2) n3, u (x1.trans (x2.trans x3)) n4, u y4 n5, u (y4.trans x5) n6⟩
  obtain ⟨m8, m10, m1, m2, m3, m4, m5, m6⟩ := hl
  refine sp_draw (m := ((15 : Nat) : Int)) (h.new w1) (by decide) (by decide) fun k H12 k0 k1 x12 h12 => ?_
  have nn : ∀ {b : Addr}, H b = none → ¬ at1 p b := fun z => h.ne z
  have nl : ¬ at1 p l9 := p9.ne n9
  have e11' := x12 _ _ nl e11
  have f1 := x12 _ _ (nn m1) (w2 _ _ noM_not e1)
  have f2 := x12 _ _ (nn m2) (w3 _ _ noM_not e2)
  have f3 := x12 _ _ (nn m3) (w4 _ _ noM_not e3)
  have f4 := x12 _ _ (nn m4) (w5 _ _ noM_not e4)
  have f5 := x12 _ _ (nn m5) (w6 _ _ noM_not e5)
  have f6 := x12 _ _ (nn m6) (w7 _ _ noM_not e7)
  have f8 := x12 _ _ (nn m8) (w9 _ _ noM_not e8)
  have f10 : H12 l10 = some (.tup [.str "thing"]) := x12 _ _ (nn m10) (by
    have ne : ¬ (fun q => q = l9) l10 := fun z => by
      have z : l10 = l9 := z
      rw [z, e9] at n10
      cases n10
    exact y11 (fun q => q = l9) rfl _ _ ne e10)
  obtain ⟨v, ev, hv⟩ := at_mem (xs := [V.int (-1), .int 1000000000000, .int 1000000000000000000000000000000, .int (-1000000000000), .bl true, .bl false, .str "5 5", .ref l1, .ref l2, .ref l3, .ref l4, .ref l5, .ref l6, V.ref l8] ++ [V.ref l10]) k0 k1
  refine v_ixL e11' ev ?_
  refine q _ _ ?_ (w1.up.trans x12) h12
  simp only [List.cons_append, List.nil_append, List.mem_cons, List.not_mem_nil, or_false] at hv
  rcases hv with rfl | rfl | rfl | rfl | rfl | rfl | rfl | rfl | rfl | rfl | rfl | rfl | rfl | rfl | rfl
  · exact ⟨.int, rfl, rfl, rfl, rfl⟩
  · exact ⟨.int, by decide +kernel, rfl, rfl, by rw [cell_int]; decide +kernel⟩
  · exact ⟨.int, by decide +kernel, rfl, rfl, by rw [cell_int]; decide +kernel⟩
  · exact ⟨.int, by decide +kernel, rfl, rfl, by rw [cell_int]; decide +kernel⟩
  · exact ⟨.bl, rfl, rfl, rfl, rfl⟩
  · exact ⟨.bl, rfl, rfl, rfl, rfl⟩
  · exact ⟨.str (by decide +kernel), rfl, by decide +kernel, by decide +kernel, rfl⟩
  · exact ⟨.lst (nn m1) f1, rfl, rfl, rfl, by simp [isCell, f1]⟩
  · exact ⟨.tup (nn m2) f2 (by simp; exact .int), rfl, rfl, rfl, by simp [isCell, f2]⟩
  · exact ⟨.tup (nn m3) f3 (by simp), rfl, rfl, rfl, by simp [isCell, f3]⟩
  · exact ⟨.lst (nn m4) f4, rfl, rfl, rfl, by simp [isCell, f4]⟩
  · exact ⟨.dK (nn m5) f5, rfl, rfl, rfl, by simp [isCell, f5]⟩
  · exact ⟨.dK (nn m6) f6, rfl, rfl, rfl, by simp [isCell, f6]⟩
  · exact ⟨.tup (nn m8) f8 (by simp; exact .str (by decide +kernel)), rfl, rfl, rfl, by simp [isCell, f8]⟩
  · exact ⟨.tup (nn m10) f10 (by simp; exact .str (by decide +kernel)), rfl, rfl, rfl, by simp [isCell, f10]⟩
theorem num_no {y : V} (h : isNum y = false) : few y = false := by
  cases y with
  | int i =>
    simp only [isNum, Bool.and_eq_false_iff, decide_eq_false_iff_not] at h
    simp only [few, Bool.and_eq_false_iff, decide_eq_false_iff_not]
    omega
  | _ => rfl
theorem ty_text {z : Str} (h : z.length ≤ 1000) : Kn K M H (.str z) := .str (small h)
/-- a tuple that's no cell at all -/
theorem good_tup {a : Addr} {xs : List V} (m : ¬ M a) (e : H a = some (.tup xs)) (k : ∀ x ∈ xs, Kn K M H x) (c : isCell H (.ref a) = false) : Good K M H (.ref a) false false false false := ⟨.tup m e k, rfl, rfl, rfl, c⟩
theorem good_lst {a : Addr} {xs : List V} (m : ¬ M a) (e : H a = some (.lst xs)) : Good K M H (.ref a) false false false false := ⟨.lst m e, rfl, rfl, rfl, by simp only [isCell, e]⟩
theorem no1 : decide (("to" : Str) = "thing") = false := by decide +kernel
theorem no2 : decide (("thing" : Str) = "to") = false := by decide +kernel
theorem sp_spoilt {p : Addr} (h : Pot H p) (q : ∀ v H2, Good K (at1 p) H2 v false false false false → Ext (at1 p) H H2 → Pot H2 p → Q v H2) : lev K es (n + 4) ("_law_spoilt", none) [.ref p] H Q E := by
  refine lev_in (en := e__law_spoilt) rfl rfl ?_
  dsimp only [e__law_spoilt, D__law_spoilt, cn0]
  walk_at "go"
  refine sp_lnum h fun i H1 hi x1 h1 => ?_
  walk_at "go"
  refine sp_draw h1 (by decide) (by decide) fun f H2 f0 f1 x2 h2 => ?_
  walk_at "go"
  refine ⟨_, _, rfl, ?_⟩
  walk_at "go"
  refine sp_draw h2 (by decide) (by decide) fun d H3 d0 d1 x3 h3 => ?_
  have x03 := (x1.trans x2).trans x3
  walk_at "go"
  refine i_dec (fun hd => ?_) fun hd => ?_ <;> walk_at "go"
  · refine sp_odd h3 fun v H4 g4 x4 h4 => ?_
    walk_at "go"
    intro t H5 ht x5 e5
    refine q _ _ (good_tup (h4.ne ht) e5 ?_ ?_) (x03.trans (x4.trans x5.up)) (h4.new x5)
    · simp only [List.mem_cons, List.not_mem_nil, or_false]
      rintro x (rfl | rfl)
      · exact ty_text (by decide +kernel)
      · exact g4.k.mono x5.up
    · simp only [isCell, e5, g4.n, Bool.and_false]
  refine i_dec (fun hd => ?_) fun hd => ?_ <;> walk_at "go"
  · intro l1 H4 n1 y1 e1
    walk_at "go"
    intro l2 H5 n2 y2 e2
    walk_at "go"
    intro l3 H6 n3 y3 e3
    walk_at "go"
    intro l4 H7 n4 y4 e4
    walk_at "go"
    intro L H8 nL yL eL
    have u1 : ¬ at1 p l1 := h3.ne n1
    have h4 := h3.new y1
    have u2 : ¬ at1 p l2 := h4.ne n2
    have h5 := h4.new y2
    have u3 : ¬ at1 p l3 := h5.ne n3
    have h6 := h5.new y3
    have u4 : ¬ at1 p l4 := h6.ne n4
    have h7 := h6.new y4
    have uL : ¬ at1 p L := h7.ne nL
    walk_at "go"
    refine sp_draw (h7.new yL) (by decide) (by decide) fun k H9 k0 k1 x9 h9 => ?_
    have w4 : Ext (at1 p) H7 H9 := yL.up.trans x9
    have w3 : Ext (at1 p) H6 H9 := y4.up.trans w4
    have w2 : Ext (at1 p) H5 H9 := y3.up.trans w3
    have w1 : Ext (at1 p) H4 H9 := y2.up.trans w2
    have x := x03.trans (y1.up.trans w1)
    have f1 := w1 _ _ u1 e1
    have f2 := w2 _ _ u2 e2
    have f3 := w3 _ _ u3 e3
    have f4 := w4 _ _ u4 e4
    have fL := x9 _ _ uL eL
    obtain rfl | rfl | rfl | rfl : k = 0 ∨ k = 1 ∨ k = 2 ∨ k = 3 := by omega
    all_goals walk_at "go"
    · exact q _ _ (good_lst u1 f1) x h9
    · exact q _ _ (good_lst u2 f2) x h9
    · refine q _ _ (good_tup u3 f3 ?_ ?_) x h9
      · simp only [List.mem_cons, List.not_mem_nil, or_false]
        rintro x (rfl | rfl | rfl)
        · exact ty_text (by decide +kernel)
        · exact .int
        · exact .int
      · simp only [isCell, f3, no1, Bool.false_and]
    · refine q _ _ (good_tup u4 f4 ?_ ?_) x h9
      · simp only [List.mem_cons, List.not_mem_nil, or_false]
        rintro x (rfl | rfl)
        · exact ty_text (by decide +kernel)
        · exact .non
      · simp only [isCell, f4]
        exact Bool.and_false _
  refine i_dec (fun hd => ?_) fun hd => ?_ <;> walk_at "go"
  · refine sp_odd h3 fun v H4 g4 x4 h4 => ?_
    walk_at "go"
    intro L H5 nL y5 eL
    have uL : ¬ at1 p L := h4.ne nL
    walk_at "go"
    refine sp_draw (h4.new y5) (by decide) (by decide) fun k H6 k0 k1 x6 h6 => ?_
    have fL := x6 _ _ uL eL
    have g6 := (g4.mono y5.up).mono x6
    have x := x03.trans (x4.trans (y5.up.trans x6))
    obtain rfl | rfl : k = 0 ∨ k = 1 := by omega
    all_goals
      walk_at "go"
      intro t H7 nt y7 e7
    · refine q _ _ (good_tup (h6.ne nt) e7 ?_ ?_) (x.trans y7.up) (h6.new y7)
      · simp only [List.mem_cons, List.not_mem_nil, or_false]
        rintro x (rfl | rfl | rfl)
        · exact ty_text (by decide +kernel)
        · exact .int
        · exact .int
      · simp [isCell, nz, e7]
    · refine q _ _ (good_tup (h6.ne nt) e7 ?_ ?_) (x.trans y7.up) (h6.new y7)
      · simp only [List.mem_cons, List.not_mem_nil, or_false]
        rintro x (rfl | rfl | rfl)
        · exact ty_text (by decide +kernel)
        · exact g6.k.mono y7.up
        · exact .int
      · simp only [isCell, e7, g6.n, Bool.false_and, Bool.and_false]
  refine i_dec (fun hd => ?_) fun hd => ?_ <;> walk_at "go"
  · refine v_pow ⟨by decide, by decide, by decide⟩ ?_
    have e12 : (10 : Int) ^ (12 : Int).toNat = 1000000000000 := by decide
    rw [e12]
    walk_at "go"
    refine sp_odd h3 fun v H4 g4 x4 h4 => ?_
    walk_at "go"
    intro L H5 nL y5 eL
    have uL : ¬ at1 p L := h4.ne nL
    walk_at "go"
    refine sp_draw (h4.new y5) (by decide) (by decide) fun k H6 k0 k1 x6 h6 => ?_
    have fL := x6 _ _ uL eL
    have g6 := (g4.mono y5.up).mono x6
    have x := x03.trans (x4.trans (y5.up.trans x6))
    obtain ⟨w, ew, hw⟩ := at_mem (xs := [V.int 31, V.int (-1), V.non, V.bl true, V.int 1000000000000, v]) k0 k1
    refine v_ixL fL ew ?_
    walk_at "go"
    intro t H7 nt y7 e7
    have kw : Kn K (at1 p) H7 w ∧ few w = false := by
      simp only [List.mem_cons, List.not_mem_nil, or_false] at hw
      rcases hw with rfl | rfl | rfl | rfl | rfl | rfl
      · exact ⟨.int, by decide⟩
      · exact ⟨.int, by decide⟩
      · exact ⟨.non, rfl⟩
      · exact ⟨.bl, rfl⟩
      · exact ⟨.int, by decide⟩
      · exact ⟨g6.k.mono y7.up, num_no g6.n⟩
    refine q _ _ (good_tup (h6.ne nt) e7 ?_ ?_) (x.trans y7.up) (h6.new y7)
    · simp only [List.mem_cons, List.not_mem_nil, or_false]
      rintro x (rfl | rfl | rfl)
      · exact ty_text (by decide +kernel)
      · exact .int
      · exact kw.1
    · simp only [isCell, e7, kw.2, Bool.and_false]
  refine i_dec (fun hd => ?_) fun hd => ?_ <;> walk_at "go"
  · intro l1 H4 n1 y1 e1
    walk_at "go"
    intro l2 H5 n2 y2 e2
    walk_at "go"
    intro L H8 nL yL eL
    have u1 : ¬ at1 p l1 := h3.ne n1
    have h4 := h3.new y1
    have u2 : ¬ at1 p l2 := h4.ne n2
    have h5 := h4.new y2
    have uL : ¬ at1 p L := h5.ne nL
    walk_at "go"
    refine sp_draw (h5.new yL) (by decide) (by decide) fun k H9 k0 k1 x9 h9 => ?_
    have w2 : Ext (at1 p) H5 H9 := yL.up.trans x9
    have w1 : Ext (at1 p) H4 H9 := y2.up.trans w2
    have x := x03.trans (y1.up.trans w1)
    have f1 := w1 _ _ u1 e1
    have f2 := w2 _ _ u2 e2
    have fL := x9 _ _ uL eL
    obtain rfl | rfl : k = 0 ∨ k = 1 := by omega
    all_goals walk_at "go"
    · refine q _ _ (good_tup u1 f1 ?_ ?_) x h9
      · simp only [List.mem_cons, List.not_mem_nil, or_false]
        rintro x (rfl | rfl)
        · exact ty_text (by decide +kernel)
        · exact .int
      · simp only [isCell, f1, no2, Bool.false_and]
    · refine q _ _ (good_tup u2 f2 ?_ ?_) x h9
      · simp only [List.mem_cons, List.not_mem_nil, or_false]
        rintro x (rfl | rfl | rfl | rfl)
        · exact ty_text (by decide +kernel)
        · exact .int
        · exact .int
        · exact .int
      · simp only [isCell, f2]
  refine i_dec (fun hd => ?_) fun hd => ?_ <;> walk_at "go"
  · intro l1 H4 n1 y1 e1
    walk_at "go"
    intro l2 H5 n2 y2 e2
    walk_at "go"
    intro L H8 nL yL eL
    have u1 : ¬ at1 p l1 := h3.ne n1
    have h4 := h3.new y1
    have u2 : ¬ at1 p l2 := h4.ne n2
    have h5 := h4.new y2
    have uL : ¬ at1 p L := h5.ne nL
    walk_at "go"
    refine sp_draw (h5.new yL) (by decide) (by decide) fun k H9 k0 k1 x9 h9 => ?_
    have w2 : Ext (at1 p) H5 H9 := yL.up.trans x9
    have w1 : Ext (at1 p) H4 H9 := y2.up.trans w2
    have x := x03.trans (y1.up.trans w1)
    have f1 := w1 _ _ u1 e1
    have f2 := w2 _ _ u2 e2
    have fL := x9 _ _ uL eL
    obtain ⟨w, ew, hw⟩ := at_mem (xs := [V.non, V.int 0, V.str "", V.str "To", V.str "at", V.str "name", V.ref l1, V.ref l2, V.str "things"]) k0 k1
    refine v_ixL fL ew ?_
    walk_at "go"
    intro t H7 nt y7 e7
    have kw : Kn K (at1 p) H7 w ∧ ∀ z, w = .str z → decide (z = "to") = false := by
      simp only [List.mem_cons, List.not_mem_nil, or_false] at hw
      rcases hw with rfl | rfl | rfl | rfl | rfl | rfl | rfl | rfl | rfl
      · exact ⟨.non, fun _ z => nomatch z⟩
      · exact ⟨.int, fun _ z => nomatch z⟩
      · exact ⟨ty_text (by decide +kernel), fun z e => by cases e; decide +kernel⟩
      · exact ⟨ty_text (by decide +kernel), fun z e => by cases e; decide +kernel⟩
      · exact ⟨ty_text (by decide +kernel), fun z e => by cases e; decide +kernel⟩
      · exact ⟨ty_text (by decide +kernel), fun z e => by cases e; decide +kernel⟩
      · exact ⟨.tup u1 (y7 _ _ noM_not f1) (by simp; exact ty_text (by decide +kernel)), fun _ z => nomatch z⟩
      · exact ⟨.lst u2 (y7 _ _ noM_not f2), fun _ z => nomatch z⟩
      · exact ⟨ty_text (by decide +kernel), fun z e => by cases e; decide +kernel⟩
    refine q _ _ (good_tup (h9.ne nt) e7 ?_ ?_) (x.trans y7.up) (h9.new y7)
    · simp only [List.mem_cons, List.not_mem_nil, or_false]
      rintro x (rfl | rfl)
      · exact kw.1
      · exact .int
    · cases w with
      | str z => simp only [isCell, e7, kw.2 z rfl, Bool.false_and]
      | _ => simp only [isCell, e7]
  refine i_dec (fun hd => ?_) fun hd => ?_ <;> walk_at "go"
  · intro L H8 nL yL eL
    have uL : ¬ at1 p L := h3.ne nL
    walk_at "go"
    refine sp_draw (h3.new yL) (by decide) (by decide) fun k H9 k0 k1 x9 h9 => ?_
    have x := x03.trans (yL.up.trans x9)
    have fL := x9 _ _ uL eL
    obtain ⟨w, ew, hw⟩ := at_mem (xs := [V.non, V.int 0, V.str "", V.str "Thing", V.str "to", V.str "thin", V.str "name"]) k0 k1
    refine v_ixL fL ew ?_
    walk_at "go"
    intro t H7 nt y7 e7
    have kw : Kn K (at1 p) H7 w ∧ ∀ z, w = .str z → decide (z = "thing") = false := by
      simp only [List.mem_cons, List.not_mem_nil, or_false] at hw
      rcases hw with rfl | rfl | rfl | rfl | rfl | rfl | rfl
      · exact ⟨.non, fun _ z => nomatch z⟩
      · exact ⟨.int, fun _ z => nomatch z⟩
      all_goals exact ⟨ty_text (by decide +kernel), fun z e => by cases e; decide +kernel⟩
    refine q _ _ (good_tup (h9.ne nt) e7 ?_ ?_) (x.trans y7.up) (h9.new y7)
    · simp only [List.mem_cons, List.not_mem_nil, or_false]
      rintro x (rfl | rfl | rfl)
      · exact kw.1
      · exact .int
      · exact .int
    · cases w with
      | str z => simp only [isCell, e7, kw.2 z rfl, Bool.false_and]
      | _ => simp only [isCell, e7]
  · intro l1 H4 n1 y1 e1
    walk_at "go"
    intro l2 H5 n2 y2 e2
    walk_at "go"
    intro t H7 nt y7 e7
    have u1 : ¬ at1 p l1 := h3.ne n1
    have h4 := h3.new y1
    have u2 : ¬ at1 p l2 := h4.ne n2
    have h5 := h4.new y2
    refine q _ _ (good_tup (h5.ne nt) e7 ?_ ?_) (x03.trans (y1.up.trans (y2.up.trans y7.up))) (h5.new y7)
    · simp only [List.mem_cons, List.not_mem_nil, or_false]
      rintro x (rfl | rfl)
      · refine .tup u1 (y7 _ _ noM_not (y2 _ _ noM_not e1)) ?_
        simp only [List.mem_cons, List.not_mem_nil, or_false]
        rintro x (rfl | rfl)
        · exact ty_text (by decide +kernel)
        · exact .int
      · refine .tup u2 (y7 _ _ noM_not e2) ?_
        simp only [List.mem_cons, List.not_mem_nil, or_false]
        rintro x (rfl | rfl | rfl)
        · exact ty_text (by decide +kernel)
        · exact .int
        · exact .int
    · simp only [isCell, e7]
end
end Hd

namespace Hd
open PySem PySem.Spec PyProof.Rows L2 Rw
section
variable {K : PySem.W.Frag} {M : Addr → Prop} {H H2 : Hp} {Q : VK} {E : XK} {n : Nat}
theorem sp_thing {p : Addr} (h : Pot H p) (q : ∀ t H2, Pair K (at1 p) H2 t → Ext (at1 p) H H2 → Pot H2 p → Q (.ref t) H2) : lev K es (n + 5) ("_law_thing", none) [.ref p] H Q E := by
  refine lev_in (en := e__law_thing) rfl rfl ?_
  dsimp only [e__law_thing, D__law_thing, cn0]
  walk_at "go"
  refine sp_draw h (by decide) (by decide) fun d H1 d0 d1 x1 h1 => ?_
  have fin : ∀ {g b1 b2 b3 b4 H3 t H4 l H5}, Good K (at1 p) H3 g b1 b2 b3 b4 → Ext (at1 p) H H3 → Pot H3 p → H3 t = none → Ext noM H3 H4 → H4 t = some (.lst [.bl b1, .bl b2, .bl b3, .bl b4]) → H4 l = none → Ext noM H4 H5 → H5 l = some (.tup [g, .ref t]) → Q (.ref l) H5 :=
    fun {g b1 b2 b3 b4 H3 t H4 l H5} hg x h3 nt y4 e4 nl y5 e5 => q _ _ ⟨_, _, _, _, _, _, e5, y5 _ _ noM_not e4, h3.ne nt, (hg.mono y4.up).mono y5.up⟩ (x.trans (y4.up.trans y5.up)) ((h3.new y4).new y5)
  walk_at "go"
  refine i_dec (fun hd => ?_) fun hd => ?_ <;> walk_at "go"
  · refine sp_lnum h1 fun i H3 hi x3 h3 => ?_
    walk_at "go"
    intro t H4 nt y4 e4
    walk_at "go"
    intro l H5 nl y5 e5
    exact fin ⟨.int, hi, rfl, rfl, hi⟩ (x1.trans x3) h3 nt y4 e4 nl y5 e5
  refine i_dec (fun hd => ?_) fun hd => ?_ <;> walk_at "go"
  · exact sp_named h1 fun t H2 hp x2 h2 => q _ _ hp (x1.trans x2) h2
  refine i_dec (fun hd => ?_) fun hd => ?_ <;> walk_at "go"
  · refine sp_no_text h1 fun v H3 hv x3 h3 => ?_
    walk_at "go"
    intro t H4 nt y4 e4
    walk_at "go"
    intro l H5 nl y5 e5
    obtain ⟨z, rfl, hz, w1, w2⟩ := hv
    exact fin ⟨.str hz, rfl, w1, w2, rfl⟩ (x1.trans x3) h3 nt y4 e4 nl y5 e5
  refine i_dec (fun hd => ?_) fun hd => ?_ <;> walk_at "go"
  · refine sp_right h1 fun v H3 hv x3 h3 => ?_
    walk_at "go"
    intro t H4 nt y4 e4
    walk_at "go"
    intro l H5 nl y5 e5
    exact fin hv (x1.trans x3) h3 nt y4 e4 nl y5 e5
  refine i_dec (fun hd => ?_) fun hd => ?_ <;> walk_at "go"
  · refine sp_odd h1 fun v H3 hv x3 h3 => ?_
    walk_at "go"
    intro t H4 nt y4 e4
    walk_at "go"
    intro l H5 nl y5 e5
    exact fin hv (x1.trans x3) h3 nt y4 e4 nl y5 e5
  · refine sp_spoilt h1 fun v H3 hv x3 h3 => ?_
    walk_at "go"
    intro t H4 nt y4 e4
    walk_at "go"
    intro l H5 nl y5 e5
    exact fin hv (x1.trans x3) h3 nt y4 e4 nl y5 e5
theorem sp_pot {a : Addr} {ns : List Int} {k : Nat} (hs : SqL K H a (ns.map V.int)) (hk : k < 64) (q : ∀ p H2, H p = none → Ext noM H H2 → Pot H2 p → Q (.ref p) H2) : lev K es (n + 1) ("_law_pot", none) [.ref a, .int (k : Nat)] H Q E := by
  refine lev_in (en := e__law_pot) rfl rfl ?_
  dsimp only [e__law_pot, D__law_pot, cn0]
  have fin : ∀ i : Int, (∀ (σ : L2.St), σ = [some (.ref a), some (.int (k : Nat)), some (.int i)] → tSeq (tRet (tLst (tCons (tCB rMax2U (tCons (tC (.int 0)) (tCons (tOp rSubU (tCB rAbsU (tCons (tVar 2) tNil)) (tOp rPowU (tC (.int 10)) (tC (.int 18)))) tNil))) (tCons (tOp rAddU (tOp rAddU (tOp rModU (tCB rAbsU (tCons (tVar 2) tNil)) (tC (.int 2147483587))) (tOp rMulU (tC (.int 131)) (tVar 1))) (tC (.int 7))) tNil)))) tNext { nx := fun _ H2 => Q .non H2, rt := Q } σ H) := by
    rintro i σ rfl
    walk_at "go"
    refine v_pow ⟨by decide, by decide, by decide⟩ ?_
    walk_at "go"
    refine v_mod (by decide) ?_
    walk_at "go"
    refine v_mul (.inl ⟨by decide, by decide⟩) ?_
    walk_at "go"
    intro p H2 np x e
    have g1 := Int.emod_nonneg (if i < 0 then -i else i) (b := 2147483587) (by decide)
    have g2 := Int.emod_lt_of_pos (if i < 0 then -i else i) (b := 2147483587) (by decide)
    exact q _ _ np x ⟨_, _, e, by omega, by omega⟩
  walk_at "go"
  refine v_lenQ hs ?_
  walk_at "go"
  rw [List.length_map]
  refine i_dec (fun h => ?_) fun h => ?_
  · walk_at "go"
    have hk : k < ns.length := by omega
    have e : (ns.map V.int)[k]? = some (.int ns[k]) := by rw [List.getElem?_map, List.getElem?_eq_getElem hk]; rfl
    refine v_ixQ hs (atN e) ?_
    exact fin _ _ rfl
  · exact fin 0 _ rfl
theorem dp4 {b1 b2 b3 b4 : Bool} {a : Addr} (e : H a = some (.lst [.bl b1, .bl b2, .bl b3, .bl b4])) : Dp K H (.ref a) (.list [.bool b1, .bool b2, .bool b3, .bool b4]) := .lst (.inl (.inl e)) (.cons (.bl _) (.cons (.bl _) (.cons (.bl _) (.cons (.bl _) .nil))))
abbrev four (b1 b2 b3 b4 : Bool) : PyData := .list [.bool b1, .bool b2, .bool b3, .bool b4]
theorem four_ok : ∀ b1 b2 b3 b4 : Bool, (four b1 b2 b3 b4).showable = true ∧ (four b1 b2 b3 b4).depth ≤ 100 ∧ (four b1 b2 b3 b4).shown.length ≤ sizeLine := by decide +kernel
theorem pure_law (K : PySem.W.Frag) (H : Hp) (a : Addr) (ns : List Int) (hf : ∀ f ∈ fa, f.ok K = true) (hn : ns.length ≤ 63) (h2 : Only H) (hs : SqL K H a (ns.map V.int)) : lev K es (20 + 1) ("law", none) [.ref a] H (fun v _ => v = .bl true) fun _ _ _ => False := by
  refine lev_in (en := e_law) rfl rfl ?_
  dsimp only [e_law, D_law, cn0]
  walk_at "go"
  refine v_lenQ hs ?_
  walk_at "go"
  generalize hj : (if (if ((ns.map V.int).length : Int) < 40 then ((ns.map V.int).length : Int) else 40) > 3 then (if ((ns.map V.int).length : Int) < 40 then ((ns.map V.int).length : Int) else 40) else 3) = j
  have hj2 : 0 ≤ j ∧ j ≤ 40 := by
    rw [← hj]
    split <;> split <;> omega
  refine j_rng1 (by omega) (by omega) ?_
  refine for_go (fun _ σ H' => Ext noM H H' ∧ ∃ v1 v2 v3 v4 v5 v6 : Option V, σ = [some (.ref a), v1, v2, v3, v4, v5, v6]) tells_rng ⟨Ext.rfl, _, _, _, _, _, _, rfl⟩ (fun k σ H1 x hP hx => ?_) fun σ H' hP => ?_
  · obtain ⟨x1, v1, v2, v3, v4, v5, v6, rfl⟩ := hP
    obtain ⟨hk, rfl⟩ := rngL_at hx
    have hk : k < 64 := by omega
    rw [Int.zero_add]
    have hs1 := sql_ext hs x1 fun _ => noM_not
    walk_at "go"
    refine sp_pot hs1 hk fun p H2 np x2 h2 => ?_
    walk_at "go"
    refine sp_thing h2 fun t H3 ⟨g, d, b1, b2, b3, b4, et, ed, nd, gd⟩ x3 h3 => ?_
    have y3 : Ext noM H1 H3 := (x2.up.trans x3).drop (p := p) fun q z => by rw [show q = p from z]; exact np
    walk_at "go"
    obtain ⟨o1, o2, o3⟩ := four_ok b1 b2 b3 b4
    refine sp_number gd.k ?_
    rw [gd.n]
    walk_at "go"
    refine sp_name gd.k fun H4 x4 => ?_
    rw [gd.w]
    have g4 := gd.mono x4.up
    walk_at "go"
    refine sp_tag g4.k fun H5 x5 => ?_
    rw [gd.t]
    have g5 := g4.mono x5.up
    walk_at "go"
    refine sp_cell g5.k ?_
    rw [g5.c]
    walk_at "go"
    intro l H6 nl x6 e6
    have g6 := g5.mono x6.up
    have ed6 := x6 _ _ noM_not (x5 _ _ noM_not (x4 _ _ noM_not ed))
    walk_at "go"
    refine v_repr (four b1 b2 b3 b4) (dp4 e6) o1 o2 o3 ?_
    walk_at "go"
    refine v_repr (four b1 b2 b3 b4) (dp4 ed6) o1 o2 o3 ?_
    walk_at "go"
    refine i_ndec (fun z => absurd rfl z) fun _ => ?_
    walk_at "go"
    refine sp_number g6.k ?_
    rw [gd.n]
    walk_at "go"
    refine sp_name g6.k fun H7 x7 => ?_
    rw [gd.w]
    have g7 := g6.mono x7.up
    walk_at "go"
    refine sp_tag g7.k fun H8 x8 => ?_
    rw [gd.t]
    have g8 := g7.mono x8.up
    walk_at "go"
    refine sp_cell g8.k ?_
    rw [g8.c]
    walk_at "go"
    intro l2 H9 nl2 x9 e9
    have ed9 := x9 _ _ noM_not (x8 _ _ noM_not (x7 _ _ noM_not ed6))
    walk_at "go"
    refine v_repr (four b1 b2 b3 b4) (dp4 e9) o1 o2 o3 ?_
    walk_at "go"
    refine v_repr (four b1 b2 b3 b4) (dp4 ed9) o1 o2 o3 ?_
    walk_at "go"
    refine i_ndec (fun z => absurd rfl z) fun _ => ?_
    walk_at "go"
    exact ⟨x1.trans (y3.trans (x4.trans (x5.trans (x6.trans (x7.trans (x8.trans x9)))))), _, _, _, _, _, _, rfl⟩
  · obtain ⟨x1, v1, v2, v3, v4, v5, v6, rfl⟩ := hP
    walk_at "go"
    exact rfl
end
end Hd

open PySem PySem.W PySem.Calls PyProof.Rows
theorem PySem.Challenge.cw_roomwhole_k11_cells_holds : PySem.Challenge.rw_roomwhole_k11_cells.Holds := by
  w_on; o_law
  refine HandSHeadRun.head_any (r := OpenLaw.row PySem.Challenge.rw_roomwhole_k11_cells) (q := view (OpenLaw.row PySem.Challenge.rw_roomwhole_k11_cells).prog [24]) (H := Hd.hk) (ob := Hd.ob) (M := 20000) (loose := Hd.lo) (d := HandSHeadRun.topDef (OpenLaw.row PySem.Challenge.rw_roomwhole_k11_cells).prog 24) (kwd := []) Hd.ob_eq
    (by kernel_rfl) (fun s => by kernel_rfl) Hd.run (by kernel_rfl) (by kernel_rfl) (by kernel_rfl) (by rfl) (by first | assumption | decide +kernel) (by decide +kernel) ⟨rfl, rfl, rfl, rfl, rfl, by decide +kernel⟩ ?hw ?hc
  case hw => w_witness2
  case hc =>
    exact Rw.walk_es (l := PySem.Challenge.rw_roomwhole_k11_cells) (m := 63) (n := 20) (enL := Hd.e_law) rfl (by decide) (by kernel_rfl) (by kernel_rfl) (by decide) rfl Hd.es_ok Hd.sc_ok Hd.sh_ok rfl rfl rfl (fun _ _ _ _ _ _ _ => rfl) rfl Hd.pure_law

