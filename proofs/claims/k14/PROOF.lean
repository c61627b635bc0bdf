import PyProof.Rows.All
import Wide.All
import OpenK.AllK
import Wide.FinOn
import KE.KStateDown
import Lean
import HandS.ForMost
import HandS.Exc
import HandS.ExcOwn
import HandS.ExcInit
import HandS.TryOnly
import HandS.Defaults
import HandS.IsInst
import HandS.FStr
import HandS.DictComp
import HandS.Flow
import HandS.Small
import HandS.HeadHook2
import HandS.HeadEnd
import HandS.WideBits
import HandS.SortRule
import HandS.SortInts
import HandS.SortKw
import HandS.Style
import HandS.More
import KE.KMinBuiltin
import OpenK.KOps
import HandS.Head0
import HandS.Head1
import HandS.Head2
import HandS.HeadHook1
import PySem.Challenge.RW_roomwhole_k14_given_back
set_option Elab.async false
set_option linter.all false
set_option maxRecDepth 100000
set_option maxHeartbeats 4000000
namespace Rw
open PySem PySem.Spec PyProof.Rows L2

/-! ### what a body may lean on -/
abbrev Ky := Str × Option Str
inductive Src where
  | pos (i : Nat) | kw (j : Nat) | dfl (v : He.Dv)
structure Shp where
  key : Ky
  n : Nat
  ks : List Str
  plan : List Src
def nth : List V → Nat → V
  | [], _ => .non
  | x :: _, 0 => x
  | _ :: l, n + 1 => nth l n
theorem nth_at : ∀ (l : List V) (n : Nat), nth l n = l.getD n .non
  | [], n => by cases n <;> rfl
  | _ :: _, 0 => rfl
  | _ :: l, n + 1 => nth_at l n
def plug (K : PySem.W.Frag) (plan : List Src) (vs zs : List V) : List V := plan.map fun s => match s with
  | .pos i => nth vs i
  | .kw j => nth zs j
  | .dfl v => v.v K
def noW : WX := fun _ _ _ _ => False

/-- a def that stands behind the top keeps a promise, where no text is being shown -/
structure FnG (P : Program) (w : World) (K : PySem.W.Frag) (mg : Str → Option Value) (base : Heap) (k : Nat) (f : Addr) (fd : FuncData) (ps : List Str) (sp : Sp) : Prop where
  len : ∀ vs H Q E, sp vs H Q E → vs.length = ps.length
  run : ∀ (A : Around) (outer : List Env) (s : Shared) (H : Hp) (args : Args) (us : List Value) (vs : List V) (Q : VK) (E : XK), Room k A → A.guards = some [] →
    Env0 P w K mg base A outer s H → BindsTo s fd args (ps.zip us) → Vals vs us → sp vs H Q E → codeAny (model P w) A (.call (.ref f) args) (CR (L2.CX P w) outer P w H s Q E) s

/-- what the rules know: hot: within an except suite; top: in a def's own frame -/
structure Cn where
  hot : Bool
  top : Bool
  K : PySem.W.Frag
  fa : List He.Fa
  sh : List Shp
  Ph : Ky → Sp
  N : List Str
  sc : Scope
  fnn : Str → Bool
  W : WX
structure CalleeP (P : Program) (w : World) (L : PySem.W.Frag) (mg : Str → Option Value) (base : Heap) (K : PySem.W.Frag) (k : Nat) (s : Shp) (sp : Sp) : Prop where
  ex : ∃ (fd : FuncData) (ps : List Str) (g : List Value → List Value → List Value), FnG P w L mg base k (He.fAd K s.key) fd ps sp ∧ KBn L fd ps s.n s.ks g (plug K s.plan)
  kp : PySem.W.keepIn K (.ref (He.fAd K s.key)) = true
abbrev Callee (X : Cx) (K : PySem.W.Frag) (k : Nat) (s : Shp) (sp : Sp) : Prop := CalleeP X.prog X.w X.K X.mg X.base K k s sp
structure Bd (c : Cn) (X : Cx) : Prop where
  hK : X.K = c.K
  hN : X.N = c.N
  hsc : X.env.scope = c.sc
  nd : c.N.Nodup
  calm : c.hot = false → X.calm = true
  cold : c.hot = false → X.A.handled = none
  gu : X.A.guards = some []
  tk : Takes X c.W
  po : PassesOwn (model X.prog X.w) X.A X.env X.xe
  stk : c.top = true → X.stack = X.env :: X.outer ∧ X.env.frame = some X.env.locals ∧ X.ex = []
  un : X.A.units + 200 < cLine
  fns : c.hot = false → ∃ k, Room (k + 1) X.A ∧ ∀ s ∈ c.sh, Callee X c.K k s (c.Ph s.key)
  fo : ∀ f ∈ c.fa, f.ok c.K = true
  gx : ∃ h : Heap, c.K.In h ∧ h.Ns mainGlobals X.mg
  fn : ∀ x, c.fnn x = true → X.fn x = true
/-! ### the contexts within -/
def Cn.blk (c : Cn) (scope : Scope) : Cn := { c with top := false, sc := relS scope c.sc, fnn := fun x => scope.names.lookup x == some .cell, W := noW }
def Cn.tr (c : Cn) (W : WX) : Cn := { c with W := W }
def Cn.su (c : Cn) : Cn := { c with hot := true, W := noW }
theorem takes_no {X : Cx} (h : X.xe = fun _ _ => False) : Takes X noW := fun u s' x => by
  obtain ⟨_, _, _, _, _, _, _, _, _, _, _, _, _, _, _, _, z⟩ := x
  exact z.elim
theorem Bd.blk {c : Cn} {X : Cx} (b : Bd c X) (s : Shared) (H : Hp) (scope : Scope) (C : Addr) (cl : List (Str × Addr)) (fp : List Addr) :
    Bd (c.blk scope) (X.blk s H scope (compEnvC scope cl C X.env) fp) where
  hK := b.hK
  hN := b.hN
  hsc := by
    show relS scope X.env.scope = relS scope c.sc
    rw [b.hsc]
  nd := b.nd
  calm := b.calm
  cold := b.cold
  gu := b.gu
  tk := takes_no rfl
  po := PassesOwn.never
  stk := fun z => absurd z Bool.false_ne_true
  un := b.un
  fns := fun z => by
    obtain ⟨k, r, f⟩ := b.fns z
    exact ⟨k, r, fun s hs => ⟨(f s hs).ex, (f s hs).kp⟩⟩
  fo := b.fo
  gx := b.gx
  fn := fun _ z => z
theorem Bd.tr {c : Cn} {X : Cx} (b : Bd c X) {W : WX} {pn : List (Addr × Obj)} {xe : Value → Shared → Prop} (t : Takes (X.tr pn xe) W) (p : PassesOwn (model X.prog X.w) X.A X.env xe) : Bd (c.tr W) (X.tr pn xe) where
  hK := b.hK
  hN := b.hN
  hsc := b.hsc
  nd := b.nd
  calm := b.calm
  cold := b.cold
  gu := b.gu
  tk := t
  po := p
  stk := b.stk
  un := b.un
  fns := fun z => by
    obtain ⟨k, r, f⟩ := b.fns z
    exact ⟨k, r, fun s hs => ⟨(f s hs).ex, (f s hs).kp⟩⟩
  fo := b.fo
  gx := b.gx
  fn := b.fn
theorem Bd.su {c : Cn} {X : Cx} (b : Bd c X) (a : Addr) (pn : List (Addr × Obj)) : Bd c.su (X.suite a pn) where
  hK := b.hK
  hN := b.hN
  hsc := b.hsc
  nd := b.nd
  calm := fun z => absurd z.symm Bool.false_ne_true
  cold := fun z => absurd z.symm Bool.false_ne_true
  gu := b.gu
  tk := takes_no rfl
  po := PassesOwn.never
  stk := b.stk
  un := b.un
  fns := fun z => absurd z.symm Bool.false_ne_true
  fo := b.fo
  gx := b.gx
  fn := b.fn
/-! ### the judgements over all that is known -/
def GE (c : Cn) (e : Expr) (t : TE) : Prop := ∀ X, Bd c X → PE X e t
def GT (c : Cn) (e : Expr) (t : TT) : Prop := ∀ X, Bd c X → PT X e t
def GW (c : Cn) (e : Expr) (t : TT) : Prop := ∀ X, Bd c X → PW X e t
def GA (c : Cn) (es : List Expr) (t : TA) : Prop := ∀ X, Bd c X → PA X es t
def GK (c : Cn) (ks : List Keyword) (t : TA) : Prop := ∀ X, Bd c X → PK X ks t
def GS (c : Cn) (s : Stmt) (t : TS) : Prop := ∀ X, Bd c X → PS X s t
def GB (c : Cn) (ss : List Stmt) (t : TS) : Prop := ∀ X, Bd c X → PSs X ss t
def GG (c : Cn) (e : Expr) (t : TG) : Prop := ∀ X, Bd c X → PG X e t
def GGs (c : Cn) (es : List Expr) (t : TGs) : Prop := ∀ X, Bd c X → PGs X es t
def GI (c : Cn) (tg e : Expr) (t : TI) : Prop := ∀ X, Bd c X → PI X tg e t
def GO (c : Cn) (e : Option Expr) (t : TO) : Prop := ∀ X, Bd c X → PO X e t
def GTs (c : Cn) (es : List Expr) (t : TT) : Prop := ∀ X, Bd c X → PTs X es t
/-- what holds of an operation in every context that is so -/
def OpG (c : Cn) (f : Value → Value → Sem Value) (r : R2) : Prop := ∀ X, Bd c X → OpR X f r
def CallG (c : Cn) (f : Value) (r : List V → Hp → VK → Prop) : Prop := ∀ X, Bd c X → CallR X f r
def MtG (c : Cn) (id : String) (r : V → List V → Hp → VK → Prop) : Prop := ∀ X, Bd c X → MtR X id r

section
variable {c : Cn} {a b e o : Expr} {es : List Expr} {ta tb tc te to : TE} {t u : TT} {ts us : TS} {pos apos p : Pos} {x : Str}
/-! ### names and constants -/
theorem gv (i : Nat) (hN : c.N[i]? = some x := by rfl) (hv : Vis c.sc x := by first | exact Or.inl rfl | exact Or.inr (Or.inl rfl) | exact Or.inr (Or.inr rfl)) (hd : (x == ("__debug__" : Str)) = false := by decide)
    (hcd : (x == ("__classdict__" : Str)) = false := by decide) : GE c (.Name x pos) (tVar i) := fun X h => by
  have q := h.hN
  have q2 := h.hsc
  exact pe_var (by rw [q]; exact hN) (by rw [q2]; exact hv) hd hcd
theorem gi {i : Int} {j} : GE c (.Constant (.int i) j pos) (tC (.int i)) := fun _ _ => pe_int
theorem gb {v : Bool} {j} : GE c (.Constant (.bool v) j pos) (tC (.bl v)) := fun _ _ => pe_bl
theorem gn {j} : GE c (.Constant .none j pos) (tC .non) := fun _ _ => pe_non
theorem gs {z : Str} {j} : GE c (.Constant (.str z) j pos) (tC (.str z)) := fun _ _ => pe_str
def GlN (c : Cn) (x : Str) : Prop := c.sc.names.lookup x = some .globalImplicit
theorem Bd.gln {X : Cx} (h : Bd c X) (g : GlN c x) : Gl X x := by
  show X.env.scope.names.lookup x = _
  rw [h.hsc]
  exact g
def hasF (p : He.Fa → Bool) (fa : List He.Fa) : Bool := fa.any p
theorem hasF_of {q : He.Fa → Bool} {fa : List He.Fa} (h : hasF q fa = true) : ∃ f ∈ fa, q f = true := List.any_eq_true.mp h
def isGlo (x : Str) : He.Fa → Bool
  | .glo y => decide (x = y)
  | _ => false
def isFree (x : Str) : He.Fa → Bool
  | .free y => decide (x = y)
  | _ => false
def isInt (x : Str) (i : Int) : He.Fa → Bool
  | .int y j => decide (x = y) && decide (i = j)
  | _ => false
def isStr (x z : Str) : He.Fa → Bool
  | .str y w => decide (x = y) && decide (z = w)
  | _ => false
def isCls (x : Str) : He.Fa → Bool
  | .cls y => decide (x = y)
  | _ => false
def isNoat (x f : Str) : He.Fa → Bool
  | .noat y g => decide (x = y) && decide (f = g)
  | _ => false
def isMeth (x f : Str) : He.Fa → Bool
  | .meth y g => decide (x = y) && decide (f = g)
  | _ => false
def isMkr (x : Str) : He.Fa → Bool
  | .mkr y => decide (x = y)
  | _ => false
theorem Bd.glo {X : Cx} (h : Bd c X) (g : hasF (isGlo x) c.fa = true) : X.mg x = some (.ref (He.ga c.K x)) := by
  obtain ⟨f, hf, e⟩ := hasF_of g
  have q := h.fo f hf
  cases f with
  | glo y =>
    have e : x = y := of_decide_eq_true e
    subst e
    obtain ⟨g, k1, k2⟩ := h.gx
    exact He.glo_ok k1 k2 q
  | _ => cases e
theorem Bd.free {X : Cx} (h : Bd c X) (g : hasF (isFree x) c.fa = true) : X.mg x = none := by
  obtain ⟨f, hf, e⟩ := hasF_of g
  have q := h.fo f hf
  cases f with
  | free y =>
    have e : x = y := of_decide_eq_true e
    subst e
    obtain ⟨g, k1, k2⟩ := h.gx
    exact He.free_ok k1 k2 q
  | _ => cases e
theorem Bd.int {X : Cx} {i : Int} (h : Bd c X) (g : hasF (isInt x i) c.fa = true) : ∃ t, X.mg x = some (.int i t) := by
  obtain ⟨f, hf, e⟩ := hasF_of g
  have q := h.fo f hf
  cases f with
  | int y j =>
    obtain ⟨e1, e2⟩ := He.ba e
    have e1 : x = y := of_decide_eq_true e1
    have e2 : i = j := of_decide_eq_true e2
    subst e1 e2
    obtain ⟨g, k1, k2⟩ := h.gx
    exact He.int_ok k1 k2 q
  | _ => cases e
theorem Bd.str {X : Cx} {z : Str} (h : Bd c X) (g : hasF (isStr x z) c.fa = true) : ∃ t, X.mg x = some (.str z t) := by
  obtain ⟨f, hf, e⟩ := hasF_of g
  have q := h.fo f hf
  cases f with
  | str y w =>
    obtain ⟨e1, e2⟩ := He.ba e
    have e1 : x = y := of_decide_eq_true e1
    have e2 : z = w := of_decide_eq_true e2
    subst e1 e2
    obtain ⟨g, k1, k2⟩ := h.gx
    exact He.str_ok k1 k2 q
  | _ => cases e
theorem Bd.cls {X : Cx} (h : Bd c X) (g : hasF (isCls x) c.fa = true) : Cls c.K (He.ga c.K x) := by
  obtain ⟨f, hf, e⟩ := hasF_of g
  have q := h.fo f hf
  cases f with
  | cls y =>
    have e : x = y := of_decide_eq_true e
    subst e
    exact He.cls_ok q
  | _ => cases e
theorem Bd.noat {X : Cx} {m : Str} (h : Bd c X) (g : hasF (isNoat x m) c.fa = true) : NoAttr c.K (He.ga c.K x) m := by
  obtain ⟨f, hf, e⟩ := hasF_of g
  have q := h.fo f hf
  cases f with
  | noat y n =>
    obtain ⟨e1, e2⟩ := He.ba e
    have e1 : x = y := of_decide_eq_true e1
    have e2 : m = n := of_decide_eq_true e2
    subst e1 e2
    exact He.noat_ok q
  | _ => cases e
theorem Bd.meth {X : Cx} {m : Str} (h : Bd c X) (g : hasF (isMeth x m) c.fa = true) : Meth c.K (He.ga c.K x) m (He.ma c.K (He.ga c.K x) m) := by
  obtain ⟨f, hf, e⟩ := hasF_of g
  have q := h.fo f hf
  cases f with
  | meth y n =>
    obtain ⟨e1, e2⟩ := He.ba e
    have e1 : x = y := of_decide_eq_true e1
    have e2 : m = n := of_decide_eq_true e2
    subst e1 e2
    exact He.meth_ok q
  | _ => cases e
theorem Bd.mkr {X : Cx} (h : Bd c X) (g : hasF (isMkr x) c.fa = true) : Mk c.K (He.ga c.K x) (He.ma c.K (He.ga c.K x) "__init__") := by
  obtain ⟨f, hf, e⟩ := hasF_of g
  have q := h.fo f hf
  cases f with
  | mkr y =>
    have e : x = y := of_decide_eq_true e
    subst e
    exact He.mkr_ok q
  | _ => cases e
/-- a class, a def as a value -/
theorem gglo (hg : GlN c x := by rfl) (h : hasF (isGlo x) c.fa = true := by rfl) (hd : (x == ("__debug__" : Str)) = false := by decide) : GE c (.Name x pos) (tC (.ref (He.ga c.K x))) := fun X b =>
  pe_glob (b.gln hg) (b.glo h) rfl hd
theorem gint {i : Int} (hg : GlN c x := by rfl) (h : hasF (isInt x i) c.fa = true := by rfl) (hd : (x == ("__debug__" : Str)) = false := by decide) : GE c (.Name x pos) (tC (.int i)) := fun X b => by
  obtain ⟨t, e⟩ := b.int h
  exact pe_glob (b.gln hg) e ⟨t, rfl⟩ hd
theorem gstr {z : Str} (hg : GlN c x := by rfl) (h : hasF (isStr x z) c.fa = true := by rfl) (hd : (x == ("__debug__" : Str)) = false := by decide) : GE c (.Name x pos) (tC (.str z)) := fun X b => by
  obtain ⟨t, e⟩ := b.str h
  exact pe_glob (b.gln hg) e ⟨t, rfl⟩ hd
/-- a built-in class as a value -/
theorem gty (n : String) (hv : bootBuiltins x = some (.type n) := by decide +kernel) (hg : GlN c x := by rfl) (h : hasF (isFree x) c.fa = true := by rfl) (hn : x ≠ "__name__" := by decide) (hd : (x == ("__debug__" : Str)) = false := by decide) : GE c (.Name x pos) (tC (.ty n)) := fun X b =>
  pe_bltn (b.gln hg) (b.free h) hv rfl hn hd
end
end Rw

namespace Rw
open PySem PySem.Spec PyProof.Rows L2
section
variable {c : Cn} {a b e o : Expr} {es : List Expr} {ta tb tc te to : TE} {t u : TT} {tA tK : TA} {pos apos p : Pos} {x : Str}

/-! ### operators -/
def rAddU : R2 := fun x y H Q => match x, y with
  | .int i, .int j => Q (.int (i + j)) H
  | .str i, .str j => i.length + j.length ≤ sizeLine ∧ Q (.str (i ++ j)) H
  | .ref l, .ref m => (∃ xs zs, H l = some (.lst xs) ∧ H m = some (.lst zs) ∧ xs.length + zs.length ≤ sizeLine ∧ ∀ p, H p = none → Q (.ref p) (upd H p (.lst (xs ++ zs)))) 
  | _, _ => False
theorem o_add {X : Cx} : OpR X (binaryOp .Add) rAddU := fun pins s σ H x y v u Q I rx ry h => by
  cases x <;> cases y <;> first | exact (show False from h).elim | skip
  · exact op_add pins s σ H _ _ v u Q I rx ry ⟨_, _, rfl, rfl, h⟩
  · exact op_add_str pins s σ H _ _ v u Q I rx ry ⟨_, _, rfl, rfl, h.1, h.2⟩
  · obtain ⟨xs, zs, h1, h2, h3, h4⟩ := h
    exact op_cat pins s σ H _ _ v u Q I rx ry ⟨_, _, _, _, rfl, rfl, h1, h2, h3, h4⟩
/-- a tuple and a tuple -/
theorem o_addT {X : Cx} : OpR X (binaryOp .Add) (rCatT X.K) := op_catT
def rSubU : R2 := rI0 fun i j => .int (i - j)
def rMulU : R2 := fun x y H Q => match x, y with
  | .int i, .int j => CMul i j ∧ Q (.int (i * j)) H
  | .ref l, .int k => ∃ xs, H l = some (.lst xs) ∧ -(2 ^ 63) ≤ k ∧ k < 2 ^ 63 ∧ xs.length * k.toNat ≤ sizeLine ∧ ∀ p, H p = none → Q (.ref p) (upd H p (.lst (List.replicate k.toNat xs).flatten))
  | _, _ => False
theorem o_mul {X : Cx} : OpR X (binaryOp .Mult) rMulU := fun pins s σ H x y v u Q I rx ry h => by
  cases x <;> cases y <;> first | exact (show False from h).elim | skip
  · exact op_mul pins s σ H _ _ v u Q I rx ry ⟨_, _, rfl, rfl, h.1, h.2⟩
  · obtain ⟨xs, h1, h2, h3, h4, h5⟩ := h
    exact op_rep pins s σ H _ _ v u Q I rx ry ⟨_, _, _, rfl, rfl, h1, h2, h3, h4, h5⟩
def rDivU : R2 := rI CDiv fun i j => .int (i / j)
def rModU : R2 := rI (fun _ j => 0 < j) fun i j => .int (i % j)
def rPowU : R2 := rI CPow fun i j => .int (i ^ j.toNat)
theorem g_add (ha : GE c a ta) (hb : GE c b tb) : GE c (.BinOp a .Add b pos) (tOp rAddU ta tb) := fun X h => pe_op o_add (ha X h) (hb X h)
theorem g_addT (ha : GE c a ta) (hb : GE c b tb) : GE c (.BinOp a .Add b pos) (tOp (rCatT c.K) ta tb) := fun X h => by
  have := pe_op (pos := pos) (o_addT (X := X)) (ha X h) (hb X h)
  rw [h.hK] at this
  exact this
theorem g_sub (ha : GE c a ta) (hb : GE c b tb) : GE c (.BinOp a .Sub b pos) (tOp rSubU ta tb) := fun X h => pe_op op_sub (ha X h) (hb X h)
theorem g_mul (ha : GE c a ta) (hb : GE c b tb) : GE c (.BinOp a .Mult b pos) (tOp rMulU ta tb) := fun X h => pe_op o_mul (ha X h) (hb X h)
theorem g_div (ha : GE c a ta) (hb : GE c b tb) : GE c (.BinOp a .FloorDiv b pos) (tOp rDivU ta tb) := fun X h => pe_op op_fdiv (ha X h) (hb X h)
theorem g_mod (ha : GE c a ta) (hb : GE c b tb) : GE c (.BinOp a .Mod b pos) (tOp rModU ta tb) := fun X h => pe_op op_mod (ha X h) (hb X h)
theorem g_pow (ha : GE c a ta) (hb : GE c b tb) : GE c (.BinOp a .Pow b pos) (tOp rPowU ta tb) := fun X h => pe_op op_pow (ha X h) (hb X h)
def rNegU : V → Hp → VK → Prop := rU fun i => .int (-i)
theorem g_neg (ha : GE c a ta) : GE c (.UnaryOp .USub a pos) (tUn rNegU ta) := fun X h => pe_un un_neg (ha X h)

/-! ### comparisons -/
/-! scalars, or data of any depth; a dict and an empty one -/
def rEqE : R2 := fun x y H Q => ∃ (a b : Addr) (ks : List (Key × V)), x = .ref a ∧ y = .ref b ∧ H a = some (.dK ks) ∧ H b = some (.dK []) ∧ Q (.bl (decide (ks = []))) H
def rNeE : R2 := fun x y H Q => ∃ (a b : Addr) (ks : List (Key × V)), x = .ref a ∧ y = .ref b ∧ H a = some (.dK ks) ∧ H b = some (.dK []) ∧ Q (.bl (!decide (ks = []))) H
theorem op_eqE {X : Cx} (hu : X.A.units < cLine) : OpR X (compareOp .Eq) rEqE := by
  rintro pins s σ H _ _ v u Q I rx ry ⟨a, b, ks, rfl, rfl, ea, eb, q⟩
  obtain rfl : v = Value.ref a := rx
  obtain rfl : u = Value.ref b := ry
  obtain ⟨_, ya, va, ra, da⟩ := (show ObjOk X.prog X.w H s.heap a (.dK ks) from I.hok a _ ea)
  obtain ⟨_, yb, vb, rb, db⟩ := (show ObjOk X.prog X.w H s.heap b (.dK []) from I.hok b _ eb)
  have l0 : vb.length = 0 := rb.length.symm
  have l1 : va.length = ks.length := ra.length.symm
  refine PySem.W.keq_eq (knd := mixKind X.prog X.w) (r := true) ya yb da db hu (fun e => ?_) (fin_bl I q ?_)
  · have z : va = [] := List.length_eq_zero_iff.mp (e.trans l0)
    rw [z]
    exact .nil
  · rw [l0, l1]
    cases ks <;> rfl
theorem op_neE {X : Cx} (hu : X.A.units < cLine) : OpR X (compareOp .NotEq) rNeE := by
  rintro pins s σ H _ _ v u Q I rx ry ⟨a, b, ks, rfl, rfl, ea, eb, q⟩
  obtain rfl : v = Value.ref a := rx
  obtain rfl : u = Value.ref b := ry
  obtain ⟨_, ya, va, ra, da⟩ := (show ObjOk X.prog X.w H s.heap a (.dK ks) from I.hok a _ ea)
  obtain ⟨_, yb, vb, rb, db⟩ := (show ObjOk X.prog X.w H s.heap b (.dK []) from I.hok b _ eb)
  have l0 : vb.length = 0 := rb.length.symm
  have l1 : va.length = ks.length := ra.length.symm
  refine PySem.W.keq_ne (knd := mixKind X.prog X.w) (r := true) ya yb da db hu (fun e => ?_) (fin_bl I q ?_)
  · have z : va = [] := List.length_eq_zero_iff.mp (e.trans l0)
    rw [z]
    exact .nil
  · rw [l0, l1]
    cases ks <;> rfl
def rEqU (K : PySem.W.Frag) : R2 := fun x y H Q => rEq x y H Q ∨ (rEqD K x y H Q ∨ rEqE x y H Q)
def rNeU (K : PySem.W.Frag) : R2 := fun x y H Q => rNe x y H Q ∨ (rNeD K x y H Q ∨ rNeE x y H Q)
theorem o_eq (X : Cx) (h : Bd c X) : OpR X (compareOp .Eq) (rEqU c.K) := by
  have := OpR.or (op_eq (X := X)) (OpR.or (op_eqD (X := X) (by have := h.un; omega)) (op_eqE (X := X) (by have := h.un; omega)))
  rw [h.hK] at this
  exact this
theorem o_ne (X : Cx) (h : Bd c X) : OpR X (compareOp .NotEq) (rNeU c.K) := by
  have := OpR.or (op_ne (X := X)) (OpR.or (op_neD (X := X) (by have := h.un; omega)) (op_neE (X := X) (by have := h.un; omega)))
  rw [h.hK] at this
  exact this
def rLtU : R2 := rI0 fun i j => .bl (decide (i < j))
def rLeU : R2 := rI0 fun i j => .bl (decide (i ≤ j))
def rGtU : R2 := rI0 fun i j => .bl (decide (j < i))
def rGeU : R2 := rI0 fun i j => .bl (decide (j ≤ i))
def rIsU : R2 := fun x y H Q => y = .non ∧ Q (.bl (decide (x = .non))) H
def rIsntU : R2 := fun x y H Q => y = .non ∧ Q (.bl (!decide (x = .non))) H
/-- in: a list or tuple of flat values; a sign in a text; a key of a dict -/
def rInU (K : PySem.W.Frag) : R2 := fun x y H Q => rIn K false x y H Q ∨ (∃ (n : Nat) (z : Str), x = .str ⟨#[n]⟩ ∧ y = .str z ∧ Q (.bl (decide (n ∈ z.cps.toList))) H) ∨ ∃ d r, y = .ref d ∧ DGet H d x r ∧ Q (.bl r.isSome) H
def rNinU (K : PySem.W.Frag) : R2 := fun x y H Q => rIn K true x y H Q ∨ (∃ (n : Nat) (z : Str), x = .str ⟨#[n]⟩ ∧ y = .str z ∧ Q (.bl (!decide (n ∈ z.cps.toList))) H) ∨ ∃ d r, y = .ref d ∧ DGet H d x r ∧ Q (.bl (!r.isSome)) H
theorem o_inD {X : Cx} (hu : X.A.units + 1 < cLine) : OpR X (compareOp .In) (fun x y H Q => ∃ d r, y = .ref d ∧ DGet H d x r ∧ Q (.bl r.isSome) H) := fun pins s σ H x y v u Q I rx ry h => by
  obtain ⟨d, r, ey, g, q⟩ := h
  subst ey
  cases ry
  exact d_in hu I g rx fun s' I' => ⟨.bl _, H, I', rfl, q⟩
theorem o_ninD {X : Cx} (hu : X.A.units + 1 < cLine) : OpR X (compareOp .NotIn) (fun x y H Q => ∃ d r, y = .ref d ∧ DGet H d x r ∧ Q (.bl (!r.isSome)) H) := fun pins s σ H x y v u Q I rx ry h => by
  obtain ⟨d, r, ey, g, q⟩ := h
  subst ey
  cases ry
  exact d_notIn hu I g rx fun s' I' => ⟨.bl _, H, I', rfl, q⟩
theorem o_in (X : Cx) (h : Bd c X) : OpR X (compareOp .In) (rInU c.K) := by
  have := OpR.or (op_in_seq (X := X)) (OpR.or (op_in_sign (X := X)) (o_inD (X := X) (by have := h.un; omega)))
  rw [h.hK] at this
  exact this
theorem o_nin (X : Cx) (h : Bd c X) : OpR X (compareOp .NotIn) (rNinU c.K) := by
  have := OpR.or (op_notIn_seq (X := X)) (OpR.or (op_notIn_sign (X := X)) (o_ninD (X := X) (by have := h.un; omega)))
  rw [h.hK] at this
  exact this
/-- a comparison by its rule: CO names it -/
inductive CO (c : Cn) : CmpOp → R2 → Prop
  | eq : CO c .Eq (rEqU c.K)
  | ne : CO c .NotEq (rNeU c.K)
  | lt : CO c .Lt rLtU
  | le : CO c .LtE rLeU
  | gt : CO c .Gt rGtU
  | ge : CO c .GtE rGeU
  | isn : CO c .Is rIsU
  | isnt : CO c .IsNot rIsntU
  | inn : CO c .In (rInU c.K)
  | nin : CO c .NotIn (rNinU c.K)
theorem CO.ok {op : CmpOp} {r : R2} (k : CO c op r) (X : Cx) (h : Bd c X) : OpR X (compareOp op) r := by
  cases k with
  | eq => exact o_eq X h
  | ne => exact o_ne X h
  | lt => exact op_lt
  | le => exact op_le
  | gt => exact op_gt
  | ge => exact op_ge
  | isn => exact op_isN
  | isnt => exact op_notN
  | inn => exact o_in X h
  | nin => exact o_nin X h
theorem g_cmp {op : CmpOp} {r : R2} (k : CO c op r) (ha : GE c a ta) (hb : GE c b tb) (hm : behindInMarks op b = false := by rfl) : GE c (.Compare a [op] [b] pos) (tOp r ta tb) := fun X h => pe_cmpR (k.ok X h) (ha X h) (hb X h) hm
theorem gt_cmp {op : CmpOp} {r : R2} (k : CO c op r) (ha : GE c a ta) (hb : GE c b tb) (hm : behindInMarks op b = false := by rfl) : GT c (.Compare a [op] [b] pos) (tTest (tOp r ta tb)) := fun X h => pt_cmpR (k.ok X h) (ha X h) (hb X h) hm

theorem g_chain {op op' : CmpOp} {r r' : R2} {d : Expr} (k : CO c op r) (k' : CO c op' r') (ha : GE c a ta) (hb : GE c b tb) (hd : GE c d tc) (hm : lastMarks [op, op'] [b, d] = false := by with_unfolding_all rfl) :
    GE c (.Compare a [op, op'] [b, d] pos) (tChain r r' ta tb tc) := fun X h => pe_chain (k.ok X h) (k'.ok X h) (ha X h) (hb X h) (hd X h) hm
theorem gt_chain {op op' : CmpOp} {r r' : R2} {d : Expr} (k : CO c op r) (k' : CO c op' r') (ha : GE c a ta) (hb : GE c b tb) (hd : GE c d tc) (hm : lastMarks [op, op'] [b, d] = false := by with_unfolding_all rfl) :
    GT c (.Compare a [op, op'] [b, d] pos) (tTest (tChain r r' ta tb tc)) := fun X h => pt_chain (k.ok X h) (k'.ok X h) (ha X h) (hb X h) (hd X h) hm

/-! ### truth -/
def tTru (K : PySem.W.Frag) (ta : TE) : TT := fun σ H Q => ta σ H fun x H1 => ∃ k, TruV K x H1 k ∧ Q k H1
theorem gt_val (ha : GE c a ta) (he : ∀ env whole, isTrue a env whole = (do let v ← whole; standAt a.pos; holding [v] (truthy v)) := by intro _ _; rfl) : GT c a (tTru c.K ta) := fun X h => by
  have := pt_truth (ha X h) (fun whole => he X.env whole)
  rw [h.hK] at this
  exact this
theorem gw_and1 (ha : GT c a t) : GW c (.BoolOp .And [a] pos) t := fun X h => pw_and1 (ha X h)
theorem gw_or1 (ha : GT c a t) : GW c (.BoolOp .Or [a] pos) t := fun X h => pw_or1 (ha X h)
theorem gw_and {rest : List Expr} (ha : GT c a t) (hb : GW c (.BoolOp .And (b :: rest) pos) u) : GW c (.BoolOp .And (a :: b :: rest) pos) (tAnd t u) := fun X h => pw_and (ha X h) (hb X h)
theorem gw_or {rest : List Expr} (ha : GT c a t) (hb : GW c (.BoolOp .Or (b :: rest) pos) u) : GW c (.BoolOp .Or (a :: b :: rest) pos) (tOr t u) := fun X h => pw_or (ha X h) (hb X h)
theorem gt_bool (h : GW c e t) : GT c e t := fun X b => (h X b).pt
theorem gt_not (ha : GT c a t) : GT c (.UnaryOp .Not a pos) (tNot t) := fun X h => pt_not (ha X h)
theorem g_one {op} (ha : GE c a ta) : GE c (.BoolOp op [a] pos) ta := fun X h => pe_one (ha X h)
theorem g_and {rest : List Expr} (ha : GE c a ta) (hb : GE c (.BoolOp .And (b :: rest) pos) tb) : GE c (.BoolOp .And (a :: b :: rest) pos) (tAndT c.K ta tb) := fun X h => by
  have := pe_andT (ha X h) (hb X h)
  rw [h.hK] at this
  exact this
theorem g_or {rest : List Expr} (ha : GE c a ta) (hb : GE c (.BoolOp .Or (b :: rest) pos) tb) : GE c (.BoolOp .Or (a :: b :: rest) pos) (tOrT c.K ta tb) := fun X h => by
  have := pe_orT (ha X h) (hb X h)
  rw [h.hK] at this
  exact this
theorem g_not (ha : GE c a ta) : GE c (.UnaryOp .Not a pos) (tNotT c.K ta) := fun X h => by
  have := pe_notT (pos := pos) (ha X h)
  rw [h.hK] at this
  exact this
theorem g_if {d : Expr} (hc : GT c d t) (ha : GE c a ta) (hb : GE c b tb) : GE c (.IfExp d a b pos) (tIf t ta tb) := fun X h => pe_ifExp (hc X h) (ha X h) (hb X h)

/-! ### argument lists, displays -/
theorem ga_nil : GA c [] tNil := fun _ _ => pa_nil
theorem ga_cons (ha : GE c e te) (hr : GA c es tA) (hs : ∀ env, starEach (e :: es) env = (false, eval e env) :: starEach es env := by intro _; rfl) : GA c (e :: es) (tCons te tA) := fun X h => pa_cons (ha X h) (hr X h) (hs X.env)
theorem gk_nil : GK c [] tNil := fun _ _ => pk_nil
theorem gk_cons {nm : Option Str} {kp : Pos} {kws : List Keyword} (ha : GE c e te) (hr : GK c kws tK) : GK c (⟨nm, e, kp⟩ :: kws) (tCons te tK) := fun X h => pk_cons (ha X h) (hr X h)
theorem g_tup {k : Nat} (h : GA c es tA) : GE c (.Tuple es k pos) (tTup tA) := fun X b => pe_tup (h X b)
theorem g_lst (h : GA c es tA) : GE c (.List es pos) (tLst tA) := fun X b => pe_lst (h X b)
def tDnew : TE := fun _ H Q => ∀ p, H p = none → Q (.ref p) (upd H p (.dK []))
def GP (c : Cn) (p : Pos) (ks : List (Option Expr)) (vs : List Expr) (trs : List (TE × TE)) : Prop := ∀ X, Bd c X → PPs X p ks vs trs
theorem gp_nil : GP c pos [] [] [] := fun _ _ => pps_nil
theorem gp_cons {k v : Expr} {ks : List (Option Expr)} {vs : List Expr} {tk tv : TE} {trs : List (TE × TE)} (hk : GE c k tk) (hv : GE c v tv) (hr : GP c pos ks vs trs) : GP c pos (some k :: ks) (v :: vs) ((tk, tv) :: trs) := fun X h => pps_cons (hk X h) (hv X h) (hr X h)

/-! ### subscripts -/
theorem PlainIx.mk' {d : Expr} (h : ∀ o i, subscripted d false o i = operate [o, i] (getItem o i)) : PlainIx d := h
/-- a[i]: of a list, a tuple, a text, by an int; of a dict, by a key -/
def rSubU' (K : PySem.W.Frag) : R2 := fun x y H Q => rIx K x y H Q ∨ ∃ d v, x = .ref d ∧ DGet H d y (some v) ∧ Q v H
theorem ix_dict {X : Cx} (hu : X.A.units + 1 < cLine) : IxR X (fun x y H Q => ∃ d v, x = .ref d ∧ DGet H d y (some v) ∧ Q v H) := by
  intro value slice pins s σ H x y v u Q I rx ry h hs
  obtain ⟨d, v0, ex, g, q⟩ := h
  subst ex
  cases rx
  have hty := dict_typeIs I g
  unfold subscriptTail
  refine wpAny_bind ?_
  rw [getitemInPython_of_ne hty.not_modules]
  refine wpAny_bind (wpAny_specialOf hty PySem.F.slot_dict_getitem.lookup ?_)
  have done : wpAny (model X.prog X.w) X.A (subscripted slice false (Value.ref d) u) (fun r s3 => wpAny (model X.prog X.w) X.A (letTemporaryGo value (Value.ref d) r >>= fun _ => pure r) (EP X pins σ Q) X.xe s3) X.xe s := by
    rw [hs]
    exact wpAny_operating (thn (d_getItem hu I g ry fun w2 s2 I2 rw2 => (⟨v0, H, I2, rw2, q⟩ : EP X pins σ Q w2 s2)) fun r s3 z => wpAny_bind (wpAny_letTemporaryGo (wpAny_pure z)))
  first
    | exact wpAny_pure (wpAny_bind done)
    | exact wpAny_bind (wpAny_pure (wpAny_bind done))
    | exact wpAny_bind done
theorem ix_all (X : Cx) (h : Bd c X) : IxR X (rSubU' c.K) := by
  have := IxR.or (ix_seq (X := X)) (ix_dict (X := X) (by have := h.un; omega))
  rw [h.hK] at this
  exact this
theorem g_ix (ha : GE c a ta) (hb : GE c b tb) (hs : ∀ o i, subscripted b false o i = operate [o, i] (getItem o i) := by intro _ _; rfl) : GE c (.Subscript a b pos) (tOp (rSubU' c.K) ta tb) := fun X h => pe_ix (ix_all X h) (ha X h) (hb X h) hs
/-- a slice of a list, a text, a tuple -/
def rSlU (K : PySem.W.Frag) : V → Option Int → Option Int → Hp → VK → Prop := fun x lo hi H Q => rSlL K x lo hi H Q ∨ rSlS x lo hi H Q ∨ rSlT K x lo hi H Q
theorem go_none : GO c none tNoPart := fun _ _ => po_none
theorem go_some (h : GE c e te) : GO c (some e) (tPart te) := fun X b => po_some (h X b)
theorem g_slice {lo hi : Option Expr} {tl th : TO} {p2 : Pos} (he : GE c e te) (hl : GO c lo tl) (hu : GO c hi th) : GE c (.Subscript e (.Slice lo hi none p2) pos) (tSl (rSlU c.K) te tl th) := fun X h => by
  have := pe_slice (pos := pos) (p2 := p2) (SlR.or (sl_list (X := X)) (SlR.or (sl_str (X := X)) (sl_tup (X := X)))) (he X h) (hl X h) (hu X h)
  rw [h.hK] at this
  exact this

/-! ### attributes -/
/-- an attribute of an instance; C: its class's name -/
def tAttr (K : PySem.W.Frag) (fa : List He.Fa) (ta : TE) (f : Str) : TE := fun σ H Q => ta σ H fun x H1 => ∃ (d : Addr) (C : Str) (dx : Addr) (fs : List (Str × V)) (v : V), x = .ref d ∧ H1 d = some (.ins (He.ga K C) dx fs) ∧
  hasF (isCls C) fa = true ∧ hasF (isNoat C f) fa = true ∧ fs.lookup f = some v ∧ Q v H1
theorem g_attr {f : Str} (ha : GE c a ta) (hb : ∀ env w, attributeBase a f env w = w := by intro _ _; rfl) : GE c (.Attribute a f pos) (tAttr c.K c.fa ta f) := fun X h => ⟨fun pins s σ H Q I hq => by
  refine attr_of (hb X.env _) (thn ((ha X h).run pins s σ H _ I hq) fun u s1 ⟨x, H1, I1, rx, d, C, dx, fs, v, ex, ea, k1, k2, l, q⟩ => ?_)
  subst ex
  cases rx
  have cl := h.cls k1
  have na := h.noat k2
  rw [← h.hK] at ea cl na
  exact getattr_ok I1 ea cl na l fun u' s2 I2 ru => ⟨v, H1, I2, ru, q⟩⟩

/-! ### methods of built-in types -/
structure BMt (c : Cn) (T : String) (name : Str) (id : String) (r : V → List V → Hp → VK → Prop) : Prop where
  pa : PlainAttrs T
  slot : Slot T name id
  ty : typeOf (.builtin id) = pure (.type "method_descriptor")
  mt : ∀ X, Bd c X → MtR X id r
theorem g_bm0 {T id : String} {name : Str} {r : V → List V → Hp → VK → Prop} (m : BMt c T name id r) (ho : GE c o to) (hb : ∀ env w, attributeBase o name env w = w := by intro _ _; rfl) (hl : (apos.endLine == pos.line) = true := by rfl) :
    GE c (.Call (.Attribute o name apos) [] [] pos) (tBM0 c.K T r to) := fun X h => by
  have := pe_bm0 (apos := apos) (cpos := pos) m.pa m.slot m.ty (m.mt X h) (ho X h) (hb X.env _) hl
  rw [h.hK] at this
  exact this
theorem g_bm {T id : String} {name : Str} {r : V → List V → Hp → VK → Prop} (m : BMt c T name id r) (ho : GE c o to) (ha : GA c (e :: es) tA) (hb : ∀ env w, attributeBase o name env w = w := by intro _ _; rfl)
    (hfew : ∀ env, ((backTo pos (starEach (e :: es) env)).all (fun x => !x.1) && (backToKw pos (keywordEach [] env)).all (fun x => x.1.isSome)
      && decide ((e :: es).length + ([] : List Keyword).length + (if ([] : List Keyword).isEmpty then 0 else 1) < 30)) = true := by intro _; rfl)
    (hl : (apos.endLine == pos.line) = true := by rfl) (hs : ∀ env, starEach (e :: es) env = (false, eval e env) :: starEach es env := by intro _; rfl) (hp : ∀ env, (backTo pos (starEach es env)).any (·.1) = false := by intro _; rfl) :
    GE c (.Call (.Attribute o name apos) (e :: es) [] pos) (tBM c.K T r to tA) := fun X h => by
  have := pe_bm (apos := apos) (cpos := pos) m.pa m.slot m.ty (m.mt X h) (ho X h) (ha X h) (hb X.env _) (hfew X.env) hl (hs X.env) (hp X.env)
  rw [h.hK] at this
  exact this
theorem m_append : BMt c "list" "append" "list.append" rAppend := ⟨PySem.F.plainAttrs_list, PySem.F.slot_list_append, PySem.F.type_list_append, fun _ _ => mt_append⟩
theorem m_extend : BMt c "list" "extend" "list.extend" rExtend := ⟨PySem.F.plainAttrs_list, PySem.F.slot_list_extend, PySem.F.type_list_extend, fun _ _ => mt_extend⟩
theorem m_pop : BMt c "list" "pop" "list.pop" rPop := ⟨PySem.F.plainAttrs_list, PySem.F.slot_list_pop, PySem.F.type_list_pop, fun _ _ => mt_pop⟩
theorem m_popAt : BMt c "list" "pop" "list.pop" rPopAt := ⟨PySem.F.plainAttrs_list, PySem.F.slot_list_pop, PySem.F.type_list_pop, fun _ _ => mt_popAt⟩
theorem m_reverse : BMt c "list" "reverse" "list.reverse" rReverse := ⟨PySem.F.plainAttrs_list, PySem.F.slot_list_reverse, PySem.F.type_list_reverse, fun _ _ => mt_reverse⟩
theorem m_clear : BMt c "list" "clear" "list.clear" rClear := ⟨PySem.F.plainAttrs_list, PySem.F.slot_list_clear, PySem.F.type_list_clear, fun _ _ => mt_clear⟩
/-- d.get(k), d.get(k, z) -/
def rDget : V → List V → Hp → VK → Prop := fun x vs H Q => ∃ d k r, x = .ref d ∧ ((vs = [k] ∧ DGet H d k r ∧ Q (r.getD .non) H) ∨ ∃ z, vs = [k, z] ∧ DGet H d k r ∧ Q (r.getD z) H)
theorem mt_dget {X : Cx} (hu : X.A.units + 1 < cLine) : MtR X "dict.get" rDget := fun pins s σ H x xs v us Q I rx r h => by
  obtain ⟨d, k, o, ex, h⟩ := h
  subst ex
  cases rx
  rcases h with ⟨ev, g, q⟩ | ⟨z, ev, g, q⟩
  · subst ev
    obtain ⟨u, eu, ru⟩ := Vals.one r
    subst eu
    exact d_get1 hu I g ru fun w2 s2 I2 rw2 => ⟨_, H, I2, rw2, q⟩
  · subst ev
    obtain ⟨u, u2, eu, ru, ru2⟩ := Vals.two r
    subst eu
    exact d_get2 hu I g ru ru2 fun w2 s2 I2 rw2 => ⟨_, H, I2, rw2, q⟩
theorem m_get : BMt c "dict" "get" "dict.get" rDget := ⟨PySem.F.plainAttrs_dict, PySem.F.slot_dict_get, PySem.F.type_dict_get, fun X h => mt_dget (by have := h.un; omega)⟩
/-- d.pop(k), there; d.pop(k, z) -/
def rDpop : V → List V → Hp → VK → Prop := fun x vs H Q => ∃ d kvs k, x = .ref d ∧ H d = some (.dK kvs) ∧ ((∃ v, vs = [kV k] ∧ valV kvs k = some v ∧ Q v (upd H d (.dK (dropK kvs k)))) ∨
  ∃ z, vs = [kV k, z] ∧ (∀ v, valV kvs k = some v → Q v (upd H d (.dK (dropK kvs k)))) ∧ (valV kvs k = none → Q z H))
theorem mt_dpop {X : Cx} : MtR X "dict.pop" rDpop := fun pins s σ H x xs v us Q I rx r h => by
  obtain ⟨d, kvs, k, ex, e, h⟩ := h
  subst ex
  cases rx
  rcases h with ⟨v0, ev, l, q⟩ | ⟨z, ev, q1, q2⟩
  · subst ev
    obtain ⟨u, eu, ru⟩ := Vals.one r
    subst eu
    exact d_pop I e ru l (.inl rfl) fun w2 s2 I2 rw2 => ⟨_, _, I2, rw2, q⟩
  · subst ev
    obtain ⟨u, u2, eu, ru, ru2⟩ := Vals.two r
    subst eu
    cases l : valV kvs k with
    | some v1 => exact d_pop I e ru l (.inr ⟨u2, rfl⟩) fun w2 s2 I2 rw2 => ⟨_, _, I2, rw2, q1 v1 l⟩
    | none => exact d_popD I e ru l fun s2 I2 => ⟨_, H, I2, ru2, q2 l⟩
theorem m_dpop : BMt c "dict" "pop" "dict.pop" rDpop := ⟨PySem.F.plainAttrs_dict, PySem.F.slot_dict_pop, PySem.F.type_dict_pop, fun _ _ => mt_dpop⟩
def rJoin (K : PySem.W.Frag) : V → List V → Hp → VK → Prop := fun x xs H Q => ∃ a p, ∃ ys : List Str, x = .str a ∧ xs = [.ref p] ∧ (SqL K H p (ys.map V.str) ∨ SqT K H p (ys.map V.str)) ∧ (ys.map (·.length)).sum + ys.length * a.length ≤ 16777216 ∧ Q (.str (Txt.join a ys)) H
theorem m_join : BMt c "str" "join" "str.join" (rJoin c.K) := ⟨PySem.F.plainAttrs_str, PySem.F.slot_str_join, PySem.F.type_str_join, fun X h => by
  have := mt_join (X := X)
  rw [h.hK] at this
  exact this⟩

/-! ### built-in functions and classes, called -/
structure BFn (c : Cn) (x : Str) (id : String) (r : List V → Hp → VK → Prop) : Prop where
  bt : bootBuiltins x = some (.builtin id)
  ok : ∀ X, Bd c X → CallR X (.builtin id) r
  nn : x ≠ "__name__"
  nd : (x == ("__debug__" : Str)) = false
structure BTy (c : Cn) (x : Str) (T : String) (r : List V → Hp → VK → Prop) : Prop where
  bt : bootBuiltins x = some (.type T)
  ok : ∀ X, Bd c X → CallR X (.type T) r
  nn : x ≠ "__name__"
  nd : (x == ("__debug__" : Str)) = false
theorem g_fn {id : String} {r : List V → Hp → VK → Prop} (f : BFn c x id r) (ha : GA c (e :: es) tA) (hg : GlN c x := by rfl) (hf : hasF (isFree x) c.fa = true := by rfl)
    (he : ∀ env, starEach (e :: es) env = (false, eval e env) :: starEach es env := by intro _; rfl) (hp : ∀ env, (backTo pos (starEach es env)).any (·.1) = false := by intro _; rfl) : GE c (.Call (.Name x p) (e :: es) [] pos) (tCB r tA) := fun X h =>
  pe_callB (f.ok X h) (h.gln hg) (h.free hf) f.bt (ha X h) f.nn f.nd (he X.env) (hp X.env)
theorem g_ty {T : String} {r : List V → Hp → VK → Prop} (f : BTy c x T r) (ha : GA c (e :: es) tA) (hg : GlN c x := by rfl) (hf : hasF (isFree x) c.fa = true := by rfl)
    (he : ∀ env, starEach (e :: es) env = (false, eval e env) :: starEach es env := by intro _; rfl) (hp : ∀ env, (backTo pos (starEach es env)).any (·.1) = false := by intro _; rfl) : GE c (.Call (.Name x p) (e :: es) [] pos) (tCB r tA) := fun X h =>
  pe_callTy (f.ok X h) (h.gln hg) (h.free hf) f.bt (ha X h) f.nn f.nd (he X.env) (hp X.env)
/-- len -/
def LenU (K : PySem.W.Frag) (x : V) (H : Hp) (n : Nat) : Prop := LenV K x H n ∨ ∃ d kvs, x = .ref d ∧ Rd H d (.dK kvs) ∧ n = kvs.length
def rLenU (K : PySem.W.Frag) : List V → Hp → VK → Prop := fun xs H Q => ∃ x n, xs = [x] ∧ LenU K x H n ∧ Q (.int n) H
theorem f_len : BFn c "len" "len" (rLenU c.K) := ⟨by decide +kernel, fun X h => by
  intro pins s σ H xs us Q I r hq
  obtain ⟨x, n, ex, l, q⟩ := hq
  subst ex
  rw [← h.hK] at l
  rcases l with l | ⟨d, kvs, ey, hr, en⟩
  · exact call_len pins s σ H _ us Q I r ⟨x, n, rfl, l, q⟩
  · subst ey en
    obtain ⟨u, eu, ru⟩ := vals1 r
    subst eu
    cases ru
    exact d_len I hr fun t s2 I2 => ⟨.int kvs.length, H, I2, ⟨t, rfl⟩, q⟩, by decide, by decide⟩
/-- isinstance of one class; of a tuple of classes that was just laid -/
def rInst (K : PySem.W.Frag) : List V → Hp → VK → Prop := fun xs H Q => rIsi K xs H Q ∨ rIsiT K xs H Q
theorem f_isi : BFn c "isinstance" "isinstance" (rInst c.K) := ⟨by decide +kernel, fun X h => by
  have := CallR.or (call_isi (X := X)) (call_isiT (X := X))
  rw [h.hK] at this
  exact this, by decide, by decide⟩
def rAbsU : List V → Hp → VK → Prop := fun xs H Q => ∃ i, xs = [.int i] ∧ Q (.int (if i < 0 then -i else i)) H
theorem f_abs : BFn c "abs" "abs" rAbsU := ⟨by decide +kernel, fun X _ => call_abs, by decide, by decide⟩
def rMax2U : List V → Hp → VK → Prop := fun xs H Q => ∃ i j, xs = [.int i, .int j] ∧ Q (.int (if j > i then j else i)) H
def rMin2U : List V → Hp → VK → Prop := fun xs H Q => ∃ i j, xs = [.int i, .int j] ∧ Q (.int (if j < i then j else i)) H
theorem f_max2 (hc : c.hot = false := by rfl) : BFn c "max" "max" rMax2U := ⟨by decide +kernel, fun X h => call_max2 (h.calm hc), by decide, by decide⟩
theorem f_min2 (hc : c.hot = false := by rfl) : BFn c "min" "min" rMin2U := ⟨by decide +kernel, fun X h => call_min2 (h.calm hc), by decide, by decide⟩
/-- divmod by a positive number of few digits -/
def rDmU : List V → Hp → VK → Prop := fun xs H Q => ∃ i j, xs = [.int i, .int j] ∧ (0 < j ∧ j.natAbs.log2 < 9000) ∧ ∀ p, H p = none → Q (.ref p) (upd H p (.tup [.int (i / j), .int (i % j)]))
theorem f_divmod : BFn c "divmod" "divmod" rDmU := ⟨by decide +kernel, fun X _ => by
  intro pins s σ H xs us Q I r hq
  obtain ⟨i, j, ex, hj, q⟩ := hq
  exact call_divmodW pins s σ H xs us Q I r ⟨i, j, ex, ⟨hj.1, PyProof.noPylong_of_log2 hj.2⟩, q⟩, by decide, by decide⟩
theorem f_all (hc : c.hot = false := by rfl) : BFn c "all" "all" (rAll c.K) := ⟨by decide +kernel, fun X h => by
  have := cr_all (X := X) (h.calm hc)
  rw [h.hK] at this
  exact this, by decide, by decide⟩
theorem f_any (hc : c.hot = false := by rfl) : BFn c "any" "any" (rAny c.K) := ⟨by decide +kernel, fun X h => by
  have := cr_any (X := X) (h.calm hc)
  rw [h.hK] at this
  exact this, by decide, by decide⟩
/-! repr of data -/
mutual
theorem Dp.plain {K : PySem.W.Frag} {H : Hp} : ∀ (d : PyData) (v : V), Dp K H v d → d.hasDict = false
  | .none, _, _ => by simp only [PyData.hasDict]
  | .bool _, _, _ => by simp only [PyData.hasDict]
  | .int _, _, _ => by simp only [PyData.hasDict]
  | .str _, _, _ => by simp only [PyData.hasDict]
  | .list ds, _, h => by
    cases h with
    | lst _ ha => simp only [PyData.hasDict]; exact Dp.plainAll ds _ ha
  | .tuple ds, _, h => by
    cases h with
    | tup _ ha => simp only [PyData.hasDict]; exact Dp.plainAll ds _ ha
  | .dict _, _, h => by cases h
theorem Dp.plainAll {K : PySem.W.Frag} {H : Hp} : ∀ (ds : List PyData) (vs : List V), DpAll K H vs ds → PyData.hasDictAll ds = false
  | [], _, _ => by simp only [PyData.hasDictAll]
  | d :: ds, _, h => by
    cases h with
    | cons h1 h2 => simp only [PyData.hasDictAll, Dp.plain d _ h1, Dp.plainAll ds _ h2, Bool.or_false]
end
def rRepr (K : PySem.W.Frag) : List V → Hp → VK → Prop := fun xs H Q => ∃ x d, xs = [x] ∧ Dp K H x d ∧ d.showable = true ∧ d.depth ≤ 100 ∧ d.shown.length ≤ sizeLine ∧ Q (.str d.shown) H
theorem f_repr : BFn c "repr" "repr" (rRepr c.K) := ⟨by decide +kernel, fun X h => by
  intro pins s σ H xs us Q I r hq
  obtain ⟨x, d, ex, hd, sh, dp, sz, q⟩ := hq
  subst ex
  obtain ⟨u, eu, ru⟩ := vals1 r
  subst eu
  rw [← h.hK] at hd
  have un := h.un
  obtain ⟨as, rd⟩ := Dp.reads I d x u hd ru
  have nod := Dp.plain d x hd
  cases hd with
  | non =>
    cases ru
    exact PySem.P.repr_of_none ⟨.str _, H, I.tok _, ⟨_, rfl⟩, q⟩
  | bl b =>
    cases ru
    refine PySem.P.repr_of_bool ⟨.str _, H, I.tok _, ⟨_, rfl⟩, ?_⟩
    cases b <;> exact q
  | int i =>
    obtain ⟨t, eu⟩ := ru
    subst eu
    exact PySem.P.repr_of_int (of_decide_eq_true sh) ⟨.str _, H, I.tok _, ⟨_, rfl⟩, q⟩
  | str z =>
    obtain ⟨t, eu⟩ := ru
    subst eu
    exact PySem.P.repr_of_str ⟨.str _, H, I.tok _, ⟨_, rfl⟩, q⟩ sz
  | lst hs ha =>
    cases ru
    exact repr_of_reads' rd sh (PyData.noDict_hsm nod) h.gu (by omega) (fun _ _ z => z) (fun h2 u2 tk k => ⟨.str _, H, I.kept k, ⟨_, rfl⟩, q⟩) sz
  | tup hs ha =>
    cases ru
    exact repr_of_reads' rd sh (PyData.noDict_hsm nod) h.gu (by omega) (fun _ _ z => z) (fun h2 u2 tk k => ⟨.str _, H, I.kept k, ⟨_, rfl⟩, q⟩) sz, by decide, by decide⟩
end
end Rw

namespace Rw
open PySem PySem.Spec PyProof.Rows L2
section
variable {c : Cn} {a b e o : Expr} {es : List Expr} {kws : List Keyword} {ta tb tc te to : TE} {t u : TT} {tA tK : TA} {pos apos p : Pos} {x m : Str} {ks : List Str}

/-! ### calls of the text's own defs -/
def isShp (k : Ky) (n : Nat) (ks : List Str) (s : Shp) : Bool := decide (s.key = k) && (decide (s.n = n) && decide (s.ks = ks))
def shpOf (sh : List Shp) (k : Ky) (n : Nat) (ks : List Str) : Option Shp := sh.find? (isShp k n ks)
theorem shpOf_ok {sh : List Shp} {k : Ky} {n : Nat} {s : Shp} (h : shpOf sh k n ks = some s) : s ∈ sh ∧ s.key = k ∧ s.n = n ∧ s.ks = ks := by
  have h1 := List.find?_some h
  obtain ⟨e1, h2⟩ := He.ba h1
  obtain ⟨e2, e3⟩ := He.ba h2
  exact ⟨List.mem_of_find?_eq_some h, of_decide_eq_true e1, of_decide_eq_true e2, of_decide_eq_true e3⟩
theorem run_g {X : Cx} (h : Bd c X) (hc : c.hot = false) {s : Shp} (hs : s ∈ c.sh) {pins : List (Addr × Obj)} {σ : L2.St} {H : Hp} {st : Shared} {Q : VK} {us ws : List Value} {vs zs : List V} (I : Inv X pins σ H st) (r : Vals vs us) (rz : Vals zs ws)
    (l1 : vs.length = s.n) (l2 : zs.length = s.ks.length) (hq : c.Ph s.key (plug c.K s.plan vs zs) H Q (WE c.W σ)) :
    wpAny (model X.prog X.w) X.A (call (.ref (He.fAd c.K s.key)) us (s.ks.zip ws)) (EP X pins σ Q) X.xe st := by
  obtain ⟨k, room, all⟩ := h.fns hc
  obtain ⟨fd, ps, g, F, kb⟩ := (all s hs).ex
  have bt := kb.to st us ws I.kIn (r.length.symm.trans l1) (rz.length.symm.trans l2)
  refine wpAny_call (codeAny_mono (F.run X.A X.stack st H ⟨us, s.ks.zip ws⟩ _ _ Q (WE c.W σ) (room.mono (Nat.le_succ _)) h.gu I.env0 bt (kb.rel r rz) hq) fun res s2 z => ?_)
  cases res with
  | error er => exact passAt h.tk σ pins H st er s2 I z
  | ok fl =>
    cases fl with
    | ret u => exact I.after z
    | next => exact z.elim
    | brk => exact z.elim
    | cont => exact z.elim
/-- what is asked of arguments that are handed in: na by their places, the others by the names ks; first: what stands ahead of them -/
def tArgs (c : Cn) (k : Ky) (na : Nat) (ks : List Str) (first : List V) (tA tK : TA) : TE := fun σ H Q => ∃ s, shpOf c.sh k (first.length + na) ks = some s ∧ tA σ H fun vs H1 => tK σ H1 fun zs H2 => vs.length = na ∧ zs.length = ks.length ∧
  c.Ph s.key (plug c.K s.plan (first ++ vs) zs) H2 Q (WE c.W σ)
def tFn (c : Cn) (x : Str) (na : Nat) (ks : List Str) (tA tK : TA) : TE := tArgs c (x, none) na ks [] tA tK
def kwn (ks : List Keyword) : List Str := ks.filterMap fun k => match k with | ⟨n, _, _⟩ => n
theorem g_call (ha : GA c (e :: es) tA) (hk : GK c kws tK) (hg : GlN c x := by rfl) (hf : hasF (isGlo x) c.fa = true := by rfl) (hc : c.hot = false := by rfl)
    (hall : ∀ env, (backToKw pos (keywordEach kws env)).all (·.1.isSome) = true := by intro _; rfl) (hks : ∀ env, (backToKw pos (keywordEach kws env)).filterMap (·.1) = kwn kws := by intro _; rfl)
    (hdb : (x == ("__debug__" : Str)) = false := by decide) (he : ∀ env, starEach (e :: es) env = (false, eval e env) :: starEach es env := by intro _; rfl)
    (hpl : ∀ env, ((backTo pos (starEach (e :: es) env)).any (·.1) || (backToKw pos (keywordEach kws env)).any (·.1.isNone)) = false := by intro _; rfl) :
    GE c (.Call (.Name x p) (e :: es) kws pos) (tFn c x (e :: es).length (kwn kws) tA tK) := fun X h => ⟨fun pins st σ H Q I hq => by
  obtain ⟨s, hs, hq⟩ := hq
  obtain ⟨mem, ek, en, eks⟩ := shpOf_ok hs
  obtain ⟨k0, r0, all⟩ := h.fns hc
  have kp := (all s mem).kp
  rw [ek] at kp
  rw [← h.hK] at kp
  have hm := h.glo hf
  rw [← h.hK] at hm
  refine wpAny_Call_Name_kw (ld_glob I (h.gln hg) hm ?_ hdb)
  refine PySem.W.callWith_KW (h₀ := X.base) I.ok.mod.kin kp (hall X.env) (thn ((ha X h).run pos pins st σ H _ I hq) fun us s1 ⟨vs, H1, I1, r, q⟩ => ?_) (hpl X.env) (he X.env)
  refine thn ((hk X h).run pos pins s1 σ H1 _ I1 q) fun ws s2 ⟨zs, H2, I2, rz, l1, l2, q2⟩ => ⟨I2.kIn, ?_⟩
  rw [hks, ← eks]
  have z := run_g h hc mem I2 r rz (by rw [en, l1]; exact (Nat.zero_add _).symm) (by rw [eks]; exact l2) q2
  rw [ek] at z
  rw [h.hK]
  exact z⟩
theorem g_call0 (hk : GK c kws tK) (hg : GlN c x := by rfl) (hf : hasF (isGlo x) c.fa = true := by rfl) (hc : c.hot = false := by rfl)
    (hall : ∀ env, (backToKw pos (keywordEach kws env)).all (·.1.isSome) = true := by intro _; rfl) (hks : ∀ env, (backToKw pos (keywordEach kws env)).filterMap (·.1) = kwn kws := by intro _; rfl)
    (hdb : (x == ("__debug__" : Str)) = false := by decide) (hpl : ∀ env, ((backTo pos (starEach [] env)).any (·.1) || (backToKw pos (keywordEach kws env)).any (·.1.isNone)) = false := by intro _; rfl) :
    GE c (.Call (.Name x p) [] kws pos) (tFn c x 0 (kwn kws) tNil tK) := fun X h => ⟨fun pins st σ H Q I hq => by
  obtain ⟨s, hs, hq⟩ := hq
  obtain ⟨mem, ek, en, eks⟩ := shpOf_ok hs
  obtain ⟨k0, r0, all⟩ := h.fns hc
  have kp := (all s mem).kp
  rw [ek] at kp
  rw [← h.hK] at kp
  have hm := h.glo hf
  rw [← h.hK] at hm
  refine wpAny_Call_Name_kw (ld_glob I (h.gln hg) hm ?_ hdb)
  refine PySem.W.callWith_KW0 (h₀ := X.base) I.ok.mod.kin kp (hall X.env) ?_ (hpl X.env)
  refine thn ((hk X h).run pos pins st σ H _ I hq) fun ws s2 ⟨zs, H2, I2, rz, l1, l2, q2⟩ => ⟨I2.kIn, ?_⟩
  rw [hks, ← eks]
  have z := run_g h hc mem (us := []) (vs := []) I2 .nil rz (by rw [en] <;> rfl) (by rw [eks]; exact l2) q2
  rw [ek] at z
  rw [h.hK]
  exact z⟩

/-! ### methods -/
/-- o.m(..) of an instance; C: its class's name -/
def tMeth (c : Cn) (m : Str) (na : Nat) (ks : List Str) (to : TE) (tA tK : TA) : TE := fun σ H Q => to σ H fun x H1 => ∃ (d : Addr) (C : Str) (dx : Addr) (fs : List (Str × V)), x = .ref d ∧ H1 d = some (.ins (He.ga c.K C) dx fs) ∧
  hasF (isCls C) c.fa = true ∧ hasF (isMeth C m) c.fa = true ∧ fs.lookup m = none ∧ tArgs c (C, some m) na ks [.ref d] tA tK σ H1 Q
abbrev MethTree (o : Expr) (m : Str) (apos : Pos) (es : List Expr) (kws : List Keyword) (pos : Pos) : Prop := ∀ env, ∃ pl : Sem Bool, eval (.Call (.Attribute o m apos) es kws pos) env = (do
      let ov ← eval o env
      standAt apos.atName
      let (f, first) ← holding [ov] (getMethod ov m pl)
      callWith pos f first (backTo pos (starEach es env)) (backToKw pos (keywordEach kws env)))
theorem g_meth (ho : GE c o to) (ha : GA c (e :: es) tA) (hk : GK c kws tK) (hc : c.hot = false := by rfl) (ht : MethTree o m apos (e :: es) kws pos := by exact fun _ => ⟨_, rfl⟩)
    (hall : ∀ env, (backToKw pos (keywordEach kws env)).all (·.1.isSome) = true := by intro _; rfl) (hks : ∀ env, (backToKw pos (keywordEach kws env)).filterMap (·.1) = kwn kws := by intro _; rfl)
    (he : ∀ env, starEach (e :: es) env = (false, eval e env) :: starEach es env := by intro _; rfl)
    (hpl : ∀ env, ((backTo pos (starEach (e :: es) env)).any (·.1) || (backToKw pos (keywordEach kws env)).any (·.1.isNone)) = false := by intro _; rfl) :
    GE c (.Call (.Attribute o m apos) (e :: es) kws pos) (tMeth c m (e :: es).length (kwn kws) to tA tK) := fun X h => ⟨fun pins st σ H Q I hq => by
  obtain ⟨pl, ht⟩ := ht X.env
  refine PySem.W.methodCall_KW (pl := pl) (thn ((ho X h).run pins st σ H _ I hq) fun u s1 ⟨x, H1, I1, rx, d, C, dx, fs, ex, ea, k1, k2, l, s, hs, q⟩ => ?_) ht
  subst ex
  cases rx
  obtain ⟨mem, ek, en, eks⟩ := shpOf_ok hs
  have cl := h.cls k1
  have me := h.meth k2
  rw [← h.hK] at ea cl me
  refine getmeth_ok I1 ea cl me l ?_
  refine PySem.W.callWith_KW (h₀ := X.base) I1.ok.mod.kin me.kp (hall X.env) (thn ((ha X h).run pos pins s1 σ H1 _ I1 q) fun us s2 ⟨vs, H2, I2, r, q⟩ => ?_) (hpl X.env) (he X.env)
  refine thn ((hk X h).run pos pins s2 σ H2 _ I2 q) fun ws s3 ⟨zs, H3, I3, rz, l1, l2, q2⟩ => ⟨I3.kIn, ?_⟩
  rw [hks, ← eks]
  have z := run_g h hc mem I3 (us := Value.ref d :: us) (vs := V.ref d :: vs) (.cons rfl r) rz (by rw [en, List.length_cons, l1, List.length_singleton, Nat.add_comm]) (by rw [eks]; exact l2) q2
  rw [ek, ← h.hK] at z
  exact z⟩
theorem g_meth0 (ho : GE c o to) (hk : GK c kws tK) (hc : c.hot = false := by rfl) (ht : MethTree o m apos [] kws pos := by exact fun _ => ⟨_, rfl⟩)
    (hall : ∀ env, (backToKw pos (keywordEach kws env)).all (·.1.isSome) = true := by intro _; rfl) (hks : ∀ env, (backToKw pos (keywordEach kws env)).filterMap (·.1) = kwn kws := by intro _; rfl)
    (hpl : ∀ env, ((backTo pos (starEach [] env)).any (·.1) || (backToKw pos (keywordEach kws env)).any (·.1.isNone)) = false := by intro _; rfl) :
    GE c (.Call (.Attribute o m apos) [] kws pos) (tMeth c m 0 (kwn kws) to tNil tK) := fun X h => ⟨fun pins st σ H Q I hq => by
  obtain ⟨pl, ht⟩ := ht X.env
  refine PySem.W.methodCall_KW (pl := pl) (thn ((ho X h).run pins st σ H _ I hq) fun u s1 ⟨x, H1, I1, rx, d, C, dx, fs, ex, ea, k1, k2, l, s, hs, q⟩ => ?_) ht
  subst ex
  cases rx
  obtain ⟨mem, ek, en, eks⟩ := shpOf_ok hs
  have cl := h.cls k1
  have me := h.meth k2
  rw [← h.hK] at ea cl me
  refine getmeth_ok I1 ea cl me l ?_
  refine PySem.W.callWith_KW0 (h₀ := X.base) I1.ok.mod.kin me.kp (hall X.env) ?_ (hpl X.env)
  refine thn ((hk X h).run pos pins s1 σ H1 _ I1 q) fun ws s3 ⟨zs, H3, I3, rz, l1, l2, q2⟩ => ⟨I3.kIn, ?_⟩
  rw [hks, ← eks]
  have z := run_g h hc mem I3 (us := [.ref d]) (vs := [.ref d]) (.cons rfl .nil) rz (by rw [en] <;> rfl) (by rw [eks]; exact l2) q2
  rw [ek, ← h.hK] at z
  exact z⟩

/-! ### a new instance -/
theorem make_guards {A : Around} {C : Addr} {us : List Value} {kw : List (Str × Value)} (h : A.guards = some []) : (A.under (.builtin "type.__call__" ⟨.ref C :: us, kw⟩)).guards = some [] := by
  show pushGuards (Code.guards (.builtin "type.__call__" ⟨.ref C :: us, kw⟩)) A.guards = some []
  rw [h]
  first | rfl | simp [Code.guards, Code.isGuard, guardIds, pushGuards]
theorem run_mk {X : Cx} (h : Bd c X) (hc : c.hot = false) {s : Shp} (hs : s ∈ c.sh) (ek : s.key = (x, some ("__init__" : Str))) (hm : hasF (isMkr x) c.fa = true) {pins : List (Addr × Obj)} {σ : L2.St} {H : Hp} {st : Shared} {Q : VK} {us ws : List Value} {vs zs : List V}
    (I : Inv X pins σ H st) (r : Vals vs us) (rz : Vals zs ws) (l1 : vs.length + 1 = s.n) (l2 : zs.length = s.ks.length)
    (hq : ∀ d dx, H d = none → H dx = none → dx ≠ d → c.Ph s.key (plug c.K s.plan (.ref d :: vs) zs) (upd (upd H dx (.own d)) d (.ins (He.ga c.K x) dx [])) (fun v H2 => v = .non ∧ Q (.ref d) H2) (WE c.W σ)) :
    wpAny (model X.prog X.w) X.A (call (.ref (He.ga c.K x)) us (s.ks.zip ws)) (EP X pins σ Q) X.xe st := by
  obtain ⟨k, room, all⟩ := h.fns hc
  obtain ⟨fd, ps, g, F, kb⟩ := (all s hs).ex
  have M := h.mkr hm
  have I2 := Inv.made (C := He.ga c.K x) I
  have q0 := hq (st.heap.objs.size + 1) st.heap.objs.size (I.hok.fresh (Nat.le_succ _)) (I.hok.fresh (Nat.le_refl _)) (Nat.ne_of_lt (Nat.lt_succ_self _))
  have r1 : Vals (V.ref (st.heap.objs.size + 1) :: vs) (Value.ref (st.heap.objs.size + 1) :: us) := .cons rfl r
  have bt := kb.to _ (Value.ref (st.heap.objs.size + 1) :: us) ws I2.kIn (by rw [List.length_cons, ← r.length]; exact l1) (rz.length.symm.trans l2)
  have ef : He.fAd c.K s.key = He.ma c.K (He.ga c.K x) "__init__" := by rw [ek] <;> rfl
  rw [ef] at F
  have kin := I.kIn
  rw [h.hK] at kin
  refine wpAny_call (make_map kin M.makes M.init (beq_iff_eq.mp M.fn) (codeAny_mono (F.run _ X.stack _ _ ⟨Value.ref (st.heap.objs.size + 1) :: us, s.ks.zip ws⟩ _ _ _ (WE c.W σ) (room.make _ us _) (make_guards h.gu)
    (I2.env0.make _ us _) bt (kb.rel r1 rz) q0) fun res s2 z => ?_))
  cases res with
  | error er => exact passAt h.tk σ pins _ _ er s2 I2 z
  | ok fl =>
    cases fl with
    | ret u =>
      obtain ⟨v, H3, I3, rv, ev, q3⟩ := I2.after z
      subst ev
      exact ⟨rv, ⟨.ref (st.heap.objs.size + 1), H3, I3, rfl, q3⟩⟩
    | next => exact z.elim
    | brk => exact z.elim
    | cont => exact z.elim
def tMk (c : Cn) (x : Str) (na : Nat) (ks : List Str) (tA tK : TA) : TE := fun σ H Q => hasF (isMkr x) c.fa = true ∧ ∃ s, shpOf c.sh (x, some ("__init__" : Str)) (na + 1) ks = some s ∧ tA σ H fun vs H1 => tK σ H1 fun zs H2 => vs.length = na ∧ zs.length = ks.length ∧
  ∀ d dx, H2 d = none → H2 dx = none → dx ≠ d → c.Ph s.key (plug c.K s.plan (.ref d :: vs) zs) (upd (upd H2 dx (.own d)) d (.ins (He.ga c.K x) dx [])) (fun v H3 => v = .non ∧ Q (.ref d) H3) (WE c.W σ)
theorem g_make (ha : GA c (e :: es) tA) (hk : GK c kws tK) (hg : GlN c x := by rfl) (hf : hasF (isGlo x) c.fa = true := by rfl) (hc : c.hot = false := by rfl)
    (hall : ∀ env, (backToKw pos (keywordEach kws env)).all (·.1.isSome) = true := by intro _; rfl) (hks : ∀ env, (backToKw pos (keywordEach kws env)).filterMap (·.1) = kwn kws := by intro _; rfl)
    (hdb : (x == ("__debug__" : Str)) = false := by decide) (he : ∀ env, starEach (e :: es) env = (false, eval e env) :: starEach es env := by intro _; rfl)
    (hpl : ∀ env, ((backTo pos (starEach (e :: es) env)).any (·.1) || (backToKw pos (keywordEach kws env)).any (·.1.isNone)) = false := by intro _; rfl) :
    GE c (.Call (.Name x p) (e :: es) kws pos) (tMk c x (e :: es).length (kwn kws) tA tK) := fun X h => ⟨fun pins st σ H Q I hq => by
  obtain ⟨mk, s, hs, hq⟩ := hq
  obtain ⟨mem, ek, en, eks⟩ := shpOf_ok hs
  have kp := (h.mkr mk).kp
  have hm := h.glo hf
  rw [← h.hK] at hm kp
  refine wpAny_Call_Name_kw (ld_glob I (h.gln hg) hm ?_ hdb)
  refine PySem.W.callWith_KW (h₀ := X.base) I.ok.mod.kin kp (hall X.env) (thn ((ha X h).run pos pins st σ H _ I hq) fun us s1 ⟨vs, H1, I1, r, q⟩ => ?_) (hpl X.env) (he X.env)
  refine thn ((hk X h).run pos pins s1 σ H1 _ I1 q) fun ws s2 ⟨zs, H2, I2, rz, l1, l2, q2⟩ => ⟨I2.kIn, ?_⟩
  rw [hks, ← eks]
  have z := run_mk h hc mem ek mk I2 r rz (by rw [en, l1]) (by rw [eks]; exact l2) q2
  rw [h.hK]
  exact z⟩
theorem g_make0 (hk : GK c kws tK) (hg : GlN c x := by rfl) (hf : hasF (isGlo x) c.fa = true := by rfl) (hc : c.hot = false := by rfl)
    (hall : ∀ env, (backToKw pos (keywordEach kws env)).all (·.1.isSome) = true := by intro _; rfl) (hks : ∀ env, (backToKw pos (keywordEach kws env)).filterMap (·.1) = kwn kws := by intro _; rfl)
    (hdb : (x == ("__debug__" : Str)) = false := by decide) (hpl : ∀ env, ((backTo pos (starEach [] env)).any (·.1) || (backToKw pos (keywordEach kws env)).any (·.1.isNone)) = false := by intro _; rfl) :
    GE c (.Call (.Name x p) [] kws pos) (tMk c x 0 (kwn kws) tNil tK) := fun X h => ⟨fun pins st σ H Q I hq => by
  obtain ⟨mk, s, hs, hq⟩ := hq
  obtain ⟨mem, ek, en, eks⟩ := shpOf_ok hs
  have kp := (h.mkr mk).kp
  have hm := h.glo hf
  rw [← h.hK] at hm kp
  refine wpAny_Call_Name_kw (ld_glob I (h.gln hg) hm ?_ hdb)
  refine PySem.W.callWith_KW0 (h₀ := X.base) I.ok.mod.kin kp (hall X.env) ?_ (hpl X.env)
  refine thn ((hk X h).run pos pins st σ H _ I hq) fun ws s2 ⟨zs, H2, I2, rz, l1, l2, q2⟩ => ⟨I2.kIn, ?_⟩
  rw [hks, ← eks]
  have z := run_mk h hc mem ek mk I2 (us := []) (vs := []) .nil rz (by rw [en] <;> rfl) (by rw [eks]; exact l2) q2
  rw [h.hK]
  exact z⟩
end
end Rw

namespace Rw
open PySem PySem.Spec PyProof.Rows L2
section
variable {c : Cn} {a b d e o tg : Expr} {es : List Expr} {kws : List Keyword} {ta tb tc te to : TE} {t u : TT} {tA tK : TA} {ts us : TS} {wi : TI} {g g2 : TG} {gg : TGs} {pos apos p p2 : Pos} {x y m : Str} {ks : List Str} {st : Stmt} {sts : List Stmt}

/-! ### what is walked -/
theorem PI.or {X : Cx} {w1 w2 : TI} (h1 : PI X tg e w1) (h2 : PI X tg e w2) : PI X tg e (fun σ H R => w1 σ H R ∨ w2 σ H R) := ⟨fun pins s σ H R I q => q.elim (h1.run pins s σ H R I) (h2.run pins s σ H R I)⟩
/-- a list or a tuple -/
def iSeq (K : PySem.W.Frag) (ta : TE) : TI := fun σ H R => iList K ta σ H R ∨ iTup K ta σ H R
theorem gi_seq (h : GE c e te) : GI c tg e (iSeq c.K te) := fun X b => by
  have := PI.or (tg := tg) (pi_list (h X b)) (pi_tup (h X b))
  rw [b.hK] at this
  exact this
theorem gi_str (h : GE c e te) : GI c tg e (iStr te) := fun X b => pi_str (h X b)
theorem gi_rng1 (ha : GE c a ta) (hg : GlN c "range" := by rfl) (hf : hasF (isFree "range") c.fa = true := by rfl) (hs : ∀ env, starEach [a] env = [(false, eval a env)] := by intro _; rfl) : GI c tg (.Call (.Name "range" p) [a] [] pos) (iRng1 (tCons ta tNil)) := fun X h =>
  pi_range1 (h.gln hg) (h.free hf) (pa_cons (ha X h) pa_nil (hs X.env)) (hs X.env)
theorem gi_rng2 (ha : GE c a ta) (hb : GE c b tb) (hg : GlN c "range" := by rfl) (hf : hasF (isFree "range") c.fa = true := by rfl) (hs : ∀ env, starEach [a, b] env = [(false, eval a env), (false, eval b env)] := by intro _; rfl)
    (hs2 : ∀ env, starEach [b] env = [(false, eval b env)] := by intro _; rfl) : GI c tg (.Call (.Name "range" p) [a, b] [] pos) (iRng2 (tCons ta (tCons tb tNil))) := fun X h =>
  pi_range2 (h.gln hg) (h.free hf) (pa_cons (ha X h) (pa_cons (hb X h) pa_nil (hs2 X.env)) (by rw [hs X.env, hs2 X.env])) (hs X.env) (hs2 X.env)
/-- a dict by its keys, its values, its items: locked -/
theorem gi_keys (h : GE c e te) : GI c tg e (iKeys te) := fun X b => pi_keys (h X b)
theorem gi_values (h : GE c e te) (hb : ∀ env w, attributeBase e "values" env w = w := by intro _ _; rfl) (hl : (apos.endLine == pos.line) = true := by rfl) : GI c tg (.Call (.Attribute e "values" apos) [] [] pos) (iVals te) := fun X b => pi_values (h X b) (hb X.env _) hl
theorem gi_items {k : Nat} (h : GE c e te) (hb : ∀ env w, attributeBase e "items" env w = w := by intro _ _; rfl) (hl : (apos.endLine == pos.line) = true := by rfl) : GI c (.Tuple es k p2) (.Call (.Attribute e "items" apos) [] [] pos) (iItems te) := fun X b => pi_items (h X b) (hb X.env _) hl
theorem gi_enum {k : Nat} (ha : GE c a ta) (hg : GlN c "enumerate" := by rfl) (hf : hasF (isFree "enumerate") c.fa = true := by rfl) (hs : ∀ env, starEach [a] env = [(false, eval a env)] := by intro _; rfl) : GI c (.Tuple es k p2) (.Call (.Name "enumerate" p) [a] [] pos) (iEnum c.K (tCons ta tNil)) := fun X h => by
  have := pi_enum (tpos := p2) (elts := es) (kk := k) (p := p) (pos := pos) (h.gln hg) (h.free hf) (pa_cons (ha X h) pa_nil (hs X.env)) (hs X.env)
  rw [h.hK] at this
  exact this

/-! ### targets -/
theorem gg_name (i : Nat) (hN : c.N[i]? = some x := by rfl) (hx : Loc c.sc x := by first | exact Or.inl rfl | exact Or.inr rfl) (hf : c.fnn x = true ∨ c.sc.names.lookup x = some .local := by first | exact Or.inl rfl | exact Or.inr rfl) : GG c (.Name x pos) (gName i) := fun X h => by
  refine pg_name (i := i) (by rw [h.hN]; exact h.nd) (by rw [h.hN]; exact hN) (by rw [h.hsc]; exact hx) ?_
  rcases hf with z | z
  · exact .inl (h.fn x z)
  · exact .inr (by rw [h.hsc]; exact z)
theorem ggs_nil : GGs c [] gNil := fun _ _ => pgs_nil
theorem ggs_cons (h1 : GG c e g) (h2 : GGs c es gg) (hs : ∀ env, (assignEach (e :: es) env).map (·.2) = assign e env :: (assignEach es env).map (·.2) := by intro _; rfl) : GGs c (e :: es) (gCons g gg) := fun X b => pgs_cons (h1 X b) (h2 X b) (hs X.env)
theorem PG.or {X : Cx} {g1 g2 : TG} (h1 : PG X e g1) (h2 : PG X e g2) : PG X e (fun v σ H Q => g1 v σ H Q ∨ g2 v σ H Q) := ⟨fun pins s σ H v u Q I r q => q.elim (h1.run pins s σ H v u Q I r) (h2.run pins s σ H v u Q I r)⟩
/-- of a tuple | of a list -/
def gUnp (K : PySem.W.Frag) (n : Nat) (gg : TGs) : TG := fun v σ H Q => gTup K n gg v σ H Q ∨ gLst K n gg v σ H Q
theorem gg_tup {k : Nat} (n : Nat) (h : GGs c es gg) (hc : c.hot = false := by rfl) (hn : ∀ env, (assignEach es env).length = n := by intro _; rfl) (hst : ∀ env, (assignEach es env).findIdx? (·.1) = none := by intro _; rfl) : GG c (.Tuple es k pos) (gUnp c.K n gg) := fun X b => by
  have := PG.or (pg_tup (pos := pos) (k := k) (b.calm hc) (h X b) (hn X.env) (hst X.env)) (pg_lst (pos := pos) (k := k) (b.calm hc) (h X b) (hn X.env) (hst X.env))
  rw [b.hK] at this
  exact this
/-- o[i] = v of a list, of a dict -/
def rPutU : TSet := fun o i v H Q => rSetL o i v H Q ∨ rSetD o i v H Q
theorem put_all (X : Cx) (h : Bd c X) : PSet X rPutU := fun pins s σ H o i v ov iv u Q I r1 r2 r3 q => q.elim (set_list pins s σ H o i v ov iv u Q I r1 r2 r3) (set_dict (by have := h.un; omega) pins s σ H o i v ov iv u Q I r1 r2 r3)
theorem gg_sub (ho : GE c o to) (hi : GE c d tb) (ha : ∀ env v, assign (.Subscript o d pos) env v = (do
      let ov ← holding [v] (eval o env)
      let iv ← holding [v, ov] (eval d env)
      standAt pos
      holding [v, ov, iv] (setItem ov iv v)
      release [v, ov, iv] []) := by intro _ _; rfl) : GG c (.Subscript o d pos) (gSub to tb rPutU) := fun X h => pg_sub (ho X h) (hi X h) (put_all X h) (ha X.env)

/-! ### statements -/
theorem sw_at {tgs : List Expr} {env : Env} {sc : Scope} (h : env.scope = sc) : swappedStores tgs e env = swappedStores tgs e (envOfC "x" sc 0 0 .none) := by
  subst h
  rfl
theorem gb_nil : GB c [] tNext := fun _ _ => pss_nil
theorem gb_cons (h1 : GS c st ts) (h2 : GB c sts us) : GB c (st :: sts) (tSeq ts us) := fun X h => pss_cons (h1 X h) (h2 X h)
theorem gb_one (h1 : GS c st ts) : GB c [st] ts := fun X h => pss_one (h1 X h)
theorem gs_pass : GS c (.Pass pos) tNext := fun _ _ => ps_pass
theorem gs_doc {z : Str} {j} : GS c (.Expr (.Constant (.str z) j p) pos) tNext := fun _ _ => ps_doc
theorem gs_expr (h : GE c e te) (hs : ∀ env, swapsWith e none pos.line env = pure false := by intro _; rfl) : GS c (.Expr e pos) (tDrop te) := fun X b => ps_expr (h X b) (hs X.env)
theorem gs_ret (h : GE c e te) : GS c (.Return (some e) pos) (tRet te) := fun X b => ps_ret (h X b)
theorem gs_retN : GS c (.Return none pos) tRetN := fun _ _ => ps_retN
theorem gs_if {ss1 ss2 : List Stmt} (hc : GT c e t) (h1 : GB c ss1 ts) (h2 : GB c ss2 us) : GS c (.If e ss1 ss2 pos) (tIfS t ts us) := fun X b => ps_if (hc X b) (h1 X b) (h2 X b)
theorem gs_never : GS c st tNever := fun _ _ => ps_never
theorem gb_never : GB c sts tNever := fun _ _ => pss_never
theorem gs_while {ss : List Stmt} (hc : GT c e t) (h1 : GB c ss ts) : GS c (.While e ss [] pos) (tWhile t ts) := fun X b => ps_while b.po (hc X b) (h1 X b)
theorem gs_for {ss : List Stmt} (hi : GI c tg e wi) (hg : GG c tg g) (hb : GB c ss ts) (hc : c.hot = false := by rfl) (hs : ∀ env x, foldedSetIterable e env x = pure x := by intro _ _; rfl) : GS c (.For tg e ss [] pos) (tFor wi g ts) := fun X b => ps_for b.po (b.calm hc) (hi X b) (hg X b) (hb X b) (hs X.env)
theorem gs_lock (h : GS c st ts) : GS c st (tLock ts) := fun X b => ps_lock (h X b)
theorem g_lock (h : GE c e te) : GE c e (tLockE te) := fun X b => pe_lock (h X b)
theorem gs_asg (he : GE c e te) (hg : GG c tg g) (hs : ∀ env, swapsWithSole [tg] e pos.line env = pure false := by intro _; rfl) (hw : ∀ env, env.scope = c.sc → swappedStores [tg] e env = pure none := by first | (intro _ _; rfl) | exact fun _ h => (sw_at h).trans rfl)
    (h1 : ∀ env, (assignEach [tg] env).map (·.2) = [assign tg env] := by intro _; rfl) : GS c (.Assign [tg] e pos) (tAsg te g) := fun X b => ps_asg (he X b) (hg X b) (hs X.env) (hw X.env b.hsc) (h1 X.env)
/-- a, b = e1, e2 -/
theorem gs_par {px py pt : Pos} {kt k2 pt2} (i j : Nat) (ha : GE c a ta) (hb : GE c b tb) (hi : c.N[i]? = some x := by rfl) (hj : c.N[j]? = some y := by rfl) (hij : i ≠ j := by decide) (hc : c.hot = false := by rfl) (hx : c.sc.names.lookup x = some .local := by rfl) (hy : c.sc.names.lookup y = some .local := by rfl)
    (hw : ∀ env, env.scope = c.sc → swappedStores [.Tuple [.Name x px, .Name y py] kt pt] (.Tuple [a, b] k2 pt2) env = pure (some [x, y]) := by exact fun _ h => (sw_at h).trans rfl)
    (hs : ∀ env, swapsWithSole [.Tuple [.Name x px, .Name y py] kt pt] (.Tuple [a, b] k2 pt2) pos.line env = pure false := by intro _; rfl)
    (s1 : ∀ env, starEach [a, b] env = (false, eval a env) :: starEach [b] env := by intro _; rfl) (s2 : ∀ env, starEach [b] env = (false, eval b env) :: starEach [] env := by intro _; rfl) :
    GS c (.Assign [.Tuple [.Name x px, .Name y py] kt pt] (.Tuple [a, b] k2 pt2) pos) (tPar i j (tCons ta (tCons tb tNil))) := fun X h =>
  ps_par (h.calm hc) (by rw [h.hN]; exact h.nd) (by rw [h.hN]; exact hi) (by rw [h.hN]; exact hj) hij (by rw [h.hsc]; exact hx) (by rw [h.hsc]; exact hy) (pa_cons (ha X h) (pa_cons (hb X h) pa_nil (s2 X.env)) (s1 X.env)) (hw X.env h.hsc) (hs X.env)
/-- o.f = e, of an instance -/
def sAttr (K : PySem.W.Frag) (fa : List He.Fa) (to tv : TE) (f : Str) : TS := fun D σ H => tv σ H fun y H1 => to σ H1 fun x H2 => ∃ (q : Addr) (C : Str) (dx : Addr) (fs : List (Str × V)), x = .ref q ∧ H2 q = some (.ins (He.ga K C) dx fs) ∧
  hasF (isCls C) fa = true ∧ hasF (isNoat C f) fa = true ∧ fs.length < 1000 ∧ D.nx σ (upd H2 q (.ins (He.ga K C) dx (putF f y fs)))
theorem gs_attr {f : Str} {p' : Pos} (ho : GE c o to) (he : GE c e te) (hs : ∀ env, swapsWith e (some (.Attribute o f p')) pos.line env = pure false := by intro _; rfl) : GS c (.Assign [.Attribute o f p'] e pos) (sAttr c.K c.fa to te f) := fun X h => ⟨fun pins s σ H D I hq => by
  refine plainObj_wpAny_Assign_Attribute (thn ((he X h).run pins s σ H _ I hq) fun u s1 ⟨y, H1, I1, ry, q⟩ => thn ((ho X h).run pins s1 σ H1 _ I1 q) fun ov s2 ⟨x, H2, I2, rx, q0, C, dx, fs, ex, ea, k1, k2, l, q2⟩ => ?_) (hs X.env)
  subst ex
  cases rx
  have cl := h.cls k1
  have na := h.noat k2
  rw [← h.hK] at ea cl na q2
  exact setattr_ok I2 ea cl na l ry fun s3 I3 => ⟨σ, _, I3, q2⟩⟩
def sAttrAug (K : PySem.W.Frag) (fa : List He.Fa) (to tv : TE) (rd : V → V → Hp → VK → Prop) (f : Str) : TS := fun D σ H => to σ H fun x H1 => ∃ (q : Addr) (C : Str) (dx : Addr) (fs : List (Str × V)) (v : V), x = .ref q ∧ H1 q = some (.ins (He.ga K C) dx fs) ∧
  hasF (isCls C) fa = true ∧ hasF (isNoat C f) fa = true ∧ fs.lookup f = some v ∧ tv σ H1 fun y H2 => rd v y H2 fun z H3 => ∃ dx' fs', H3 q = some (.ins (He.ga K C) dx' fs') ∧ fs'.length < 1000 ∧ D.nx σ (upd H3 q (.ins (He.ga K C) dx' (putF f z fs')))
theorem gs_attrAug {f : Str} {op : Operator} {rd : V → V → Hp → VK → Prop} {p' : Pos} (ho : GE c o to) (he : GE c e te) (hop : ∀ X, InOp X op rd) : GS c (.AugAssign (.Attribute o f p') op e pos) (sAttrAug c.K c.fa to te rd f) := fun X h => ⟨fun pins s σ H D I hq => by
  refine wpAny_AugAssign_AttributeAny (thn ((ho X h).run pins s σ H _ I hq) fun ov s1 ⟨x, H1, I1, rx, q0, C, dx, fs, v, ex, ea, k1, k2, l, q⟩ => ?_)
  subst ex
  cases rx
  have cl := h.cls k1
  have na := h.noat k2
  have hK := h.hK
  rw [← hK] at ea cl na
  refine getattr_ok I1 ea cl na l fun u s2 I2 ru => thn ((he X h).run pins s2 σ H1 _ I2 q) fun w3 s3 ⟨y, H2, I3, ry, q3⟩ => thn (hop X pins s3 σ H2 v y u w3 _ I3 ru ry q3) fun w4 s4 ⟨z, H3, I4, rz, dx', fs', ea', l', q4⟩ => ?_
  rw [← hK] at ea' q4
  exact setattr_ok I4 ea' cl na l' rz fun s5 I5 => ⟨σ, _, I5, q4⟩⟩
theorem gs_aug {op : Operator} {ti : TIp} (i : Nat) (he : GE c e te) (hop : ∀ X, PIp X op ti) (hN : c.N[i]? = some x := by rfl) (hx : Loc c.sc x := by first | exact Or.inl rfl | exact Or.inr rfl) (hf : c.fnn x = true ∨ c.sc.names.lookup x = some .local := by first | exact Or.inl rfl | exact Or.inr rfl) :
    GS c (.AugAssign (.Name x p) op e pos) (tAug i te ti) := fun X h => by
  refine ps_aug (i := i) (by rw [h.hN]; exact h.nd) (by rw [h.hN]; exact hN) (by rw [h.hsc]; exact hx) (he X h) (hop X) ?_
  rcases hf with z | z
  · exact .inl (h.fn x z)
  · exact .inr (by rw [h.hsc]; exact z)

/-! ### comprehensions -/
theorem gts_nil : GTs c [] tYes := fun _ _ => pts_nil
theorem gts_one (h : GT c e t) : GTs c [e] t := fun X b => pts_one (h X b)
theorem Bd.blkok {X : Cx} {scope : Scope} {own : List (Str × Nat)} (h : Bd c X) (ok : blkC c.N c.sc scope own = true) : BlkOk X.N X.env.scope scope own := by
  rw [h.hN, h.hsc]
  exact blkOk_by ok
theorem g_lc {ifs : List Expr} {scope : Scope} (own : List (Str × Nat)) (vs : List Nat) (hi : GI c tg b wi) (hg : GG (c.blk scope) tg g) (ht : GTs (c.blk scope) ifs t) (he : GE (c.blk scope) e te) (ok : blkC c.N c.sc scope own = true := by rfl) (hvs : own.map (·.2) = vs := by rfl) (hc : c.hot = false := by rfl)
    (hs : ∀ env x, foldedSetIterable b env x = pure x := by intro _ _; rfl) : GE c (.ListComp e [⟨tg, b, ifs, 0⟩] scope pos) (tLc wi g t te vs) := fun X h => by
  subst hvs
  exact pe_lc (h.calm hc) (by rw [h.hN]; exact h.nd) (hi X h) (h.blkok ok) (fun s H C cl fp => hg _ (h.blk s H scope C cl fp)) (fun s H C cl fp => ht _ (h.blk s H scope C cl fp)) (fun s H C cl fp => he _ (h.blk s H scope C cl fp)) (hs X.env)
/-- x = [..] -/
theorem gs_lc {ifs : List Expr} {scope : Scope} (i : Nat) (own : List (Str × Nat)) (vs : List Nat) (hi : GI c tg b wi) (hg : GG (c.blk scope) tg g) (ht : GTs (c.blk scope) ifs t) (he : GE (c.blk scope) e te)
    (hw : ∀ env, env.scope = c.sc → swapsWith (.ListComp e [⟨tg, b, ifs, 0⟩] scope p2) (some (.Name x p)) pos.line env = pure true := by exact fun _ h => by subst h; rfl)
    (ok : blkC c.N c.sc scope own = true := by rfl) (hvs : own.map (·.2) = vs := by rfl) (hc : c.hot = false := by rfl) (hN : c.N[i]? = some x := by rfl) (hx : c.sc.names.lookup x = some .local := by rfl)
    (hs : ∀ env x, foldedSetIterable b env x = pure x := by intro _ _; rfl) : GS c (.Assign [.Name x p] (.ListComp e [⟨tg, b, ifs, 0⟩] scope p2) pos) (tAsg (tLc wi g t te vs) (gName i)) := fun X h => by
  subst hvs
  exact ps_setLc (h.calm hc) (by rw [h.hN]; exact h.nd) (by rw [h.hN]; exact hN) (by rw [h.hsc]; exact hx) (hw X.env h.hsc) (hi X h) (h.blkok ok) (fun s H C cl fp => hg _ (h.blk s H scope C cl fp)) (fun s H C cl fp => ht _ (h.blk s H scope C cl fp)) (fun s H C cl fp => he _ (h.blk s H scope C cl fp)) (hs X.env)
end
end Rw

namespace Rw
open PySem PySem.Spec PyProof.Rows L2

/-! ### a def's body keeps its promise -/
theorem deeper_guards {A : Around} {env : Env} (h : A.guards = some []) : (A.deeper env).guards = some [] := h
theorem fn_g {P : Program} {w : World} {K : PySem.W.Frag} {mg : Str → Option Value} {base : Heap} {k : Nat} {f : Addr} {nm qual : Str} {params : Arguments} {body : List Stmt} {scope : Scope} {dvs : List V} {kws : List (Str × V)} {fd : FuncData} {N ps : List Str} {sp : Sp}
    (F : FunD K nm qual params body scope dvs kws f fd) (S : FnScope N ps scope) (hlen : ∀ vs H Q E, sp vs H Q E → vs.length = ps.length)
    (hb : ∀ (cdv : Value) (A : Around) (outer : List Env) (s : Shared) (H : Hp) (vs : List V) (Q : VK) (E : XK), Room k (A.deeper (envOfC qual scope s.heap.objs.size f cdv)) → A.guards = some [] → sp vs H Q E →
      ∃ t, PSs (cxOf (L2.CX P w) P w K mg base N qual scope f cdv A outer s H E) body t ∧ t { nx := fun _ H2 => Q .non H2, rt := Q } (start N vs) H) : FnG P w K mg base (k + 1) f fd ps sp := by
  obtain ⟨oc, od, dV, kV, doc, pm, an, cdv, ct, osl, efd, look, code, _, _⟩ := F.ex
  subst efd
  constructor
  · exact hlen
  intro A outer s H args us vs Q E room gu e0 bt rel hsp
  have hkeep : ∀ b o, base.get? b = some o → s.heap.get? b = some o := fun b o z => (e0.bs b o z).1
  have hin : K.In s.heap := e0.mod.kin.keeps hkeep
  have hlim := e0.mod.nolimit.keeps hkeep
  refine codeAny_call_function room.depth (hin _ _ look) rfl S.co S.gen rfl (PySem.W.codeRec_of hin code) (bt _ _ _ _ ?_)
  have hpar : ∀ z ∈ ps.zip us, scope.names.lookup z.1 = some .local ∨ (scope.names.lookup z.1 = some .cell ∧ ((cellsFrom (s.heap.objs.size + 1) scope.names []).lookup z.1).isSome = true) := by
    rintro ⟨n, v⟩ hz
    refine (S.par n (List.of_mem_zip hz).1).elim Or.inl fun q => Or.inr ⟨q, ?_⟩
    exact PySem.W.cellsFrom_some _ _ _ (.inl q)
  refine wpAny_newFunctionEnv_cells S.kind hpar fun env eenv s1 fresh => ?_
  subst eenv
  refine ⟨hlim.keeps fresh.toInCall.keep, codeAny_func ?_⟩
  obtain ⟨t, ht, hq⟩ := hb cdv A outer s H vs Q E (room.deeper _) gu hsp
  have I0 := inv_start (CX := L2.CX P w) (E := E) S room.hd e0 (hlen _ _ _ _ hsp) rel fresh
  have run := ht.run [] s1 _ H _ I0 hq
  refine wpAny_mono run (fun fl s2 z => ?_) fun _ _ z => z
  cases fl with
  | brk => exact z.elim fun _ z => z.elim fun _ z => z.2.elim
  | cont => exact z.elim fun _ z => z.elim fun _ z => z.2.elim
  | next =>
    obtain ⟨σ2, H2, J, q⟩ := z
    exact ⟨V.non, H2, J.os, J.bare, J.base, J.hok, rfl, q⟩
  | ret u =>
    obtain ⟨v, σ2, H2, J, rv, q⟩ := z
    exact ⟨v, H2, J.os, J.bare, J.base, J.hok, rv, q⟩

/-! ### the program's defs, level by level -/
structure Ent where
  d : He.DefD
  ps : List Str
  N : List Str
  T : PySem.W.Frag → (Ky → Sp) → WX → TS
def cn0 (fa : List He.Fa) (sh : List Shp) (K : PySem.W.Frag) (Ph : Ky → Sp) (N : List Str) (sc : Scope) (W : WX) : Cn := ⟨false, true, K, fa, sh, Ph, N, sc, fun _ => true, W⟩
def EntOk (fa : List He.Fa) (sh : List Shp) (en : Ent) : Prop := ∀ (K : PySem.W.Frag) (Ph : Ky → Sp) (W : WX), GB (cn0 fa sh K Ph en.N en.d.scope W) en.d.body (en.T K Ph W)
def entOf (es : List Ent) (k : Ky) : Option Ent := es.find? fun en => decide (en.d.at_ = k)
def lev (K : PySem.W.Frag) (es : List Ent) : Nat → Ky → Sp
  | 0, _ => fun _ _ _ _ => False
  | n + 1, k => match entOf es k with
    | some en => fun vs H Q E => vs.length = en.ps.length ∧ en.T K (lev K es n) (fun cls dd _ H2 => E cls dd H2) { nx := fun _ H2 => Q .non H2, rt := Q } (start en.N vs) H
    | none => fun _ _ _ _ => False
/-- the way into a def -/
theorem lev_in {K : PySem.W.Frag} {es : List Ent} {n : Nat} {k : Ky} {en : Ent} {vs : List V} {H : Hp} {Q : VK} {E : XK} (e : entOf es k = some en) (hl : vs.length = en.ps.length)
    (h : en.T K (lev K es n) (fun cls dd _ H2 => E cls dd H2) { nx := fun _ H2 => Q .non H2, rt := Q } (start en.N vs) H) : lev K es (n + 1) k vs H Q E := by
  unfold lev
  rw [e]
  exact ⟨hl, h⟩
def scB (N ps : List Str) (sc : Scope) : Bool := (match sc.kind with | .function => true | _ => false) && (!sc.isCoroutine && (!sc.isGenerator && (decide N.Nodup && (decide (N.take ps.length = ps) &&
  ((ps.all fun x => match sc.names.lookup x with | some .local => true | some .cell => true | _ => false) && sc.names.all fun y => match y.2 with | .free => false | _ => true)))))
theorem scB_ok {N ps : List Str} {sc : Scope} (h : scB N ps sc = true) : FnScope N ps sc := by
  unfold scB at h
  obtain ⟨h1, h⟩ := He.ba h
  obtain ⟨h2, h⟩ := He.ba h
  obtain ⟨h3, h⟩ := He.ba h
  obtain ⟨h4, h⟩ := He.ba h
  obtain ⟨h5, h⟩ := He.ba h
  obtain ⟨h6, h7⟩ := He.ba h
  refine ⟨?_, by simpa using h2, by simpa using h3, of_decide_eq_true h4, of_decide_eq_true h5, fun x hx => ?_, fun y hy e => ?_⟩
  · split at h1
    · assumption
    · cases h1
  · have q := List.all_eq_true.mp h6 x hx
    split at q
    · exact .inl (by assumption)
    · exact .inr (by assumption)
    · cases q
  · have q := List.all_eq_true.mp h7 y hy
    rw [e] at q
    cases q

/-! ### how a call's arguments come to the parameters -/
def plugV (plan : List Src) (us ws : List Value) : List Value := plan.map fun s => match s with
  | .pos i => us.getD i .none
  | .kw j => ws.getD j .none
  | .dfl _ => .none
theorem vals_getD {vs : List V} {us : List Value} (r : Vals vs us) (i : Nat) : RelV (vs.getD i .non) (us.getD i .none) := by
  rw [List.getD_eq_getElem?_getD, List.getD_eq_getElem?_getD]
  cases e : vs[i]? with
  | some v =>
    obtain ⟨u, eu, ru⟩ := r.get e
    rw [eu]
    exact ru
  | none =>
    rw [r.none_of e]
    exact rfl
def noDfl (plan : List Src) : Bool := plan.all fun s => match s with | .dfl _ => false | _ => true
theorem plug_rel {K : PySem.W.Frag} {vs zs : List V} {us ws : List Value} (r : Vals vs us) (rz : Vals zs ws) : ∀ {plan : List Src}, noDfl plan = true → Vals (plug K plan vs zs) (plugV plan us ws)
  | [], _ => .nil
  | .pos i :: l, h => .cons (by show L2.RelV (nth vs i) _; rw [nth_at]; exact vals_getD r i) (plug_rel r rz (plan := l) h)
  | .kw j :: l, h => .cons (by show L2.RelV (nth zs j) _; rw [nth_at]; exact vals_getD rz j) (plug_rel r rz (plan := l) h)
  | .dfl _ :: _, h => by cases h
/-- s is a way to call en -/
def ShpOk (es : List Ent) (s : Shp) : Prop := ∃ en, entOf es s.key = some en ∧ ∀ (K : PySem.W.Frag) (fd : FuncData), FunD K en.d.name en.d.qual en.d.params en.d.body en.d.scope (en.d.dvs K) (en.d.kws K) (He.fAd K s.key) fd →
  ∃ g, KBn K fd en.ps s.n s.ks g (plug K s.plan)
theorem shp_plain {es : List Ent} {s : Shp} {en : Ent} (e : entOf es s.key = some en) (hd : en.d.dfl = []) (hp : noDfl s.plan = true)
    (h : ∀ (kV doc pm : Value) (an : Option Addr) (cdv ct : Value) (us ws : List Value), us.length = s.n → ws.length = s.ks.length →
      bindArgs (PySem.W.fnOf en.d.name en.d.qual en.d.params en.d.body en.d.scope .none kV doc pm an cdv ct) ⟨us, s.ks.zip ws⟩ = pure (en.ps.zip (plugV s.plan us ws))) : ShpOk es s := by
  refine ⟨en, e, fun K fd F => ⟨plugV s.plan, ⟨fun st us ws _ h1 h2 => ?_, fun r rz => plug_rel r rz hp⟩⟩⟩
  obtain ⟨oc, od, dV, kV, doc, pm, an, cdv, ct, osl, efd, look, code, hD, _⟩ := F.ex
  have edv : en.d.dvs K = [] := by unfold He.DefD.dvs; rw [hd]; rfl
  rcases hD with ⟨_, ed⟩ | ⟨ne, _⟩
  · subst efd ed
    exact .of_eq (h kV doc pm an cdv ct us ws h1 h2)
  · exact absurd edv ne

section
variable {P : Program} {w : World} {K : PySem.W.Frag} {mg : Str → Option Value} {base : Heap} {fa : List He.Fa} {sh : List Shp} {es : List Ent}
theorem fun_of (c : He.SaysD fa (es.map (·.d)) K) {en : Ent} (h : en ∈ es) : ∃ fd, FunD K en.d.name en.d.qual en.d.params en.d.body en.d.scope (en.d.dvs K) (en.d.kws K) (He.fAd K en.d.at_) fd := by
  obtain ⟨i, hi, e⟩ := List.getElem_of_mem (List.mem_map_of_mem (f := (·.d)) h)
  exact c.def_ i (d := en.d) (by rw [List.getElem?_eq_getElem hi, e])
theorem entOf_ok {k : Ky} {en : Ent} (e : entOf es k = some en) : en ∈ es ∧ en.d.at_ = k := by
  unfold entOf at e
  exact ⟨List.mem_of_find?_eq_some e, of_decide_eq_true (List.find?_some (p := fun en : Ent => decide (en.d.at_ = k)) e)⟩
/-- ALL DEFS keep what their bodies' readings ask, at every level -/
theorem callees (hin : K.In base) (hns : base.Ns mainGlobals mg) (c : He.SaysD fa (es.map (·.d)) K) (hes : ∀ en ∈ es, EntOk fa sh en) (hsc : (es.all fun en => scB en.N en.ps en.d.scope) = true) (hsh : ∀ s ∈ sh, ShpOk es s) :
    ∀ (n : Nat) (s : Shp), s ∈ sh → CalleeP P w K mg base K (2 * n) s (lev K es n s.key) := by
  have hfa : ∀ f ∈ fa, f.ok K = true := fun f hf => by
    obtain ⟨i, hi, e⟩ := List.getElem_of_mem hf
    exact c.fact i (by rw [List.getElem?_eq_getElem hi, e])
  intro n
  induction n with
  | zero =>
    intro s hs
    obtain ⟨en, e, kb⟩ := hsh s hs
    obtain ⟨mem, ek⟩ := entOf_ok e
    obtain ⟨fd, F⟩ := fun_of c mem
    rw [ek] at F
    obtain ⟨g, kb⟩ := kb K fd F
    exact ⟨⟨fd, en.ps, g, ⟨fun _ _ _ _ z => z.elim, fun _ _ _ _ _ _ _ _ _ _ _ _ _ _ z => z.elim⟩, kb⟩, F.kp⟩
  | succ n ih =>
    intro s hs
    obtain ⟨en, e, kb⟩ := hsh s hs
    obtain ⟨mem, ek⟩ := entOf_ok e
    obtain ⟨fd, F⟩ := fun_of c mem
    rw [ek] at F
    obtain ⟨g, kb⟩ := kb K fd F
    have S := scB_ok (List.all_eq_true.mp hsc en mem)
    refine ⟨⟨fd, en.ps, g, fn_g (k := 2 * n + 1) F S (fun vs H Q E z => ?_) (fun cdv A outer st H vs Q E room gu z => ?_), kb⟩, F.kp⟩
    · unfold lev at z
      rw [e] at z
      exact z.1
    · unfold lev at z
      rw [e] at z
      refine ⟨_, hes en mem K (lev K es n) (fun cls dd _ H2 => E cls dd H2) _ ?_, z.2⟩
      exact {
        hK := rfl
        hN := rfl
        hsc := rfl
        nd := S.nd
        calm := fun _ => rfl
        cold := fun _ => room.hd
        gu := deeper_guards gu
        tk := takes_of rfl rfl rfl rfl
        po := passes_of rfl
        stk := fun _ => ⟨rfl, rfl, rfl⟩
        un := Nat.lt_of_le_of_lt (Nat.add_le_add_right (Nat.le_add_right _ _) _) room.un
        fns := fun _ => ⟨2 * n, room, fun s hs => ih s hs⟩
        fo := hfa
        gx := ⟨base, hin, hns⟩
        fn := fun _ _ => rfl }
end
end Rw

namespace Rw
open PySem PySem.Spec PyProof.Rows L2
/-! ### the law's end -/
section
variable {P : Program} {w : World} {K : PySem.W.Frag} {mg mb : Str → Option Value} {fa a : Addr} {fd : FuncData} {x : Str} {sp : Sp} {s1 : Shared} {vs : List Value} {ns : List Int} {k : Nat}
abbrev EndsTrue (P : Program) (s1 : Shared) (fa a : Addr) : Prop :=
  codeAny (model P w) callerA (.call (.ref fa) ⟨[.ref a], []⟩) (fun r s' => r = .ok (.ret (.bool true)) ∧ OldK s1.heap s'.heap ∧ s'.os = s1.os ∧ AllBare s'.gens) s1
/-- from a heap in which the script alone may be told -/
theorem end_core (KX : K.In s1.heap) (hns : s1.heap.Ns mainGlobals mg) (hb : s1.heap.Ns builtinsNs mb) (hbb : ∀ y : Str, y ≠ "__name__" → mb y = bootBuiltins y) (hlim : s1.heap.NoLimit) (hg : s1.gens = #[])
    (ha : s1.heap.get? a = some { cls := .type "list", data := .seq vs.toArray }) (hr : Room k callerA)
    (F : ∀ bs : Heap, K.In bs → bs.Ns mainGlobals mg → FnG P w K mg bs k fa fd [x] sp) (hbind : ∀ (s : Shared) (u : Value), BindsTo s fd ⟨[u], []⟩ [(x, u)])
    {H : Hp} (hO : Only H) (hsp : sp [.ref a] H (fun v _ => v = .bl true) fun _ _ _ => False) (hok : HOk P w H s1.heap) (hA : ∀ b, H b ≠ none → b = a) (hK : H a ≠ none → K.lookup a = none) :
    EndsTrue (w := w) P s1 fa a := by
  have isA : ∀ {b : Addr} {u : HO}, H b = some u → b = a := fun {b u} q => hA b (by rw [q] <;> intro z <;> cases z)
  have at0 : ∀ {b : Addr} {o : Obj}, s1.heap.get? b = some o → H b = none → (hidT s1.heap H).get? b = some o := fun e n => hidT_get e n
  have dNo : ∀ {b : Addr} {o : Obj} {es : Array DictEntry} {ep : Nat}, s1.heap.get? b = some o → o.data = .dict es ep → H b = none := by
    intro b o es ep e d
    match q : H b with
    | none => rfl
    | some u =>
      obtain rfl := isA q
      rw [ha] at e
      obtain rfl := Option.some.inj e
      exact absurd (show Data.seq vs.toArray _ = Data.dict es ep from d) (fun z => by cases z)
  have nsAt : ∀ {b : Addr} {f : Str → Option Value}, s1.heap.Ns b f → (hidT s1.heap H).Ns b f := by
    rintro b f ⟨o, es, ep, e, d, r⟩
    exact ⟨o, es, ep, at0 e (dNo e d), d, r⟩
  have kAt : K.In (hidT s1.heap H) := by
    intro b o e
    refine at0 (KX b o e) ?_
    match q : H b with
    | none => rfl
    | some u =>
      obtain rfl := isA q
      have z := hK (by rw [q] <;> intro z <;> cases z)
      rw [z] at e
      cases e
  have hM : Mod K mg (hidT s1.heap H) := by
    obtain ⟨mc, l1, l2⟩ := hlim
    exact ⟨kAt, nsAt hns, ⟨mb, nsAt hb, hbb⟩, ⟨mc, nsAt l1, l2⟩⟩
  have e0 : Env0 P w K mg (hidT s1.heap H) callerA [] s1 H :=
    ⟨rfl, hM, fun b o e => of_hidT e, Nat.le_of_eq (hidT_size _ _), trivial, fun b hb => (List.not_mem_nil hb).elim, hok, .of_eq hg⟩
  have gu : callerA.guards = some [] := rfl
  have goes := (F _ kAt (nsAt hns)).run callerA [] s1 H ⟨[.ref a], []⟩ [.ref a] [.ref a] _ _ hr gu e0 (hbind s1 (.ref a)) (.cons rfl .nil) hsp
  refine codeAny_mono goes fun r s2 z => ?_
  match r, z with
  | .error e, z => 
    obtain ⟨_, _, _, _, _, _, _, _, _, _, _, _, _, _, _, _, z⟩ := z
  | .ok .next, z => exact False.elim z
  | .ok .brk, z => exact False.elim z
  | .ok .cont, z => exact False.elim z
  | .ok (.ret u), z =>
    obtain ⟨v, H2, os, bare, un, hok2, rv, ev⟩ := z
    have ev : v = .bl true := ev
    subst ev
    obtain rfl : u = Value.bool true := rv
    refine ⟨rfl, OldK.of_keep fun b o e => ?_, os, bare⟩
    match q : H b with
    | none => exact un.keep b o e q (fun z => (List.not_mem_nil z).elim) (by simp)
    | some u2 =>
      rcases hO b with z | ⟨ob, xs, z⟩
      · rw [q] at z
        cases z
      · have kept := un.frzs b ob _ z
        have o1 := (hok b _ z).1
        have o2 := (hok2 b _ kept).1
        rw [e] at o1
        obtain rfl := Option.some.inj o1
        exact o2
theorem end_call (KX : K.In s1.heap) (hns : s1.heap.Ns mainGlobals mg) (hb : s1.heap.Ns builtinsNs mb) (hbb : ∀ y : Str, y ≠ "__name__" → mb y = bootBuiltins y) (hlim : s1.heap.NoLimit) (hg : s1.gens = #[])
    (ha : s1.heap.get? a = some { cls := .type "list", data := .seq vs.toArray }) (hi : IntsAre vs ns) (hl : ns.length ≤ sizeLine) (hr : Room k callerA)
    (F : ∀ bs : Heap, K.In bs → bs.Ns mainGlobals mg → FnG P w K mg bs k fa fd [x] sp) (hbind : ∀ (s : Shared) (u : Value), BindsTo s fd ⟨[u], []⟩ [(x, u)])
    (hsp : ∀ H : Hp, Only H → SqL K H a (ns.map V.int) → sp [.ref a] H (fun v _ => v = .bl true) fun _ _ _ => False) : EndsTrue (w := w) P s1 fa a := by
  have rv := vals_ints hi
  have core := fun (H : Hp) (hO : Only H) (hS : SqL K H a (ns.map V.int)) => end_core (w := w) KX hns hb hbb hlim hg ha hr F hbind hO (hsp H hO hS)
  match hk : K.lookup a with
  | some o =>
    have e := KX a o hk
    rw [ha] at e
    obtain rfl := Option.some.inj e
    refine core (fun _ => none) (fun _ => .inl rfl) (.inr ⟨_, vs.toArray, _, hk, rfl, rfl, rfl, ?_, by simpa using rv⟩) (fun b u z => absurd (show (none : Option HO) = some u from z) (fun z => by cases z)) (fun b z => absurd rfl z) (fun z => absurd rfl z)
    rw [List.size_toArray, hi.length]
    exact hl
  | none =>
    let F1 : HO := .frz { cls := .type "list", data := .seq vs.toArray } (.lst (ns.map V.int))
    let H1 : Hp := fun b => if b = a then some F1 else none
    have hit : ∀ {b}, b = a → H1 b = some F1 := fun z => if_pos z
    have out : ∀ {b}, ¬ b = a → H1 b = none := fun z => if_neg z
    refine core H1 (fun b => ?_) (.inl (.inr ⟨_, hit rfl⟩)) (fun b u z => ?_) (fun b z => ?_) (fun _ => hk)
    · exact (Decidable.em (b = a)).elim (fun q => .inr ⟨_, _, hit q⟩) fun q => .inl (out q)
    · rcases Decidable.em (b = a) with q | q
      · obtain rfl := Option.some.inj ((hit q).symm.trans z)
        subst q
        exact ⟨ha, by rw [List.length_map] <;> exact hl, vs, _, rv, ha⟩
      · exact absurd ((out q).symm.trans z) (fun z => by cases z)
    · exact Decidable.byContradiction fun q => z (out q)
end
/-- THE END: what the head asks for, from the law's promise at a level -/
theorem walk_w {l : PySem.W.OpenLaw} {n k : Nat} {q : Program} {loose : List Str} {XP : (Str → Option Value) → Heap → Prop} {YP : World → Heap → Prop} {d : DefRec} {x : Str}
    (hn : l.most = some n) (hn2 : n ≤ sizeLine) (hdf : d.params.defaults = []) (hr : Room k callerA)
    (F : ∀ (w : World) (mg : Str → Option Value) (fa : Addr) (h : Heap), YP w h → h.Ns mainGlobals mg → mg d.name = some (.ref fa) →
      ∃ (K : PySem.W.Frag) (fd : FuncData) (sp : Sp), K.In h ∧ (∀ (s : Shared) (u : Value), BindsTo s fd ⟨[u], []⟩ [(x, u)]) ∧
        (∀ (H : Hp) (a : Addr) (ns : List Int), ns.length ≤ n → Only H → SqL K H a (ns.map V.int) → sp [.ref a] H (fun v _ => v = .bl true) fun _ _ _ => False) ∧
        ∀ bs : Heap, K.In bs → bs.Ns mainGlobals mg → FnG l.prog w K mg bs k fa fd [x] sp) :
    PySem.W.WalkO q loose XP YP l.row.toRowW d [] (fun f vs => PySem.call f vs) := by
  refine Att.attach_call hn hdf fun w s₀ s1 mg mb fa o pm cd doc a vs ns G Y ho hd hcd hmg hobj hints hlen hg => ?_
  obtain ⟨K, fd, sp, KX, hb, hsp, hF⟩ := F w mg fa _ Y G.T.g hmg
  exact end_call KX G.T.g G.T.b G.T.builtins G.T.nolimit hg hobj hints (Nat.le_trans hlen hn2) hr hF hb fun H hO hS => hsp H a ns hlen hO hS
theorem room_at {n : Nat} (h : n ≤ 110) : Room (2 * (n + 1)) callerA := by
  have h1 : callerA.depth ≤ 301 := by decide
  have h2 : 1000 ≤ recursionLimit := by decide
  have h3 : callerA.units ≤ 100 := by decide
  have h4 : 9900 ≤ cLine := by decide
  exact ⟨rfl, by omega, by omega⟩
/-! ### the head's hook, with tables -/
/-- more facts: the module's name x is a tuple of these -/
inductive Ex where
  | tup (x : Str) (vs : List He.Dv)
def Ex.ok (K : PySem.W.Frag) : Ex → Bool
  | .tup x vs => He.tupB K x vs
def obsX (fa : List He.Fa) (xa : List Ex) (fn : List He.DefD) (K : PySem.W.Frag) : He.AlD := ((xa.all fun f => f.ok K) && (He.obsD fa fn K).1, (He.obsD fa fn K).2)
def obsXG (n : Nat) (fa : List He.Fa) (xa : List Ex) (fn : List He.DefD) (g : Addr → Option Obj) : He.AlD := obsX fa xa fn (He.frG g (He.asD g n))
def hookX (n : Nat) (fa : List He.Fa) (xa : List Ex) (fn : List He.DefD) : PySem.W.Hook where
  α := He.AlD
  obs := fun s => obsXG n fa xa fn s.heap.get?
  val := fun _ => He.valD fn
  says := fun _ h => ∃ K : PySem.W.Frag, K.In h ∧ He.SaysD fa fn K ∧ ∀ f ∈ xa, f.ok K = true
  of := fun _ _ e => by
    have e1 := congrArg (fun z : He.AlD => z.1) e
    have e2 := congrArg (fun z : He.AlD => z.2) e
    obtain ⟨h1, h2⟩ := He.ba e1
    exact ⟨_, He.frG_in, Prod.ext h2 e2, fun f hf => List.all_eq_true.mp h1 f hf⟩
  keeps := fun _ _ _ ⟨K, hK, c⟩ k => ⟨K, PySem.W.Frag.In.keeps hK k, c⟩
theorem obsXG_eq {n : Nat} {fa : List He.Fa} {xa : List Ex} {fn : List He.DefD} {g : Addr → Option Obj} {s : Shared} (h : ∀ a, g a = s.heap.get? a) : obsXG n fa xa fn g = (hookX n fa xa fn).obs s := by
  obtain rfl : g = s.heap.get? := funext h
  rfl
/-- the same from the tables: the law stands at key ("law", none), its only parameter is "script" -/
theorem walk_es {l : PySem.W.OpenLaw} {m n : Nat} {q : Program} {loose : List Str} {XP : (Str → Option Value) → Heap → Prop} {d : DefRec} {fa : List He.Fa} {sh : List Shp} {es : List Ent} {xa : List Ex} {fn : List He.DefD} {enL : Ent}
    (hm : l.most = some m) (hm2 : m ≤ sizeLine) (hdf : d.params.defaults = []) (hdn : d.name = ("law" : Str)) (hn : n ≤ 110) (hfn : fn = es.map (·.d))
    (hes : ∀ en ∈ es, EntOk fa sh en) (hsc : (es.all fun en => scB en.N en.ps en.d.scope) = true) (hsh : ∀ s ∈ sh, ShpOk es s) (hL : entOf es ("law", none) = some enL) (hps : enL.ps = [("script" : Str)]) (hdd : enL.d.dfl = [])
    (hb : ∀ (kV doc pm : Value) (an : Option Addr) (cdv ct : Value) (u : Value), bindArgs (PySem.W.fnOf enL.d.name enL.d.qual enL.d.params enL.d.body enL.d.scope .none kV doc pm an cdv ct) ⟨[u], []⟩ = pure [(("script" : Str), u)])
    (hglo : hasF (isGlo "law") fa = true)
    (pure_ : ∀ (K : PySem.W.Frag) (H : Hp) (a : Addr) (ns : List Int), (∀ f ∈ fa, f.ok K = true) → (∀ f ∈ xa, f.ok K = true) → ns.length ≤ m → Only H → SqL K H a (ns.map V.int) → lev K es (n + 1) ("law", none) [.ref a] H (fun v _ => v = .bl true) fun _ _ _ => False) :
    PySem.W.WalkO q loose XP (hookX 4 fa xa fn).says l.row.toRowW d [] (fun f vs => PySem.call f vs) := by
  refine walk_w (k := 2 * (n + 1)) (x := "script") hm hm2 hdf (room_at hn) ?_
  rintro w mg f h ⟨K, KX, c, cx⟩ G hmg
  rw [hdn] at hmg
  rw [hfn] at c
  have hfa : ∀ z ∈ fa, z.ok K = true := fun z hz => by
    obtain ⟨i, hi, e⟩ := List.getElem_of_mem hz
    exact c.fact i (by rw [List.getElem?_eq_getElem hi, e])
  have ef : f = He.fAd K (("law" : Str), (none : Option Str)) := by
    obtain ⟨z, hz, ez⟩ := hasF_of hglo
    have q := hfa z hz
    cases z with
    | glo y =>
      have e : ("law" : Str) = y := of_decide_eq_true ez
      subst e
      have g := He.glo_ok KX G q
      rw [hmg] at g
      exact (Value.ref.inj (Option.some.inj g))
    | _ => cases ez
  obtain ⟨mem, ek⟩ := entOf_ok hL
  obtain ⟨fd, F⟩ := fun_of c mem
  refine ⟨K, fd, lev K es (n + 1) ("law", none), KX, fun s u => ?_, fun H a ns h1 h2 h3 => pure_ K H a ns hfa cx h1 h2 h3, fun bs hin hns => ?_⟩
  · obtain ⟨oc, od, dV, kV, doc, pm, an, cdv, ct, osl, efd, look, code, hD, _⟩ := F.ex
    have edv : enL.d.dvs K = [] := by
      unfold He.DefD.dvs
      rw [hdd]
      rfl
    rcases hD with ⟨_, ed⟩ | ⟨ne, _⟩
    · subst efd ed
      exact .of_eq (hb kV doc pm an cdv ct u)
    · exact absurd edv ne
  · have S := scB_ok (List.all_eq_true.mp hsc enL mem)
    have cal := fun (i : Nat) (s : Shp) (hs : s ∈ sh) => callees (P := l.prog) (w := w) hin hns c hes hsc hsh i s hs
    rw [ek] at F
    rw [ef]
    have R := fn_g (P := l.prog) (w := w) (mg := mg) (base := bs) (k := 2 * n + 1) (sp := lev K es (n + 1) ("law", none)) F S (fun vs H Q E z => ?_) (fun cdv A outer st H vs Q E room gu z => ?_)
    · rw [hps] at R
      exact R
    · unfold lev at z
      rw [hL] at z
      exact z.1
    · unfold lev at z
      rw [hL] at z
      refine ⟨_, hes enL mem K (lev K es n) (fun cls dd _ H2 => E cls dd H2) _ ?_, z.2⟩
      exact {
        hK := rfl
        hN := rfl
        hsc := rfl
        nd := S.nd
        calm := fun _ => rfl
        cold := fun _ => room.hd
        gu := deeper_guards gu
        tk := takes_of rfl rfl rfl rfl
        po := passes_of rfl
        stk := fun _ => ⟨rfl, rfl, rfl⟩
        un := Nat.lt_of_le_of_lt (Nat.add_le_add_right (Nat.le_add_right _ _) _) room.un
        fns := fun _ => ⟨2 * n, room, fun s hs => cal n s hs⟩
        fo := hfa
        gx := ⟨bs, hin, hns⟩
        fn := fun _ _ => rfl }
end Rw

namespace Rw
open PySem PySem.Spec PyProof.Rows L2
section
variable {c : Cn} {a b d e o tg : Expr} {es : List Expr} {ta tb tc te to : TE} {t u : TT} {tA tK : TA} {wi wj : TI} {pos apos p p2 : Pos} {x y m : Str}
/-! ### one of two readings -/
def tEor (t1 t2 : TE) : TE := fun σ H Q => t1 σ H Q ∨ t2 σ H Q
theorem g_alt (h1 : GE c e ta) (h2 : GE c e tb) : GE c e (tEor ta tb) := fun X h => ⟨fun pins s σ H Q I q => q.elim ((h1 X h).run pins s σ H Q I) ((h2 X h).run pins s σ H Q I)⟩
/-- a list, a tuple, a text, a dict's keys -/
def iAny (K : PySem.W.Frag) (te : TE) : TI := fun σ H R => iSeq K te σ H R ∨ iStr te σ H R ∨ iKeys te σ H R
theorem gi_any (h : GE c e te) : GI c tg e (iAny c.K te) := fun X b => PI.or (gi_seq h X b) (PI.or (gi_str h X b) (gi_keys h X b))
/-! ### dict displays -/
theorem g_dict0 : GE c (.Dict [] [] pos) tDNewK := fun _ _ => pe_dnewK
theorem g_dict {ks : List (Option Expr)} {vs : List Expr} {trs : List (TE × TE)} (h : GP c pos ks vs trs) (hall : ks.all (·.isSome) = true := by rfl) (hl : ks.length = vs.length := by rfl) (h0 : ks ≠ [] := by exact List.cons_ne_nil _ _) (h15 : ks.length ≤ 15 := by exact Nat.le_of_ble_eq_true rfl) :
    GE c (.Dict ks vs pos) (tDisp trs) := fun X b => pe_disp (h X b) hall hl h0 h15
end
/-! ### shapes of defs with defaults -/
inductive Sr2 where
  | pos (i : Nat) | kw (j : Nat) | dfl (j : Nat)
def Sr2.src (ds : List He.Dv) : Sr2 → Src
  | .pos i => .pos i
  | .kw j => .kw j
  | .dfl j => .dfl (ds.getD j .non)
def plugW (pl : List Sr2) (us its ws : List Value) : List Value := pl.map fun s => match s with
  | .pos i => us.getD i .none
  | .kw j => ws.getD j .none
  | .dfl j => its.getD j .none
theorem plugW_rel {K : PySem.W.Frag} {ds : List He.Dv} {its : List Value} (rd : Vals (ds.map (He.Dv.v K)) its) {vs zs : List V} {us ws : List Value} (r : Vals vs us) (rz : Vals zs ws) : ∀ pl : List Sr2, (∀ j, Sr2.dfl j ∈ pl → j < ds.length) → Vals (plug K (pl.map (Sr2.src ds)) vs zs) (plugW pl us its ws)
  | [], _ => .nil
  | .pos i :: l, h => .cons (by show L2.RelV (nth vs i) _; rw [nth_at]; exact vals_getD r i) (plugW_rel rd r rz l fun j hj => h j (List.mem_cons_of_mem _ hj))
  | .kw i :: l, h => .cons (by show L2.RelV (nth zs i) _; rw [nth_at]; exact vals_getD rz i) (plugW_rel rd r rz l fun j hj => h j (List.mem_cons_of_mem _ hj))
  | .dfl i :: l, h => .cons (by
      have hi := h i List.mem_cons_self
      have q := vals_getD rd i
      rw [List.getD_eq_getElem?_getD, List.getElem?_map, List.getElem?_eq_getElem hi] at q
      show L2.RelV (He.Dv.v K (ds.getD i .non)) (its.getD i .none)
      rw [List.getD_eq_getElem?_getD, List.getElem?_eq_getElem hi]
      exact q) (plugW_rel rd r rz l fun j hj => h j (List.mem_cons_of_mem _ hj))
theorem shp_dfl {es : List Ent} {s : Shp} {en : Ent} (pl : List Sr2) (e : entOf es s.key = some en) (hd : en.d.dfl ≠ []) (hp : s.plan = pl.map (Sr2.src en.d.dfl)) (hj : (pl.all fun z => match z with | .dfl j => decide (j < en.d.dfl.length) | _ => true) = true)
    (h : ∀ (T : Addr) (kV doc pm : Value) (an : Option Addr) (cdv ct : Value) (us its ws : List Value), us.length = s.n → its.length = en.d.dfl.length → ws.length = s.ks.length →
      ∃ k, bindArgs (PySem.W.fnOf en.d.name en.d.qual en.d.params en.d.body en.d.scope (.ref T) kV doc pm an cdv ct) ⟨us, s.ks.zip ws⟩ = seqItems? (.ref T) >>= k ∧ k (some its.toArray) = pure (en.ps.zip (plugW pl us its ws))) : ShpOk es s := by
  refine ⟨en, e, fun K fd F => ?_⟩
  obtain ⟨oc, od, dV, kV, doc, pm, an, cdv, ct, osl, efd, look, code, hD, _⟩ := F.ex
  rcases hD with ⟨ed, _⟩ | ⟨_, T, o, its, m, eT, lT, oT, rT⟩
  · exact absurd (List.map_eq_nil_iff.mp ed) hd
  · subst efd eT
    have li : its.length = en.d.dfl.length := by
      rw [← rT.length]
      exact List.length_map ..
    refine ⟨fun us ws => plugW pl us its ws, ⟨fun st us ws kin l1 l2 => ?_, fun r rz => ?_⟩⟩
    · obtain ⟨k, e1, e2⟩ := h T kV doc pm an cdv ct us its ws l1 li l2
      refine BindsTo.of_looks fun M => ?_
      rw [e1]
      exact looks_items kin lT oT (.of_pure e2)
    · rw [hp]
      exact plugW_rel rT r rz pl fun j m => of_decide_eq_true (List.all_eq_true.mp hj _ m)
theorem all_nil {α : Type} {p : α → Prop} : ∀ x ∈ ([] : List α), p x := fun _ h => (List.not_mem_nil h).elim
theorem all_cons {α : Type} {p : α → Prop} {a : α} {l : List α} (h : p a) (hs : ∀ x ∈ l, p x) : ∀ x ∈ a :: l, p x := fun x hx => by
  rcases List.mem_cons.mp hx with e | e
  · rw [e]
    exact h
  · exact hs x e
end Rw

namespace Rw
open PySem PySem.Spec PyProof.Rows L2
/-! ### the pure part: steps -/
/-- all but what M names stays -/
def Ext (M : Addr → Prop) (H H' : Hp) : Prop := ∀ q o, ¬ M q → H q = some o → H' q = some o
def noM : Addr → Prop := fun _ => False
theorem noM_not {q : Addr} : ¬ noM q := fun h => h
theorem Ext.rfl {M : Addr → Prop} {H : Hp} : Ext M H H := fun _ _ _ h => h
theorem Ext.trans {M : Addr → Prop} {H H1 H2 : Hp} (h : Ext M H H1) (h2 : Ext M H1 H2) : Ext M H H2 := fun q o m e => h2 q o m (h q o m e)
theorem Ext.up {M : Addr → Prop} {H H1 : Hp} (h : Ext noM H H1) : Ext M H H1 := fun q o _ e => h q o noM_not e
theorem Ext.sub {M N : Addr → Prop} {H H1 : Hp} (h : Ext M H H1) (s : ∀ q, M q → N q) : Ext N H H1 := fun q o m e => h q o (fun z => m (s q z)) e
theorem Ext.new {M : Addr → Prop} {H : Hp} {p : Addr} {o : HO} (h : H p = none) : Ext M H (upd H p o) := fun q o' _ e => by
  rw [upd_ne (fun z => by rw [z, h] at e; cases e)]
  exact e
theorem Ext.set {M : Addr → Prop} {H : Hp} {p : Addr} {o : HO} (h : M p) : Ext M H (upd H p o) := fun q o' m e => by
  rw [upd_ne (fun z => m (by rw [z]; exact h))]
  exact e
theorem ne_new {H : Hp} {p q : Addr} {o : HO} (h : H p = some o) (h' : H q = none) : q ≠ p := fun e => by rw [e, h] at h'; cases h'
theorem get_new {H : Hp} {p q : Addr} {o o' : HO} (h : H p = none) (e : H q = some o) : upd H p o' q = some o := Ext.new (M := noM) h q o noM_not e
section
variable {K : PySem.W.Frag} {t u : TS} {D : Ends} {σ : L2.St} {H : Hp} {Q : VK} {te ta tb tc to : TE} {tA tK : TA} {c d : TT} {g : TG} {R : Bool → Hp → Prop} {QA : List V → Hp → Prop} {Qs : L2.St → Hp → Prop}
theorem s_seq (h : t { D with nx := u D } σ H) : tSeq t u D σ H := h
theorem s_next (h : D.nx σ H) : tNext D σ H := h
theorem s_ret (h : te σ H D.rt) : tRet te D σ H := h
theorem s_retN (h : D.rt .non H) : tRetN D σ H := h
theorem s_if (h : c σ H fun b H1 => if b = true then t D σ H1 else u D σ H1) : tIfS c t u D σ H := h
theorem s_drop (h : te σ H fun _ H1 => D.nx σ H1) : tDrop te D σ H := h
theorem s_asg (h : te σ H fun x H1 => g x σ H1 D.nx) : tAsg te g D σ H := h
theorem s_par {i j : Nat} (h : tA σ H fun vs H1 => ∃ v w, vs = [v, w] ∧ D.nx ((σ.set i (some v)).set j (some w)) H1) : tPar i j tA D σ H := h
theorem x_name {i : Nat} {v : V} (h : Qs (σ.set i (some v)) H) : gName i v σ H Qs := h
theorem x_sub {ti : TE} {ts : TSet} {v : V} (h : to σ H fun o H1 => ti σ H1 fun i H2 => ts o i v H2 fun H3 => Qs σ H3) : gSub to ti ts v σ H Qs := h
theorem x_nil  (h : Qs σ H) : gNil [] σ H Qs := ⟨rfl, h⟩
theorem x_cons {gg : TGs} {v : V} {r : List V} (h : g v σ H fun σ' H' => gg r σ' H' Qs) : gCons g gg (v :: r) σ H Qs := ⟨v, r, rfl, h⟩
theorem x_tup {gg : TGs} {n : Nat} {a : Addr} {xs : List V} (e : H a = some (.tup xs)) (l : xs.length = n) (h : gg xs σ H Qs) : gUnp K n gg (.ref a) σ H Qs := .inl ⟨a, xs, rfl, .inl (.inl e), l, h⟩
theorem x_lst {gg : TGs} {n : Nat} {a : Addr} {xs : List V} (e : H a = some (.lst xs)) (l : xs.length = n) (h : gg xs σ H Qs) : gUnp K n gg (.ref a) σ H Qs := .inr ⟨a, xs, rfl, .inl (.inl e), l, h⟩
theorem e_var {i : Nat} {v : V} (e : σ[i]? = some (some v)) (h : Q v H) : tVar i σ H Q := ⟨v, e, h⟩
theorem e_c {v : V} (h : Q v H) : tC v σ H Q := h
theorem e_op {r : R2} (h : ta σ H fun x H1 => tb σ H1 fun y H2 => r x y H2 Q) : tOp r ta tb σ H Q := h
theorem e_un {r : V → Hp → VK → Prop} (h : ta σ H fun x H1 => r x H1 Q) : tUn r ta σ H Q := h
theorem c_test (h : te σ H fun x H1 => ∃ k, x = .bl k ∧ R k H1) : tTest te σ H R := h
theorem c_tru (h : te σ H fun x H1 => ∃ k, TruV K x H1 k ∧ R k H1) : tTru K te σ H R := h
theorem c_and (h : c σ H fun b H1 => if b = true then d σ H1 R else R false H1) : tAnd c d σ H R := h
theorem c_or (h : c σ H fun b H1 => if b = true then R true H1 else d σ H1 R) : tOr c d σ H R := h
theorem c_not (h : c σ H fun b H1 => R (!b) H1) : tNot c σ H R := h
theorem e_ite (h : c σ H fun b H1 => if b = true then ta σ H1 Q else tb σ H1 Q) : tIf c ta tb σ H Q := h
theorem e_and (h : ta σ H fun x H1 => ∃ k, TruV K x H1 k ∧ if k = true then tb σ H1 Q else Q x H1) : tAndT K ta tb σ H Q := h
theorem e_or (h : ta σ H fun x H1 => ∃ k, TruV K x H1 k ∧ if k = true then Q x H1 else tb σ H1 Q) : tOrT K ta tb σ H Q := h
theorem e_not (h : ta σ H fun x H1 => ∃ k, TruV K x H1 k ∧ Q (.bl (!k)) H1) : tNotT K ta σ H Q := h
theorem e_chain {r r' : R2} (h : ta σ H fun x H1 => tb σ H1 fun y H2 => r x y H2 fun z H3 => ∃ k, z = .bl k ∧ (if k = true then tc σ H3 fun w' H4 => r' y w' H4 Q else Q (.bl false) H3)) : tChain r r' ta tb tc σ H Q := h
theorem a_nil (h : QA [] H) : tNil σ H QA := h
theorem a_cons (h : te σ H fun x H1 => tA σ H1 fun xs H2 => QA (x :: xs) H2) : tCons te tA σ H QA := h
theorem e_cb {r : List V → Hp → VK → Prop} (h : tA σ H fun vs H1 => r vs H1 Q) : tCB r tA σ H Q := h
theorem e_bm {T : String} {r : V → List V → Hp → VK → Prop} (h : to σ H fun x H1 => tyV K T x H1 ∧ tA σ H1 fun xs H2 => r x xs H2 Q) : tBM K T r to tA σ H Q := h
theorem e_bm0 {T : String} {r : V → List V → Hp → VK → Prop} (h : to σ H fun x H1 => tyV K T x H1 ∧ r x [] H1 Q) : tBM0 K T r to σ H Q := h
theorem e_sl {r : V → Option Int → Option Int → Hp → VK → Prop} {tl th : TO} (h : te σ H fun x H1 => tl σ H1 fun l H2 => th σ H2 fun u H3 => r x l u H3 Q) : tSl r te tl th σ H Q := h
theorem p_none {QO : Option Int → Hp → Prop} (h : QO none H) : tNoPart σ H QO := h
theorem p_some {QO : Option Int → Hp → Prop} (h : te σ H fun x H1 => ∃ i, x = .int i ∧ QO (some i) H1) : tPart te σ H QO := h
theorem p_int {i : Int} {q : Int → Prop} (h : q i) : ∃ j, V.int i = .int j ∧ q j := ⟨i, rfl, h⟩
def New (n : Nat) (H : Hp) (o : HO) (Q : VK) : Prop := n ≤ sizeLine ∧ ∀ p, H p = none → Q (.ref p) (upd H p o)
theorem e_tup (h : tA σ H fun xs H1 => New xs.length H1 (.tup xs) Q) : tTup tA σ H Q := h
theorem e_lst (h : tA σ H fun xs H1 => New xs.length H1 (.lst xs) Q) : tLst tA σ H Q := h
/-- a new object: what is known of the heap behind -/
theorem n_obj {o : HO} {n : Nat} (l : n ≤ sizeLine) (h : ∀ p H2, H p = none → Ext noM H H2 → H2 p = some o → Q (.ref p) H2) : New n H o Q := ⟨l, fun p e => h p _ e (Ext.new e) upd_same⟩
theorem n_obj' {o : HO} {QR : V → Hp → Prop} (h : ∀ p H2, H p = none → Ext noM H H2 → H2 p = some o → QR (.ref p) H2) : ∀ p, H p = none → QR (.ref p) (upd H p o) := fun p e => h p _ e (Ext.new e) upd_same
/-! values -/
theorem v_addI {i j : Int} (h : Q (.int (i + j)) H) : rAddU (.int i) (.int j) H Q := h
theorem v_addS {i j : Str} (l : i.length + j.length ≤ sizeLine) (h : Q (.str (i ++ j)) H) : rAddU (.str i) (.str j) H Q := ⟨l, h⟩
theorem v_addL {a b : Addr} {xs ys : List V} (e : H a = some (.lst xs)) (e2 : H b = some (.lst ys)) (l : xs.length + ys.length ≤ sizeLine) (h : ∀ p H2, H p = none → Ext noM H H2 → H2 p = some (.lst (xs ++ ys)) → Q (.ref p) H2) : rAddU (.ref a) (.ref b) H Q := ⟨xs, ys, e, e2, l, n_obj' h⟩
theorem v_sub {i j : Int} (h : Q (.int (i - j)) H) : rSubU (.int i) (.int j) H Q := ⟨i, j, rfl, rfl, h⟩
theorem v_mul {i j : Int} (l : CMul i j) (h : Q (.int (i * j)) H) : rMulU (.int i) (.int j) H Q := ⟨l, h⟩
theorem v_div {i j : Int} (l : CDiv i j) (h : Q (.int (i / j)) H) : rDivU (.int i) (.int j) H Q := ⟨i, j, rfl, rfl, l, h⟩
theorem v_mod {i j : Int} (l : 0 < j) (h : Q (.int (i % j)) H) : rModU (.int i) (.int j) H Q := ⟨i, j, rfl, rfl, l, h⟩
theorem v_pow {i j : Int} (l : CPow i j) (h : Q (.int (i ^ j.toNat)) H) : rPowU (.int i) (.int j) H Q := ⟨i, j, rfl, rfl, l, h⟩
theorem v_neg {i : Int} (h : Q (.int (-i)) H) : rNegU (.int i) H Q := ⟨i, rfl, h⟩
theorem v_lt {i j : Int} (h : Q (.bl (decide (i < j))) H) : rLtU (.int i) (.int j) H Q := ⟨i, j, rfl, rfl, h⟩
theorem v_le {i j : Int} (h : Q (.bl (decide (i ≤ j))) H) : rLeU (.int i) (.int j) H Q := ⟨i, j, rfl, rfl, h⟩
theorem v_gt {i j : Int} (h : Q (.bl (decide (j < i))) H) : rGtU (.int i) (.int j) H Q := ⟨i, j, rfl, rfl, h⟩
theorem v_ge {i j : Int} (h : Q (.bl (decide (j ≤ i))) H) : rGeU (.int i) (.int j) H Q := ⟨i, j, rfl, rfl, h⟩
theorem v_is {x : V} (h : Q (.bl (decide (x = .non))) H) : rIsU x .non H Q := ⟨rfl, h⟩
theorem v_isnt {x : V} (h : Q (.bl (!decide (x = .non))) H) : rIsntU x .non H Q := ⟨rfl, h⟩
theorem v_eqI {i j : Int} (h : Q (.bl (decide (i = j))) H) : rEqU K (.int i) (.int j) H Q := .inl ⟨rfl, by
  have e : decide (V.int i = V.int j) = decide (i = j) := decide_eq_decide.mpr ⟨V.int.inj, fun z => congrArg _ z⟩
  rw [e]
  exact h⟩
theorem v_eqS {i j : Str} (h : Q (.bl (decide (i = j))) H) : rEqU K (.str i) (.str j) H Q := .inl ⟨rfl, by
  have e : decide (V.str i = V.str j) = decide (i = j) := decide_eq_decide.mpr ⟨V.str.inj, fun z => congrArg _ z⟩
  rw [e]
  exact h⟩
theorem v_neI {i j : Int} (h : Q (.bl (!decide (i = j))) H) : rNeU K (.int i) (.int j) H Q := .inl ⟨rfl, by
  have e : decide (V.int i = V.int j) = decide (i = j) := decide_eq_decide.mpr ⟨V.int.inj, fun z => congrArg _ z⟩
  rw [e]
  exact h⟩
theorem v_neS {i j : Str} (h : Q (.bl (!decide (i = j))) H) : rNeU K (.str i) (.str j) H Q := .inl ⟨rfl, by
  have e : decide (V.str i = V.str j) = decide (i = j) := decide_eq_decide.mpr ⟨V.str.inj, fun z => congrArg _ z⟩
  rw [e]
  exact h⟩
theorem v_ixL {a : Addr} {xs : List V} {i : Int} {v : V} (e : H a = some (.lst xs)) (l : atI xs i = some v) (h : Q v H) : rSubU' K (.ref a) (.int i) H Q := .inl (.inl ⟨a, xs, i, v, rfl, rfl, .inl (.inl e), l, h⟩)
theorem v_ixT {a : Addr} {xs : List V} {i : Int} {v : V} (e : H a = some (.tup xs)) (l : atI xs i = some v) (h : Q v H) : rSubU' K (.ref a) (.int i) H Q := .inl (.inr (.inl ⟨a, xs, i, v, rfl, rfl, .inl (.inl e), l, h⟩))
theorem v_ixS {z : Str} {i : Int} {n : Nat} (s : z.length ≤ sizeLine) (l : atI z.cps.toList i = some n) (h : Q (.str ⟨#[n]⟩) H) : rSubU' K (.str z) (.int i) H Q := .inl (.inr (.inr ⟨z, i, n, rfl, rfl, s, l, h⟩))
theorem v_lenL {a : Addr} {xs : List V} (e : H a = some (.lst xs)) (h : Q (.int xs.length) H) : rLenU K [.ref a] H Q := ⟨_, _, rfl, .inl (.inl ⟨xs, .inl (.inl e), rfl⟩), h⟩
theorem v_lenT {a : Addr} {xs : List V} (e : H a = some (.tup xs)) (h : Q (.int xs.length) H) : rLenU K [.ref a] H Q := ⟨_, _, rfl, .inl (.inr ⟨xs, .inl (.inl e), rfl⟩), h⟩
theorem v_lenS {z : Str} (s : z.length ≤ sizeLine) (h : Q (.int z.length) H) : rLenU K [.str z] H Q := ⟨_, _, rfl, .inl ⟨s, rfl⟩, h⟩
theorem v_abs {i : Int} (h : Q (.int (if i < 0 then -i else i)) H) : rAbsU [.int i] H Q := ⟨i, rfl, h⟩
theorem v_max {i j : Int} (h : Q (.int (if j > i then j else i)) H) : rMax2U [.int i, .int j] H Q := ⟨i, j, rfl, h⟩
theorem v_min {i j : Int} (h : Q (.int (if j < i then j else i)) H) : rMin2U [.int i, .int j] H Q := ⟨i, j, rfl, h⟩
theorem v_divmod {i j : Int} (l : 0 < j ∧ j.natAbs.log2 < 9000) (h : ∀ p H2, H p = none → Ext noM H H2 → H2 p = some (.tup [.int (i / j), .int (i % j)]) → Q (.ref p) H2) : rDmU [.int i, .int j] H Q := ⟨i, j, rfl, l, n_obj' h⟩
theorem v_append {l : Addr} {xs : List V} {y : V} (e : H l = some (.lst xs)) (z : xs.length < sizeLine) (h : Q .non (upd H l (.lst (xs ++ [y])))) : rAppend (.ref l) [y] H Q := ⟨l, xs, y, rfl, rfl, e, z, h⟩
theorem v_inst {x : V} {n T : String} {b : Bool} (ty : TyX K H x (.type n)) (hk : PySem.W.kitOne K (.type n) (.type T) = some b) (h : Q (.bl b) H) : rInst K [x, .ty T] H Q := .inl ⟨x, .ty T, .type n, .type T, b, rfl, .ty T, ty, hk, h⟩
theorem b_bl {b : Bool} {q : Bool → Prop} (h : q b) : ∃ k, V.bl b = .bl k ∧ q k := ⟨b, rfl, h⟩
theorem b_tru {b : Bool} {q : Bool → Prop} (h : q b) : ∃ k, TruV K (.bl b) H k ∧ q k := ⟨b, rfl, h⟩
theorem b_truI {i : Int} {q : Bool → Prop} (h : q (i != 0)) : ∃ k, TruV K (.int i) H k ∧ q k := ⟨_, rfl, h⟩
theorem i_dec {p : Prop} [Decidable p] {a b : Prop} (h1 : p → a) (h2 : ¬ p → b) : if decide p = true then a else b := by
  by_cases h : p
  · rw [if_pos (decide_eq_true h)]
    exact h1 h
  · rw [if_neg (by rw [decide_eq_false h]; exact Bool.false_ne_true)]
    exact h2 h
theorem i_ndec {p : Prop} [Decidable p] {a b : Prop} (h1 : ¬ p → a) (h2 : p → b) : if (!decide p) = true then a else b := by
  by_cases h : p
  · rw [if_neg (by rw [decide_eq_true h]; exact Bool.false_ne_true)]
    exact h2 h
  · rw [if_pos (by rw [decide_eq_false h]; rfl)]
    exact h1 h
theorem i_both {k l : Bool} {q : Bool → Prop} (h : q (k && l)) : if k = true then q l else q false := by
  cases k
  · exact h
  · exact h
theorem i_either {k l : Bool} {q : Bool → Prop} (h : q (k || l)) : if k = true then q true else q l := by
  cases k
  · exact h
  · exact h
theorem i_t {a b : Prop} (h : a) : if true = true then a else b := by rw [if_pos rfl]; exact h
theorem i_f {a b : Prop} (h : b) : if false = true then a else b := by rw [if_neg Bool.false_ne_true]; exact h
theorem i_nf {a b : Prop} (h : a) : if (!false) = true then a else b := by rw [if_pos (show (!false) = true from rfl)]; exact h
theorem i_nt {a b : Prop} (h : b) : if (!true) = true then a else b := by rw [if_neg (show ¬ (!true) = true from Bool.false_ne_true)]; exact h
theorem i_b {k : Bool} {a b : Prop} (h1 : k = true → a) (h2 : k = false → b) : if k = true then a else b := by
  cases k
  · exact i_f (h2 rfl)
  · exact i_t (h1 rfl)
end
section
variable {c : Cn} {x : Str} {na : Nat} {ks : List Str} {tA tK : TA} {σ : L2.St} {H : Hp} {Q : VK}
theorem e_fn {hot top : Bool} {K : PySem.W.Frag} {fa : List He.Fa} {sh : List Shp} {Ph : Ky → Sp} {N : List Str} {sc : Scope} {fnn : Str → Bool} {W : WX} {k : Ky} {nn : Nat} {kk : List Str} {pl : List Src} (hs : shpOf sh (x, none) (([] : List V).length + na) ks = some ⟨k, nn, kk, pl⟩)
    (h : tA σ H fun vs H1 => tK σ H1 fun zs H2 => vs.length = na ∧ zs.length = ks.length ∧ Ph k (plug K pl ([] ++ vs) zs) H2 Q (WE W σ)) : tFn ⟨hot, top, K, fa, sh, Ph, N, sc, fnn, W⟩ x na ks tA tK σ H Q := ⟨_, hs, h⟩
theorem f_go {vs zs : List V} {Ph : Ky → Sp} {k : Ky} {K : PySem.W.Frag} {pl : List Src} {first : List V} {E : XK} (h1 : vs.length = na) (h2 : zs.length = ks.length) {ws : List V} (e : plug K pl (first ++ vs) zs = ws) (h : Ph k ws H Q E) : vs.length = na ∧ zs.length = ks.length ∧ Ph k (plug K pl (first ++ vs) zs) H Q E := ⟨h1, h2, by rw [e]; exact h⟩
end
theorem ty_non {K : PySem.W.Frag} {H : Hp} : TyX K H .non (.type "NoneType") := .base .non
theorem ty_bl {K : PySem.W.Frag} {H : Hp} {b : Bool} : TyX K H (.bl b) (.type "bool") := .base (.bl b)
theorem ty_int {K : PySem.W.Frag} {H : Hp} {i : Int} : TyX K H (.int i) (.type "int") := .base (.int i)
theorem ty_str {K : PySem.W.Frag} {H : Hp} {z : Str} : TyX K H (.str z) (.type "str") := .base (.str z)
theorem ty_lst {K : PySem.W.Frag} {H : Hp} {a : Addr} {xs : List V} (e : H a = some (.lst xs)) : TyX K H (.ref a) (.type "list") := .base (.lst e)
theorem ty_tup {K : PySem.W.Frag} {H : Hp} {a : Addr} {xs : List V} (e : H a = some (.tup xs)) : TyX K H (.ref a) (.type "tuple") := .base (.tup e)
theorem ty_dK {K : PySem.W.Frag} {H : Hp} {a : Addr} {xs : List (Key × V)} (e : H a = some (.dK xs)) : TyX K H (.ref a) (.type "dict") := .base (.dK e)
end Rw

namespace Rw
open PySem PySem.Spec PyProof.Rows L2
/-! loops -/
/-- the walk J tells xs, where P holds -/
def Tells (J : It) (xs : List V) (P : Nat → Hp → Prop) : Prop := ∀ k H, P k H → (∀ x, xs[k]? = some x → J.go k H ∧ ∀ x' H', J.yld k H x' H' → H' = H ∧ x' = x) ∧ (xs.length ≤ k → J.stop k H)
def rngL (lo : Int) (n : Nat) : List V := (List.range n).map fun k => .int (lo + (k : Nat))
theorem rngL_len {lo : Int} {n : Nat} : (rngL lo n).length = n := by simp [rngL]
theorem rngL_at {lo : Int} {n k : Nat} {x : V} (h : (rngL lo n)[k]? = some x) : k < n ∧ x = .int (lo + k) := by
  unfold rngL at h
  rw [List.getElem?_map] at h
  by_cases hk : k < n
  · rw [List.getElem?_range hk] at h
    exact ⟨hk, (Option.some.inj h).symm⟩
  · rw [List.getElem?_eq_none (by simpa using hk)] at h
    cases h
theorem tells_rng {lo : Int} {n : Nat} {P : Nat → Hp → Prop} : Tells (Itr lo n) (rngL lo n) P := fun k H _ => by
  refine ⟨fun x hx => ?_, fun h => ?_⟩
  · obtain ⟨h1, h2⟩ := rngL_at hx
    exact ⟨h1, fun x' H' y => ⟨y.1, y.2.trans h2.symm⟩⟩
  · rw [rngL_len] at h
    exact h
def strL (z : Str) : List V := z.cps.toList.map fun c => .str ⟨#[c]⟩
theorem strL_len {z : Str} : (strL z).length = z.length := by simp [strL, Str.length]
theorem tells_str {z : Str} {P : Nat → Hp → Prop} : Tells (Its z) (strL z) P := fun k H _ => by
  refine ⟨fun x hx => ?_, fun h => (show z.cps.size ≤ k by simpa [strL] using h)⟩
  unfold strL at hx
  rw [List.getElem?_map] at hx
  by_cases hk : k < z.cps.size
  · have e : z.cps.toList[k]? = some z.cps[k] := by simp [hk]
    rw [e] at hx
    obtain rfl := Option.some.inj hx
    refine ⟨hk, fun x' H' y => ⟨y.1, ?_⟩⟩
    obtain ⟨c, e1, e2⟩ := y.2
    rw [Array.getElem?_eq_getElem hk] at e1
    obtain rfl := Option.some.inj e1
    exact e2
  · rw [List.getElem?_eq_none (by simpa using hk)] at hx
    cases hx
theorem tells_lst {K : PySem.W.Frag} {a : Addr} {xs : List V} {P : Nat → Hp → Prop} (h : ∀ k H, P k H → SqL K H a xs) : Tells (Itl K a) xs P := fun k H p => by
  have q := h k H p
  refine ⟨fun x hx => ⟨⟨xs, x, q, hx⟩, fun x' H' y => ⟨y.1, ?_⟩⟩, fun l => ⟨xs, q, l⟩⟩
  have e := y.2 xs q
  rw [hx] at e
  exact (Option.some.inj e).symm
theorem tells_tup {K : PySem.W.Frag} {a : Addr} {xs : List V} {P : Nat → Hp → Prop} (h : ∀ k H, P k H → SqT K H a xs) : Tells (Itt K a) xs P := fun k H p => by
  have q := h k H p
  refine ⟨fun x hx => ⟨⟨xs, x, q, hx⟩, fun x' H' y => ⟨y.1, ?_⟩⟩, fun l => ⟨xs, q, l⟩⟩
  have e := y.2 xs q
  rw [hx] at e
  exact (Option.some.inj e).symm
section
variable {K : PySem.W.Frag} {σ : L2.St} {H H1 : Hp} {Q : VK} {te : TE} {J : It} {xs : List V} {i : Nat} {D : Ends} {tb : TS} {wi : TI}
theorem wipe1 {σ : L2.St} {i : Nat} {v : Option V} : wipe ((wipe σ [i]).set i v) [i] = wipe σ [i] := by
  show (List.set (List.set (List.set σ i none) i v) i none) = List.set σ i none
  rw [List.set_set, List.set_set]
/-- what a comprehension asks for, J its walk -/
abbrev LcAsk (J : It) (g : TG) (tt : TT) (te : TE) (vs : List Nat) (σ : L2.St) (H1 : Hp) (Q : VK) : Prop := ∀ D, H1 D = none → ∃ W : Nat → Nat → Hp → Prop, (∃ m, W 0 m (upd H1 D (.lst []))) ∧ ∀ i m H, W i m H →
  (J.stop i H ∧ Q (.ref D) H) ∨ (J.go i H ∧ ∃ Nx : Hp → Prop, (∀ H', Nx H' → ∃ m', m' < m ∧ W (i + 1) m' H') ∧ ∀ x H', J.yld i H x H' → g x (wipe σ vs) H' fun σ2 H2 => wipe σ2 vs = wipe σ vs ∧ tt σ2 H2 fun b H3 =>
    if b = true then te σ2 H3 fun y H4 => ∃ acc, H4 D = some (.lst acc) ∧ acc.length < sizeLine ∧ Nx (upd H4 D (.lst (acc ++ [y]))) else Nx H3)
theorem e_lc {g : TG} {tt : TT} {vs : List Nat} (h : wi σ H fun J H1 => LcAsk J g tt te vs σ H1 Q) : tLc wi g tt te vs σ H Q := h
/-- [e for x in xs if t], P: the new list's place, the turn, the list so far -/
theorem lc_any {g : TG} {tt : TT} {vs : List Nat} (P : Addr → Nat → Hp → Prop) (hJ : ∀ d, Tells J xs (P d)) (h0 : ∀ d H2, H1 d = none → Ext noM H1 H2 → H2 d = some (.lst []) → P d 0 H2)
    (hs : ∀ d k H x, P d k H → xs[k]? = some x → g x (wipe σ vs) H fun σ2 H2 => wipe σ2 vs = wipe σ vs ∧ tt σ2 H2 fun b H3 => if b = true then te σ2 H3 fun y H4 => ∃ acc, H4 d = some (.lst acc) ∧ acc.length < sizeLine ∧ P d (k + 1) (upd H4 d (.lst (acc ++ [y]))) else P d (k + 1) H3)
    (he : ∀ d H, P d xs.length H → Q (.ref d) H) : LcAsk J g tt te vs σ H1 Q := by
  intro d hd
  refine ⟨fun k m H => P d k H ∧ k + m = xs.length, ⟨xs.length, h0 d _ hd (Ext.new hd) upd_same, Nat.zero_add _⟩, fun k m H ⟨p, hm⟩ => ?_⟩
  have t := hJ d k H p
  cases m with
  | zero =>
    have e : k = xs.length := hm
    subst e
    exact .inl ⟨t.2 (Nat.le_refl _), he d H p⟩
  | succ m =>
    have hk : k < xs.length := by omega
    have ex : xs[k]? = some xs[k] := List.getElem?_eq_getElem hk
    obtain ⟨go, yl⟩ := t.1 _ ex
    refine .inr ⟨go, P d (k + 1), fun H' q => ⟨m, Nat.lt_succ_self m, q, by omega⟩, fun x H' hy => ?_⟩
    obtain ⟨e1, e2⟩ := yl x H' hy
    subst e1 e2
    exact hs d k H' _ p ex
/-- of one name, no test -/
theorem lc_map (P : Addr → Nat → Hp → Prop) (hJ : ∀ d, Tells J xs (P d)) (h0 : ∀ d H2, H1 d = none → Ext noM H1 H2 → H2 d = some (.lst []) → P d 0 H2)
    (hs : ∀ d k H x, P d k H → xs[k]? = some x → te ((wipe σ [i]).set i (some x)) H fun y H4 => ∃ acc, H4 d = some (.lst acc) ∧ acc.length < sizeLine ∧ P d (k + 1) (upd H4 d (.lst (acc ++ [y]))))
    (he : ∀ d H, P d xs.length H → Q (.ref d) H) : LcAsk J (gName i) tYes te [i] σ H1 Q := by
  refine lc_any P hJ h0 (fun d k H x p hx => ?_) he
  refine ⟨wipe1, ?_⟩
  have z := hs d k H x p hx
  unfold tYes
  dsimp only
  rw [if_pos rfl]
  exact z
/-- [e for x in xs], e without any trace -/
theorem lc_pure (f : V → V) (hJ : ∀ P, (∀ k H, P k H → Ext noM H1 H) → Tells J xs P) (hl : xs.length < sizeLine)
    (hs : ∀ H x (R : VK), x ∈ xs → Ext noM H1 H → R (f x) H → te ((wipe σ [i]).set i (some x)) H R)
    (he : ∀ d H, H1 d = none → Ext noM H1 H → H d = some (.lst (xs.map f)) → Q (.ref d) H) : LcAsk J (gName i) tYes te [i] σ H1 Q := by
  refine lc_map (fun d k H => H1 d = none ∧ Ext noM H1 H ∧ H d = some (.lst ((xs.take k).map f))) (fun d => hJ _ fun k H p => p.2.1) (fun d H2 h1 h2 h3 => ⟨h1, h2, h3⟩) (fun d k H x p hx => ?_) fun d H p => ?_
  · obtain ⟨h1, h2, h4⟩ := p
    refine hs H x _ (List.mem_of_getElem? hx) h2 ⟨_, h4, ?_, h1, fun q o _ e => ?_, ?_⟩
    · rw [List.length_map]
      exact Nat.lt_of_le_of_lt (List.length_take_le' _ _) hl
    · rw [upd_ne (ne_new e h1).symm]
      exact h2 q o noM_not e
    · rw [upd_same, List.take_add_one, hx]
      simp
  · obtain ⟨h1, h2, h4⟩ := p
    rw [List.take_length] at h4
    exact he d H h1 h2 h4
def at1 (p : Addr) : Addr → Prop := fun q => q = p
/-- [e for g in xs if t]: Rel d tells what e leaves for an item, beside the new list at d -/
theorem lc_rel {g : TG} {tt : TT} {vs : List Nat} (sx : V → L2.St) (pd : V → Bool) (Rel : Addr → Hp → V → V → Prop) (mono : ∀ d H H2 x y, Ext (at1 d) H H2 → Rel d H x y → Rel d H2 x y) (hJ : ∀ P, (∀ k H, P k H → Ext noM H1 H) → Tells J xs P) (hl : xs.length < sizeLine)
    (hw : ∀ x ∈ xs, wipe (sx x) vs = wipe σ vs) (hg : ∀ H x (R : L2.St → Hp → Prop), x ∈ xs → Ext noM H1 H → R (sx x) H → g x (wipe σ vs) H R) (ht : ∀ H x (R : Bool → Hp → Prop), x ∈ xs → Ext noM H1 H → R (pd x) H → tt (sx x) H R)
    (hs : ∀ d H x (R : VK), x ∈ xs → pd x = true → Ext noM H1 H → H d ≠ none → (∀ y H2, Ext noM H H2 → Rel d H2 x y → R y H2) → te (sx x) H R)
    (he : ∀ d H ys, H1 d = none → Ext noM H1 H → H d = some (.lst ys) → Paired (Rel d H) (xs.filter pd) ys → Q (.ref d) H) : LcAsk J g tt te vs σ H1 Q := by
  have pm : ∀ {d : Addr} {H H2 : Hp} {as bs : List V}, Ext (at1 d) H H2 → Paired (Rel d H) as bs → Paired (Rel d H2) as bs := fun {d H H2 as bs} x p => by
    induction p with
    | nil => exact .nil
    | cons h _ ih => exact .cons (mono _ _ _ _ _ x h) ih
  refine lc_any (fun d k H => H1 d = none ∧ Ext noM H1 H ∧ ∃ ys, H d = some (.lst ys) ∧ ys.length ≤ k ∧ Paired (Rel d H) ((xs.take k).filter pd) ys) (fun d => hJ _ fun k H p => p.2.1) (fun d H2 h1 h2 h3 => ⟨h1, h2, [], h3, Nat.zero_le _, .nil⟩) (fun d k H x p hx => ?_) fun d H p => ?_
  · obtain ⟨h1, h2, ys, h4, h5, h6⟩ := p
    have mx := List.mem_of_getElem? hx
    have hk : k < xs.length := (List.getElem?_eq_some_iff.mp hx).1
    refine hg H x _ mx h2 ⟨hw x mx, ht H x _ mx h2 ?_⟩
    cases hp : pd x with
    | false =>
      rw [if_neg Bool.false_ne_true]
      refine ⟨h1, h2, ys, h4, Nat.le_succ_of_le h5, ?_⟩
      rw [List.take_add_one, hx, List.filter_append]
      have e : List.filter pd (some x).toList = [] := by simp [hp]
      rw [e, List.append_nil]
      exact h6
    | true =>
      rw [if_pos rfl]
      refine hs d H x _ mx hp h2 (by rw [h4]; exact fun z => nomatch z) fun y H2 x2 ry => ⟨ys, x2 _ _ noM_not h4, Nat.lt_of_le_of_lt h5 (Nat.lt_trans hk hl), h1, fun q o m e => ?_, ys ++ [y], upd_same, ?_, ?_⟩
      · rw [upd_ne (ne_new e h1).symm]
        exact x2 q o m (h2 q o m e)
      · rw [List.length_append, List.length_singleton]
        exact Nat.succ_le_succ h5
      · rw [List.take_add_one, hx, List.filter_append]
        have e : List.filter pd (some x).toList = [x] := by simp [hp]
        rw [e]
        have up : Ext (at1 d) H2 (upd H2 d (.lst (ys ++ [y]))) := Ext.set rfl
        exact Paired.snoc (pm (x2.up.trans up) h6) (mono _ _ _ _ _ up ry)
  · obtain ⟨h1, h2, ys, h4, h5, h6⟩ := p
    rw [List.take_length] at h6
    exact he d H ys h1 h2 h4 h6
/-- [f x for g in xs if p x], without any trace -/
theorem lc_gen {g : TG} {tt : TT} {vs : List Nat} (sx : V → L2.St) (pd : V → Bool) (f : V → V) (hJ : ∀ P, (∀ k H, P k H → Ext noM H1 H) → Tells J xs P) (hl : xs.length < sizeLine)
    (hw : ∀ x ∈ xs, wipe (sx x) vs = wipe σ vs) (hg : ∀ H x (R : L2.St → Hp → Prop), x ∈ xs → Ext noM H1 H → R (sx x) H → g x (wipe σ vs) H R) (ht : ∀ H x (R : Bool → Hp → Prop), x ∈ xs → Ext noM H1 H → R (pd x) H → tt (sx x) H R)
    (hs : ∀ H x (R : VK), x ∈ xs → pd x = true → Ext noM H1 H → R (f x) H → te (sx x) H R) (he : ∀ d H, H1 d = none → Ext noM H1 H → H d = some (.lst ((xs.filter pd).map f)) → Q (.ref d) H) : LcAsk J g tt te vs σ H1 Q := by
  refine lc_rel sx pd (fun _ _ x y => y = f x) (fun _ _ _ _ _ _ h => h) hJ hl hw hg ht (fun d H x R m p e _ h => hs H x R m p e (h _ H Ext.rfl rfl)) fun d H ys h1 h2 h3 h4 => he d H h1 h2 ?_
  have e : ys = (xs.filter pd).map f := by
    clear h3
    generalize xs.filter pd = zs at h4
    induction h4 with
    | nil => rfl
    | cons h _ ih => rw [h, ih, List.map_cons]
  rw [← e]
  exact h3
theorem s_for {g : TG} (h : wi σ H fun J H1 => ∃ W : Nat → Nat → L2.St → Hp → Prop, (∃ m, W 0 m σ H1) ∧ ∀ i m σ H, W i m σ H →
  (J.stop i H ∧ D.nx σ H) ∨ (J.go i H ∧ ∃ N : L2.St → Hp → Prop, (∀ σ' H', N σ' H' → ∃ m', m' < m ∧ W (i + 1) m' σ' H') ∧ ∀ x H', J.yld i H x H' → g x σ H' fun σ2 H2 => tb { D with nx := N, ct := N, bk := D.nx } σ2 H2)) : tFor wi g tb D σ H := h
/-- for .. in xs: P, by the turn -/
theorem for_go {g : TG} (P : Nat → L2.St → Hp → Prop) (hJ : Tells J xs fun k H => ∃ σ, P k σ H) (h0 : P 0 σ H1)
    (hs : ∀ k σ H x, P k σ H → xs[k]? = some x → g x σ H fun σ2 H2 => tb { D with nx := P (k + 1), ct := P (k + 1), bk := D.nx } σ2 H2) (he : ∀ σ H, P xs.length σ H → D.nx σ H) :
    ∃ W : Nat → Nat → L2.St → Hp → Prop, (∃ m, W 0 m σ H1) ∧ ∀ i m σ H, W i m σ H →
      (J.stop i H ∧ D.nx σ H) ∨ (J.go i H ∧ ∃ N : L2.St → Hp → Prop, (∀ σ' H', N σ' H' → ∃ m', m' < m ∧ W (i + 1) m' σ' H') ∧ ∀ x H', J.yld i H x H' → g x σ H' fun σ2 H2 => tb { D with nx := N, ct := N, bk := D.nx } σ2 H2) := by
  refine ⟨fun k m σ H => P k σ H ∧ k + m = xs.length, ⟨xs.length, h0, Nat.zero_add _⟩, fun k m σ H ⟨p, hm⟩ => ?_⟩
  have t := hJ k H ⟨σ, p⟩
  cases m with
  | zero =>
    have e : k = xs.length := hm
    subst e
    exact .inl ⟨t.2 (Nat.le_refl _), he σ H p⟩
  | succ m =>
    have hk : k < xs.length := by omega
    have ex : xs[k]? = some xs[k] := List.getElem?_eq_getElem hk
    obtain ⟨go, yl⟩ := t.1 _ ex
    refine .inr ⟨go, P (k + 1), fun σ' H' q => ⟨m, Nat.lt_succ_self m, q, by omega⟩, fun x H' hy => ?_⟩
    obtain ⟨e1, e2⟩ := yl x H' hy
    subst e1 e2
    exact hs k σ H' _ p ex
theorem s_while {c : TT} (h : ∃ W : Nat → L2.St → Hp → Prop, (∃ m, W m σ H) ∧ ∀ m σ H, W m σ H →
  c σ H fun b H1 => if b = true then ∃ N : L2.St → Hp → Prop, (∀ σ' H', N σ' H' → ∃ m', m' < m ∧ W m' σ' H') ∧ tb { D with nx := N, ct := N, bk := D.nx } σ H1 else D.nx σ H1) : tWhile c tb D σ H := h
theorem i_seqL {R : It → Hp → Prop} (h : te σ H fun x H1 => ∃ a, x = .ref a ∧ (∃ xs, SqL K H1 a xs) ∧ R (Itl K a) H1) : iAny K te σ H R := .inl (.inl h)
theorem i_seqT {R : It → Hp → Prop} (h : te σ H fun x H1 => ∃ a, x = .ref a ∧ (∃ xs, SqT K H1 a xs) ∧ R (Itt K a) H1) : iAny K te σ H R := .inl (.inr h)
theorem i_text {R : It → Hp → Prop} (h : te σ H fun v H1 => ∃ x, v = .str x ∧ R (Its x) H1) : iAny K te σ H R := .inr (.inl h)
theorem j_ref {a : Addr} {xs : List V} {R : Addr → Prop} (e : H a = some (.lst xs)) (h : R a) : ∃ b, V.ref a = .ref b ∧ (∃ ys, SqL K H b ys) ∧ R b := ⟨a, rfl, ⟨xs, .inl (.inl e)⟩, h⟩
theorem j_text {z : Str} {R : Str → Prop} (h : R z) : ∃ x, V.str z = .str x ∧ R x := ⟨z, rfl, h⟩
theorem x_putL {M : Addr → Prop} {p : Addr} {vs : List V} {k : Int} {j : Nat} {v : V} {Qh : Hp → Prop} (mp : M p) (e : H p = some (.lst vs)) (hj : ixN vs.length k = some j) (h : ∀ H2, Ext M H H2 → H2 p = some (.lst (vs.set j v)) → Qh H2) : rPutU (.ref p) (.int k) v H Qh := .inl ⟨p, vs, k, j, rfl, rfl, e, hj, h _ (Ext.set mp) upd_same⟩
theorem y_str {z : Str} {p : Prop} (h : p) : tyV K "str" (.str z) H ∧ p := ⟨rfl, h⟩
theorem y_lst {a : Addr} {vs : List V} {p : Prop} (e : H a = some (.lst vs)) (h : p) : tyV K "list" (.ref a) H ∧ p := ⟨.inl ⟨rfl, vs, .inl (.inl e)⟩, h⟩
theorem y_dK {a : Addr} {vs : List (Key × V)} {p : Prop} (e : H a = some (.dK vs)) (h : p) : tyV K "dict" (.ref a) H ∧ p := ⟨.inr (.inr (.inl ⟨rfl, .inl ⟨vs, e⟩⟩)), h⟩
theorem Ext.setNew {M : Addr → Prop} {H0 : Hp} {p : Addr} {o : HO} (h : Ext M H0 H) (hn : H0 p = none) : Ext M H0 (upd H p o) := fun q o' m e => by
  rw [upd_ne (ne_new e hn).symm]
  exact h q o' m e
theorem e_dnew (h : ∀ p H2, H p = none → Ext noM H H2 → H2 p = some (.dK []) → Q (.ref p) H2) : tDNewK σ H Q := fun p e => h p _ e (Ext.new e) upd_same
def DispEnd (p : Addr) (Q : VK) (ps : List (V × V)) (H2 : Hp) : Prop := H2 p = some (.dK []) ∧ ∃ kvs : List (Key × V), ps = kvs.map (fun kv => (kV kv.1, kv.2)) ∧ kvs.length ≤ 15 ∧ Q (.ref p) (upd H2 p (.dK (mergeK [] kvs)))
theorem e_disp {trs : List (TE × TE)} (h : ∀ p H2, H p = none → Ext noM H H2 → H2 p = some (.dK []) → tPairs trs σ H2 (DispEnd p Q)) : tDisp trs σ H Q := fun p e => h p _ e (Ext.new e) upd_same
theorem q_cons {tk tv : TE} {r : List (TE × TE)} {R : List (V × V) → Hp → Prop} (h : tk σ H fun x H1 => tv σ H1 fun y H2 => tPairs r σ H2 fun ps H3 => R ((x, y) :: ps) H3) : tPairs ((tk, tv) :: r) σ H R := h
theorem q_nil {R : List (V × V) → Hp → Prop} (h : R [] H) : tPairs [] σ H R := h
theorem disp_end {p : Addr} {ps : List (V × V)} (kvs : List (Key × V)) (e : H p = some (.dK [])) (ek : ps = kvs.map fun kv => (kV kv.1, kv.2)) (l : kvs.length ≤ 15) (h : ∀ H2, (∀ M H0, Ext M H0 H → H0 p = none → Ext M H0 H2) → H2 p = some (.dK (mergeK [] kvs)) → Q (.ref p) H2) : DispEnd p Q ps H := ⟨e, kvs, ek, l, h _ (fun _ _ x z => x.setNew z) upd_same⟩
theorem v_app {l : Addr} {vs : List V} {y : V} (e : H l = some (.lst vs)) (z : vs.length < sizeLine) (h : ∀ H2, (∀ M H0, Ext M H0 H → H0 l = none → Ext M H0 H2) → (∀ M, M l → Ext M H H2) → H2 l = some (.lst (vs ++ [y])) → Q .non H2) : rAppend (.ref l) [y] H Q := ⟨l, vs, y, rfl, rfl, e, z, h _ (fun _ _ x z => x.setNew z) (fun _ m => Ext.set m) upd_same⟩
theorem v_lenLn {a : Addr} {vs : List V} {n : Nat} (e : H a = some (.lst vs)) (hn : vs.length = n) (h : Q (.int (n : Nat)) H) : rLenU K [.ref a] H Q := ⟨_, _, rfl, .inl (.inl ⟨vs, .inl (.inl e), rfl⟩), by rw [hn]; exact h⟩
theorem Ext.drop {H0 : Hp} {p : Addr} {M : Addr → Prop} (h : Ext M H0 H) (hp : ∀ q, M q → H0 q = none) : Ext noM H0 H := fun q o _ e => h q o (fun z => by rw [hp q z] at e; cases e) e
theorem rd_ext {M : Addr → Prop} {H2 : Hp} {a : Addr} {u : HO} (h : Rd H a u) (x : Ext M H H2) (m : H a ≠ none → ¬ M a) : Rd H2 a u := by
  rcases h with e | ⟨o, e⟩
  · exact .inl (x _ _ (m (by rw [e]; exact fun z => nomatch z)) e)
  · exact .inr ⟨o, x _ _ (m (by rw [e]; exact fun z => nomatch z)) e⟩
theorem sql_ext {M : Addr → Prop} {H2 : Hp} {a : Addr} {vs : List V} (h : SqL K H a vs) (x : Ext M H H2) (m : H a ≠ none → ¬ M a) : SqL K H2 a vs := by
  rcases h with h | h
  · exact .inl (rd_ext h x m)
  · exact .inr h
theorem v_lenQ {a : Addr} {vs : List V} (e : SqL K H a vs) (h : Q (.int vs.length) H) : rLenU K [.ref a] H Q := ⟨_, _, rfl, .inl (.inl ⟨vs, e, rfl⟩), h⟩
theorem v_ixQ {a : Addr} {vs : List V} {i : Int} {v : V} (e : SqL K H a vs) (l : atI vs i = some v) (h : Q v H) : rSubU' K (.ref a) (.int i) H Q := .inl (.inl ⟨a, vs, i, v, rfl, rfl, e, l, h⟩)
theorem v_repr {x : V} (d : PyData) (e : Dp K H x d) (h1 : d.showable = true) (h2 : d.depth ≤ 100) (h3 : d.shown.length ≤ sizeLine) (h : Q (.str d.shown) H) : rRepr K [x] H Q := ⟨x, d, rfl, e, h1, h2, h3, h⟩
theorem i_seqQ {R : It → Hp → Prop} {a : Addr} {vs : List V} (e : SqT K H a vs) (h : R (Itt K a) H) : iAny K (tC (.ref a)) σ H R := .inl (.inr ⟨a, rfl, ⟨vs, e⟩, h⟩)
theorem v_ixTQ {a : Addr} {vs : List V} {i : Int} {v : V} (e : SqT K H a vs) (l : atI vs i = some v) (h : Q v H) : rSubU' K (.ref a) (.int i) H Q := .inl (.inr (.inl ⟨a, vs, i, v, rfl, rfl, e, l, h⟩))
theorem v_sortD {d : Addr} {kvs : List (Key × V)} {ks : List Int} (e : Rd H d (.dK kvs)) (hk : kvs.map (·.1) = ks.map Sum.inl) (h : ∀ (ys : List Int) (p : Addr) (H2 : Hp), ys.Perm ks → ys.Pairwise (· ≤ ·) → H p = none → Ext noM H H2 → H2 p = some (.lst (ys.map V.int)) → Q (.ref p) H2) :
    ∃ (a : Addr) (kvs : List (Key × V)) (ks : List Int), [V.ref d] = [V.ref a] ∧ Rd H a (.dK kvs) ∧ kvs.map (·.1) = ks.map Sum.inl ∧ ∀ (ys : List Int) (p : Addr), ys.Perm ks → ys.Pairwise (· ≤ ·) → H p = none → Q (.ref p) (upd H p (.lst (ys.map V.int))) := ⟨d, kvs, ks, rfl, e, hk, fun ys p h1 h2 h3 => h ys p _ h1 h2 h3 (Ext.new h3) upd_same⟩
theorem v_ixD {d : Addr} {kvs : List (Key × V)} {k : Key} {v : V} (e : H d = some (.dK kvs)) (l : valV kvs k = some v) (h : Q v H) : rSubU' K (.ref d) (kV k) H Q := .inr ⟨d, v, rfl, by rw [← l]; exact DGet.k e, h⟩
theorem e_attr {fa : List He.Fa} {f : Str} (h : te σ H fun x H1 => ∃ (d : Addr) (C : Str) (dx : Addr) (fs : List (Str × V)) (v : V), x = .ref d ∧ H1 d = some (.ins (He.ga K C) dx fs) ∧ hasF (isCls C) fa = true ∧ hasF (isNoat C f) fa = true ∧ fs.lookup f = some v ∧ Q v H1) : tAttr K fa te f σ H Q := h
theorem a_get {fa : List He.Fa} {f C : Str} {d dx : Addr} {fs : List (Str × V)} {v : V} {R : V → Prop} (e : H d = some (.ins (He.ga K C) dx fs)) (k1 : hasF (isCls C) fa = true) (k2 : hasF (isNoat C f) fa = true) (l : fs.lookup f = some v) (h : R v) :
    ∃ (d' : Addr) (C : Str) (dx : Addr) (fs : List (Str × V)) (v : V), V.ref d = .ref d' ∧ H d' = some (.ins (He.ga K C) dx fs) ∧ hasF (isCls C) fa = true ∧ hasF (isNoat C f) fa = true ∧ fs.lookup f = some v ∧ R v := ⟨d, C, dx, fs, v, rfl, e, k1, k2, l, h⟩
theorem e_meth {c : Cn} {m : Str} {na : Nat} {ks : List Str} {to : TE} {tA tK : TA} (h : to σ H fun x H1 => ∃ (d : Addr) (C : Str) (dx : Addr) (fs : List (Str × V)), x = .ref d ∧ H1 d = some (.ins (He.ga c.K C) dx fs) ∧
  hasF (isCls C) c.fa = true ∧ hasF (isMeth C m) c.fa = true ∧ fs.lookup m = none ∧ tArgs c (C, some m) na ks [.ref d] tA tK σ H1 Q) : tMeth c m na ks to tA tK σ H Q := h
theorem me_get {hot top : Bool} {fa : List He.Fa} {sh : List Shp} {Ph : Ky → Sp} {N : List Str} {sc : Scope} {fnn : Str → Bool} {W : WX} {m C : Str} {na : Nat} {ks kk : List Str} {nn : Nat} {pl : List Src} {tA tK : TA} {d dx : Addr} {fs : List (Str × V)} (e : H d = some (.ins (He.ga K C) dx fs)) (k1 : hasF (isCls C) fa = true) (k2 : hasF (isMeth C m) fa = true) (l : fs.lookup m = none)
    (hs : shpOf sh (C, some m) (1 + na) ks = some ⟨(C, some m), nn, kk, pl⟩) (h : tA σ H fun vs H1 => tK σ H1 fun zs H2 => vs.length = na ∧ zs.length = ks.length ∧ Ph (C, some m) (plug K pl ([.ref d] ++ vs) zs) H2 Q (WE W σ)) :
    ∃ (d' : Addr) (C : Str) (dx : Addr) (fs : List (Str × V)), V.ref d = .ref d' ∧ H d' = some (.ins (He.ga (Cn.K ⟨hot, top, K, fa, sh, Ph, N, sc, fnn, W⟩) C) dx fs) ∧ hasF (isCls C) (Cn.fa ⟨hot, top, K, fa, sh, Ph, N, sc, fnn, W⟩) = true ∧ hasF (isMeth C m) (Cn.fa ⟨hot, top, K, fa, sh, Ph, N, sc, fnn, W⟩) = true ∧ fs.lookup m = none ∧
      tArgs ⟨hot, top, K, fa, sh, Ph, N, sc, fnn, W⟩ (C, some m) na ks [.ref d'] tA tK σ H Q := ⟨d, C, dx, fs, rfl, e, k1, k2, l, _, hs, h⟩
def one (c : Nat) : Str := ⟨#[c]⟩
def ofL (cs : List Nat) : Str := ⟨cs.toArray⟩
theorem ofL_len {cs : List Nat} : (ofL cs).length = cs.length := by simp [ofL, Str.length]
theorem ofL_list {cs : List Nat} : (ofL cs).cps.toList = cs := by simp [ofL]
theorem join_ones : ∀ cs : List Nat, Str.join "" (cs.map one) = ofL cs
  | [] => rfl
  | [c] => rfl
  | c :: d :: cs => by
    show one c ++ ("" : Str) ++ Str.join "" ((d :: cs).map one) = _
    rw [join_ones (d :: cs)]
    refine Str.ext' ?_
    have e : ("" : Str).cps = #[] := by decide
    simp [Str.cps_append, e, one, ofL]
theorem v_join {a : Addr} {cs : List Nat} (e : H a = some (.lst (cs.map fun c => .str (one c)))) (l : cs.length ≤ 1000) (h : Q (.str (ofL cs)) H) : rJoin K (.str "") [.ref a] H Q := by
  refine ⟨"", a, cs.map one, rfl, rfl, .inl (.inl (.inl ?_)), ?_, ?_⟩
  · rw [List.map_map]
    exact e
  · have e1 : ((cs.map one).map (·.length)).sum = cs.length := by
      rw [List.map_map]
      clear e l h
      induction cs with
      | nil => rfl
      | cons c cs ih =>
        rw [List.map_cons, List.sum_cons, ih, List.length_cons]
        show 1 + _ = _
        omega
    rw [e1]
    have e2 : ("" : Str).length = 0 := by decide
    rw [e2]
    omega
  · have e : Txt.join "" (cs.map one) = ofL cs := (TL.join_eq _ _).trans (join_ones cs)
    rw [e]
    exact h
theorem v_isN (h : Q (.bl true) H) : rIsU .non .non H Q := ⟨rfl, h⟩
theorem v_isR {a : Addr} (h : Q (.bl false) H) : rIsU (.ref a) .non H Q := ⟨rfl, h⟩
theorem v_isI {i : Int} (h : Q (.bl false) H) : rIsU (.int i) .non H Q := ⟨rfl, h⟩
theorem v_isS {z : Str} (h : Q (.bl false) H) : rIsU (.str z) .non H Q := ⟨rfl, h⟩
theorem v_isB {b : Bool} (h : Q (.bl false) H) : rIsU (.bl b) .non H Q := ⟨rfl, h⟩
theorem v_isntN (h : Q (.bl false) H) : rIsntU .non .non H Q := ⟨rfl, h⟩
theorem v_isntR {a : Addr} (h : Q (.bl true) H) : rIsntU (.ref a) .non H Q := ⟨rfl, h⟩
theorem v_isntI {i : Int} (h : Q (.bl true) H) : rIsntU (.int i) .non H Q := ⟨rfl, h⟩
theorem v_isntS {z : Str} (h : Q (.bl true) H) : rIsntU (.str z) .non H Q := ⟨rfl, h⟩
theorem v_isntB {b : Bool} (h : Q (.bl true) H) : rIsntU (.bl b) .non H Q := ⟨rfl, h⟩
theorem at0 {y : V} {ys : List V} : atI (y :: ys) 0 = some y := by
  unfold atI ixN
  rw [if_pos (Int.le_refl 0), if_pos (by simp only [List.length_cons]; omega)]
  rfl
theorem atN {xs : List V} {k : Nat} {y : V} (h : xs[k]? = some y) : atI xs (k : Nat) = some y := by
  obtain ⟨hk, _⟩ := List.getElem?_eq_some_iff.mp h
  unfold atI ixN
  rw [if_pos (Int.natCast_nonneg k), if_pos (by omega)]
  exact h
theorem v_inS {n : Nat} {z : Str} (h : Q (.bl (decide (n ∈ z.cps.toList))) H) : rInU K (.str ⟨#[n]⟩) (.str z) H Q := .inr (.inl ⟨n, z, rfl, rfl, h⟩)
theorem v_inL {x : V} {a : Addr} {xs : List V} (e : H a = some (.lst xs)) (f1 : flatV x = true) (f2 : xs.all flatV = true) (h : Q (.bl (inV x xs)) H) : rInU K x (.ref a) H Q := .inl ⟨a, xs, rfl, .inl (.inl (.inl e)), f1, f2, by rw [if_neg Bool.false_ne_true]; exact h⟩
theorem v_all {a : Addr} {bs : List Bool} (e : H a = some (.lst (bs.map V.bl))) (h : Q (.bl (bs.all id)) H) : rAll K [.ref a] H Q := ⟨a, bs, rfl, .inl (.inl e), h⟩
theorem v_any {a : Addr} {bs : List Bool} (e : H a = some (.lst (bs.map V.bl))) (h : Q (.bl (bs.any id)) H) : rAny K [.ref a] H Q := ⟨a, bs, rfl, .inl (.inl e), h⟩
theorem i_rng1 {tA : TA} {R : It → Hp → Prop} (h : tA σ H fun vs H1 => ∃ j : Int, vs = [.int j] ∧ -(2 ^ 62) ≤ j ∧ j < 2 ^ 62 ∧ R (Itr 0 j.toNat) H1) : iRng1 tA σ H R := h
theorem i_rng2 {tA : TA} {R : It → Hp → Prop} (h : tA σ H fun vs H1 => ∃ i j : Int, vs = [.int i, .int j] ∧ (-(2 ^ 62) ≤ i ∧ i < 2 ^ 62 ∧ -(2 ^ 62) ≤ j ∧ j < 2 ^ 62) ∧ R (Itr i (j - i).toNat) H1) : iRng2 tA σ H R := h
theorem j_rng1 {j : Int} {R : Int → Prop} (h1 : -(2 ^ 62) ≤ j) (h2 : j < 2 ^ 62) (h : R j) : ∃ i : Int, [V.int j] = [.int i] ∧ -(2 ^ 62) ≤ i ∧ i < 2 ^ 62 ∧ R i := ⟨j, rfl, h1, h2, h⟩
end
end Rw

namespace Rw
open PySem PySem.Spec PyProof.Rows L2
/-! ### more of built-in functions -/
section
variable {X : Cx}
/-- sorted(d), int keys, as many as may be -/
def rSortDn : List V → Hp → VK → Prop := fun vs H Q => ∃ (a : Addr) (kvs : List (Key × V)) (ks : List Int), vs = [V.ref a] ∧ Rd H a (.dK kvs) ∧ kvs.map (·.1) = ks.map Sum.inl ∧
  ∀ (ys : List Int) (p : Addr), ys.Perm ks → ys.Pairwise (· ≤ ·) → H p = none → Q (.ref p) (upd H p (.lst (ys.map V.int)))
theorem sort_dict (hc : X.calm = true) : CallR X (.builtin "sorted") rSortDn := by
  rintro pins s σ H _ us Q I r ⟨a, kvs, ks, rfl, hd, hks, q⟩
  obtain ⟨u, rfl, rx⟩ := vals1 r
  obtain rfl : u = Value.ref a := rx
  obtain ⟨z, lo, vs, rel, dd⟩ := dk_rd I.hok hd
  obtain ⟨ep, hat⟩ := dd.dictAt
  have kk : vs.map (·.1) = ks.map Sum.inl := by rw [← hks] <;> exact rel.keys.symm
  have ll : vs.length = ks.length := by simpa using congrArg List.length kk
  have lk : kvs.length = ks.length := by simpa using congrArg List.length hks
  have small : vs.length ≤ sizeLine := by
    rw [ll, ← lk]
    first | exact z | omega
  refine Calls.call_function_entry kind_sorted plain_sorted entry_sorted (args_sorted1 _) ?_
  unfold Builtin.«sorted»
  apply wpAny_bind (m := checkCount "sorted" 1 1 _)
  apply wpAny_pure
  apply wpAny_bind
  refine PySem.W.kdu_collect (A := X.A.in1) (PySem.W.kdl_dict (knd := mixKind X.prog X.w) (kvs := vs) (ep := ep) lo) (I.ok.hd hc) hat small fun h' tk acc hk hacc => ?_
  have al : acc.toList.length = ks.length := by rw [Array.length_toList, hacc.1] <;> exact ll
  have ai : IntsAre acc.toList ks := by
    refine ints_each al fun j v e => ?_
    obtain ⟨k, x, e1, e2⟩ := hacc.2 j v (by rw [← Array.getElem?_toList] <;> exact e)
    have e3 : (ks.map (Sum.inl (β := Str)))[j]? = some k := by
      rw [← kk, List.getElem?_map, e1]
      rfl
    rw [List.getElem?_map] at e3
    obtain ⟨y, e4, e5⟩ := Option.map_eq_some_iff.mp e3
    subst e5
    rcases keyIs_shape (show keyIs (Sum.inl y) v = true from e2) with ⟨i, t, ek, ev⟩ | ⟨_, t, ek, _⟩
    · obtain rfl := Sum.inl.inj ek
      exact ⟨_, t, e4, ev⟩
    · cases ek
  have az : acc.toList.length ≤ sizeLine := by rw [al, ← ll] <;> exact small
  have I1 : Inv X pins σ H { s with heap := h', toks := tk } := I.kept hk
  apply wpAny_bind
  refine wpAny_newList ?_ az
  have at0 : (h'.push (seqObj "list" acc.toList.toArray 0)).get? h'.objs.size = some (seqObj "list" acc.toList.toArray 0) := Heap.get?_push_size _ rfl
  show wpAny _ _ _ _ _ { s with heap := h'.push (seqObj "list" acc.toList.toArray 0), toks := tk }
  apply wpAny_bind
  apply wpAny_holding
  refine wpAny_call_entry slot_list_sort ⟨_, at0, rfl⟩ entry_list_sort (SrtO.list_sort_ord SrtO.swo_int at0 az (fun h2 => SrtO.ints_sortable ai h2) fun out g1 g2 => ⟨.none, rfl, ?_⟩) (args_list_sort _)
  obtain ⟨k1, k2, k3⟩ := SrtO.ints_out ai g1 g2
  obtain ⟨e', he'⟩ := sortedHeap_at (vs := acc.toList) (out := out.toArray) at0
  have ol : ((out.map SrtO.iv).map V.int).length ≤ sizeLine := by
    rw [List.length_map, k2.length_eq, ← al]
    exact az
  apply wpAny_pure
  refine ⟨_, rfl, .ref h'.objs.size, upd H h'.objs.size (.lst ((out.map SrtO.iv).map V.int)), ?_, rfl, q _ _ k2 k3 (I1.hok.fresh (Nat.le_refl _))⟩
  refine I1.laid (t' := tk) (fun b u e => ?_) (Nat.le_refl _) ?_
  · have lt := Heap.lt_size e
    rw [sortedHeap_old (Nat.ne_of_lt lt) (by rw [size_push'] <;> exact Nat.lt_succ_of_lt lt)]
    exact Heap.get?_push_of_some _ e
  · exact ⟨ol, out, e', vals_of_ints k1, he'⟩
/-- sum(d.values()), values ints -/
def tSumVals (td : TE) : TE := fun σ H Q => td σ H fun x H1 => ∃ (a : Addr) (kvs : List (Key × V)) (ns : List Int), x = V.ref a ∧ H1 a = some (.dK kvs) ∧ kvs.map (·.2) = ns.map V.int ∧ Q (.int ns.sum) H1
theorem preSum_list (ns : List Int) : ∀ k, k ≤ ns.length → preSum (fun i => ns.getD i 0) k = (ns.take k).sum
  | 0, _ => by simp [preSum]
  | k + 1, h => by
    have e : ns[k]? = some ns[k] := List.getElem?_eq_getElem h
    rw [preSum, preSum_list ns k (Nat.le_of_succ_le h), List.take_add_one, e, List.getD_eq_getElem?_getD, e, List.sum_append]
    simp
theorem sum_values {o : Expr} {p pos apos mpos : Pos} {td : TE} (hc : X.calm = true) (hg : Gl X "sum") (hm : X.mg "sum" = none) (hd : PE X o td) (hb : attributeBase o "values" X.env (eval o X.env) = eval o X.env := by rfl) (hl : (apos.endLine == mpos.line) = true := by rfl)
    (hse : starEach [Expr.Call (.Attribute o "values" apos) [] [] mpos] X.env = [(false, eval (Expr.Call (.Attribute o "values" apos) [] [] mpos) X.env)] := by rfl) : PE X (.Call (.Name "sum" p) [.Call (.Attribute o "values" apos) [] [] mpos] [] pos) (tSumVals td) := by
  constructor
  intro pins s σ H Q I h
  refine wpAny_Call_Name_kw (ld_blt I hg hm (u := .builtin "sum") (by decide +kernel) ?_ (by decide) (by decide))
  rw [hse]
  refine PySem.callWith_builtin1 (wpAny_Call_method0_late hb hl (thn (hd.run pins s σ H _ I h) fun v s1 ⟨x, H1, I1, r1, a, kvs, ns, ex, ha, hv, q⟩ => ?_))
  subst ex
  obtain rfl : v = Value.ref a := r1
  obtain ⟨_, sys, vs, rel, dof⟩ := dk_of I1.hok ha
  obtain ⟨ep, dat⟩ := dof.dictAt
  obtain ⟨ob, es, ho, ex, _⟩ := id dat
  refine ⟨"dict", "dict.values", F.plainAttrs_dict, F.slot_dict_values, F.type_dict_values, ⟨ob, ho, ex.1⟩, ?_, Calls.callWith_builtin rfl (PySem.evalArgs_none ?_)⟩
  · intro b e
    cases e
    exact ⟨ob, ho, ex.2.1⟩
  refine call_meetsIn F.slot_dict_values ⟨ob, ho, ex.1⟩ F.entry_dict_values (F.args_dict_values_1 _) (meets_dict_values (mixKind X.prog X.w) a sys) ⟨⟨vs, dof⟩, ?_⟩
  generalize hv1 : s1.heap.push { cls := .type "dict_values", data := .fields #[.ref a] } = g1
  have old1 : ∀ b u, s1.heap.get? b = some u → g1.get? b = some u := fun b u e => by
    rw [← hv1]
    exact Heap.get?_push_of_some _ e
  have gsz : g1.objs.size = s1.heap.objs.size + 1 := by rw [← hv1] <;> exact Heap.size_push _ _
  have view : g1.get? s1.heap.objs.size = some { cls := .type "dict_values", data := .fields #[.ref a] } := by rw [← hv1] <;> exact Heap.get?_push_size _ rfl
  have dat1 : g1.DictAt (mixKind X.prog X.w) a vs ep := dat.keep old1
  have alt : a < s1.heap.objs.size := Heap.lt_size ho
  have same : vs.length = ns.length := by
    have e1 := congrArg List.length hv
    simp only [List.length_map] at e1
    rw [← e1]
    exact (KV.length rel).symm
  have tells : ∀ (i : Nat) (v : Value), (∃ k, vs[i]? = some (k, v)) → ∃ t, v = Value.int (ns.getD i 0) t := by
    rintro i v ⟨k, hk⟩
    obtain ⟨x, h1, h2⟩ := KV.at' rel hk
    have e1 : (ns.map V.int)[i]? = some x := by
      rw [← hv, List.getElem?_map, h1]
      rfl
    rw [List.getElem?_map] at e1
    obtain ⟨j, hj, e2⟩ := Option.map_eq_some_iff.mp e1
    subst e2
    obtain ⟨t, e3⟩ := h2
    rw [List.getD_eq_getElem?_getD, hj]
    exact ⟨t, e3⟩
  refine call_sum_walkG (wpAny_pyIter_values (v := s1.heap.objs.size) (d := a) ⟨_, view, rfl, rfl⟩ dat1 ?_)
  have ne : a ≠ g1.objs.size := Nat.ne_of_lt (by rw [gsz]; exact Nat.lt_succ_of_lt alt)
  refine ⟨_, _, _, _, _, _, _, rfl, Walks.dictValues (knd := mixKind X.prog X.w) (A := X.A.in1) (I.ok.hd hc) g1.objs.size a ne vs ep, ⟨⟨_, Heap.get?_push_size _ rfl, rfl, rfl⟩, dat1.keep fun b u e => Heap.get?_push_of_some _ e⟩, fun b hb => ?_, tells, fun h' tk t hk => ?_⟩
  · have bs : b = g1.objs.size ∨ b = a := by simpa using hb
    show b < (g1.push _).objs.size
    rw [Heap.size_push]
    rcases bs with z | z
    · rw [z]
      exact Nat.lt_succ_self _
    · rw [z, gsz]
      exact Nat.lt_succ_of_lt (Nat.lt_succ_of_lt alt)
  · have e := preSum_list ns ns.length (Nat.le_refl _)
    rw [List.take_length, ← same] at e
    rw [e]
    refine ⟨.int _, H1, I1.kept (t' := tk) fun b u eb => hk b u (fun mem => ?_) (Heap.get?_push_of_some _ (old1 b u eb)), ⟨t, rfl⟩, q⟩
    have eb2 : b = g1.objs.size := List.mem_singleton.mp mem
    have lt := Heap.lt_size eb
    rw [eb2, gsz] at lt
    exact absurd lt (Nat.not_lt.mpr (Nat.le_succ _))
end
section
variable {c : Cn} {a b d e o : Expr} {es : List Expr} {ta tb te to : TE} {tA tK : TA} {pos apos mpos p : Pos} {x : Str}
theorem g_sumVals (ho : GE c o to) (hc : c.hot = false := by rfl) (hg : GlN c "sum" := by rfl) (hf : hasF (isFree "sum") c.fa = true := by rfl) (hb : ∀ env w, attributeBase o "values" env w = w := by intro _ _; rfl) (hl : (apos.endLine == mpos.line) = true := by rfl)
    (hse : ∀ env, starEach [Expr.Call (.Attribute o "values" apos) [] [] mpos] env = [(false, eval (Expr.Call (.Attribute o "values" apos) [] [] mpos) env)] := by intro _; rfl) : GE c (.Call (.Name "sum" p) [.Call (.Attribute o "values" apos) [] [] mpos] [] pos) (tSumVals to) := fun X h =>
  sum_values (h.calm hc) (h.gln hg) (h.free hf) (ho X h) (hb X.env _) hl (hse X.env)
def rSortU (K : PySem.W.Frag) : List V → Hp → VK → Prop := fun vs H Q => rSortedI K vs H Q ∨ rSortedS K vs H Q ∨ rSortedPO K vs H Q ∨ rSortDn vs H Q
theorem f_sorted (hc : c.hot = false := by rfl) : BFn c "sorted" "sorted" (rSortU c.K) := ⟨by decide +kernel, fun X h => by
  have := CallR.or (cr_sortedI (X := X)) (CallR.or (cr_sortedS (X := X)) (CallR.or (cr_sortedPO (X := X)) (sort_dict (X := X) (h.calm hc))))
  rw [h.hK] at this
  exact this, by decide, by decide⟩
theorem f_sum (hc : c.hot = false := by rfl) : BFn c "sum" "sum" (rSum c.K) := ⟨by decide +kernel, fun X h => by
  have := cr_sum (X := X) (h.calm hc)
  rw [h.hK] at this
  exact this, by decide, by decide⟩
theorem f_max1 (hc : c.hot = false := by rfl) : BFn c "max" "max" (rMax c.K) := ⟨by decide +kernel, fun X h => by
  have := cr_max (X := X) (h.calm hc)
  rw [h.hK] at this
  exact this, by decide, by decide⟩
theorem f_min1 (hc : c.hot = false := by rfl) : BFn c "min" "min" (rMin c.K) := ⟨by decide +kernel, fun X h => by
  have := cr_min (X := X) (h.calm hc)
  rw [h.hK] at this
  exact this, by decide, by decide⟩
/-- list(a list | a tuple | a dict) -/
def rListU (K : PySem.W.Frag) : List V → Hp → VK → Prop := fun xs H Q => (∃ p ys, xs = [.ref p] ∧ (SqL K H p ys ∨ SqT K H p ys) ∧ ∀ l, H l = none → Q (.ref l) (upd H l (.lst ys))) ∨
  ∃ (a : Addr) (kvs : List (Key × V)), xs = [.ref a] ∧ Rd H a (.dK kvs) ∧ ∀ p, H p = none → Q (.ref p) (upd H p (.lst (kvs.map fun q => kV q.1)))
theorem y_list (hc : c.hot = false := by rfl) : BTy c "list" "list" (rListU c.K) := ⟨by decide +kernel, fun X h => by
  have := CallR.or (call_list_of (X := X)) (call_listD (X := X) (h.calm hc))
  rw [h.hK] at this
  exact this, by decide, by decide⟩
theorem y_dict : BTy c "dict" "dict" (fun xs H Q => ∃ (a : Addr) (kvs : List (Key × V)), xs = [.ref a] ∧ Rd H a (.dK kvs) ∧ ∀ p, H p = none → Q (.ref p) (upd H p (.dK kvs))) := ⟨by decide +kernel, fun X h => call_dictD, by decide, by decide⟩
theorem y_tuple : BTy c "tuple" "tuple" (fun xs H Q => ∃ p ys, xs = [.ref p] ∧ ((SqL c.K H p ys ∧ ∀ l, H l = none → Q (.ref l) (upd H l (.tup ys))) ∨ (SqT c.K H p ys ∧ Q (.ref p) H))) := ⟨by decide +kernel, fun X h => by
  have := call_tuple_of (X := X)
  rw [h.hK] at this
  exact this, by decide, by decide⟩
end
end Rw

namespace Rw
open PySem PySem.Spec PyProof.Rows L2
/-! ### max(xs, default=d) -/
section
variable {prog : Program} {w : World} {A : Around} {R : Result → Shared → Prop} {I S : Addr} {fp wr : List Addr} {n : Nat} {P : Nat → Value → Prop} {St : Nat → Heap → Prop} {kw : List (Str × Value)}
abbrev loopAt (I S : Addr) (kw : List (Str × Value)) : Code := .builtin "max.loop" ⟨[.ref I, .none, .ref S], kw⟩
theorem upd_else {h : Heap} {f : Obj → Obj} {b : Addr} {o : Obj} (n : b ≠ S) (e : h.get? b = some o) : (h.update S f).get? b = some o := (Heap.get?_update_other _ _ (Ne.symm n)).trans e
abbrev MxEnd (n : Nat) (P : Nat → Value → Prop) (bt : Nat → Nat → Bool) (wr : List Addr) (S : Addr) (R : Result → Shared → Prop) (s : Shared) : Prop :=
  ∀ v h' tk, P (argBest bt (n - 1)) v → (∀ b o, b ∉ wr → b ≠ S → s.heap.get? b = some o → h'.get? b = some o) → R (.ok (.ret v)) { s with heap := h', toks := tk }
theorem max_more (W : Walks prog w A.in1 I fp wr n P St) (bt : Nat → Nat → Bool) (cmp : CmpOf prog w A.in1 .Gt P bt) (hSf : S ∉ fp) : ∀ (k j : Nat) (s : Shared) (vb : Value) (c : Nat), n - (j + 1) = k → j + 1 ≤ n → St (j + 1) s.heap → P (argBest bt j) vb →
    s.heap.get? S = some { cls := .type "list", dict := none, data := .seq #[vb, vb] c, slots := #[] } → MxEnd n P bt wr S R s → codeAny (model prog w) A (loopAt I S kw) R s := by
  have nS : S ∉ wr := fun h => hSf (W.sub _ h)
  have nm : (toString "max" ++ toString ".loop" : String) = "max.loop" := by decide
  intro k
  induction k with
  | zero =>
    intro j s vb c hk hj hst hPb hS hR
    have jn : j + 1 = n := by omega
    apply codeAny_builtin F.entry_max_loop
    rw [Around.under_plainId F.plain_max_loop _]
    show wpAny _ A.in1 (seqItems? (.ref S) >>= _) _ _ s
    apply wpAny_bind
    apply wpAny_seqItems hS rfl
    show wpAny _ A.in1 (tryCatch (pyNext (.ref I)) _ >>= _) _ _ s
    apply wpAny_bind
    refine wpAny_tryCatch (W.done s _ _ (jn ▸ hst) fun h' tk old => ?_)
    have hS2 := old S _ nS hS
    show wpAny _ A.in1 (updateSeq S (fun _ => #[]) >>= _) _ _ _
    apply wpAny_bind
    apply wpAny_updateSeq hS2 rfl
    apply wpAny_bind
    apply wpAny_letGo
    apply wpAny_pure
    refine hR vb _ tk ?_ fun b o w1 w2 e => upd_else w2 (old b o w1 e)
    rw [← jn]
    exact hPb
  | succ k ih =>
    intro j s vb c hk hj hst hPb hS hR
    have jn : j + 1 < n := by omega
    apply codeAny_builtin F.entry_max_loop
    rw [Around.under_plainId F.plain_max_loop _]
    show wpAny _ A.in1 (seqItems? (.ref S) >>= _) _ _ s
    apply wpAny_bind
    apply wpAny_seqItems hS rfl
    show wpAny _ A.in1 (tryCatch (pyNext (.ref I)) _ >>= _) _ _ s
    apply wpAny_bind
    refine wpAny_tryCatch (W.item (j + 1) s _ _ jn hst fun v h' tk hP hst' old => ?_)
    have hS2 := old S _ nS hS
    show wpAny _ A.in1 (tryCatch (holding [v, v] (richCompare .Gt v vb >>= _)) _ >>= _) _ _ _
    apply wpAny_bind
    apply wpAny_tryCatch
    apply wpAny_holding
    apply wpAny_bind
    refine cmp (j + 1) (argBest bt j) v vb _ _ _ hP hPb ?_
    apply wpAny_bind
    apply wpAny_holding
    apply wpAny_truthy_bool
    apply wpAny_bind
    apply wpAny_letGo
    apply wpAny_pure
    rcases hb : bt (j + 1) (argBest bt j) with _ | _
    · simp only [Bool.false_eq_true, if_false]
      apply wpAny_bind
      apply wpAny_letGo
      rw [nm]
      refine wpAny_pure ⟨plainId_quiet F.plain_max_loop _, ih (j + 1) _ vb c (by omega) jn hst' ?_ hS2 fun v' g t p o => hR v' g t p fun b u w1 w2 e => o b u w1 w2 (old b u w1 e)⟩
      simp only [argBest, hb, Bool.false_eq_true, if_false]
      exact hPb
    · simp only [if_true]
      apply wpAny_bind
      apply wpAny_updateSeq hS2 rfl
      apply wpAny_bind
      apply wpAny_letGo
      rw [nm]
      refine wpAny_pure ⟨plainId_quiet F.plain_max_loop _, ih (j + 1) _ v _ (by omega) jn (W.frame _ _ _ hst' fun b bf o e => upd_else (fun h => hSf (by rw [← h] <;> exact bf)) e) ?_ (Heap.get?_update_self _ hS2 rfl) fun v' g t p o => hR v' g t p fun b u w1 w2 e => o b u w1 w2 (upd_else w2 (old b u w1 e))⟩
      simp only [argBest, hb, if_true]
      exact hP
theorem max_first (W : Walks prog w A.in1 I fp wr n P St) (bt : Nat → Nat → Bool) (cmp : CmpOf prog w A.in1 .Gt P bt) (hSf : S ∉ fp) (hn : 0 < n) {s : Shared} {c : Nat} (hst : St 0 s.heap)
    (hS : s.heap.get? S = some { cls := .type "list", dict := none, data := .seq #[] c, slots := #[] }) (hR : MxEnd n P bt wr S R s) : codeAny (model prog w) A (loopAt I S kw) R s := by
  have nS : S ∉ wr := fun h => hSf (W.sub _ h)
  have nm : (toString "max" ++ toString ".loop" : String) = "max.loop" := by decide
  apply codeAny_builtin F.entry_max_loop
  rw [Around.under_plainId F.plain_max_loop _]
  show wpAny _ A.in1 (seqItems? (.ref S) >>= _) _ _ s
  apply wpAny_bind
  apply wpAny_seqItems hS rfl
  show wpAny _ A.in1 (tryCatch (pyNext (.ref I)) _ >>= _) _ _ s
  apply wpAny_bind
  refine wpAny_tryCatch (W.item 0 s _ _ hn hst fun v h' tk hP hst' old => ?_)
  have hS2 := old S _ nS hS
  show wpAny _ A.in1 (updateSeq S (fun _ => #[v, v]) >>= _) _ _ _
  apply wpAny_bind
  apply wpAny_updateSeq hS2 rfl
  rw [nm]
  exact wpAny_pure ⟨plainId_quiet F.plain_max_loop _, max_more W bt cmp hSf _ 0 _ v _ rfl hn (W.frame _ _ _ hst' fun b bf o e => upd_else (fun h => hSf (by rw [← h] <;> exact bf)) e) hP (Heap.get?_update_self _ hS2 rfl) fun v' g t p o => hR v' g t p fun b u w1 w2 e => o b u w1 w2 (upd_else w2 (old b u w1 e))⟩
/-- of none: the default -/
theorem max_none {d : Value} (W : Walks prog w A.in1 I fp wr 0 P St) (hSf : S ∉ fp) {s : Shared} {c : Nat} (hst : St 0 s.heap)
    (hS : s.heap.get? S = some { cls := .type "list", dict := none, data := .seq #[] c, slots := #[] }) (hR : ∀ h' tk, (∀ b o, b ∉ wr → s.heap.get? b = some o → h'.get? b = some o) → R (.ok (.ret d)) { s with heap := h', toks := tk }) :
    codeAny (model prog w) A (loopAt I S [("default", d)]) R s := by
  apply codeAny_builtin F.entry_max_loop
  rw [Around.under_plainId F.plain_max_loop _]
  show wpAny _ A.in1 (seqItems? (.ref S) >>= _) _ _ s
  apply wpAny_bind
  apply wpAny_seqItems hS rfl
  show wpAny _ A.in1 (tryCatch (pyNext (.ref I)) _ >>= _) _ _ s
  apply wpAny_bind
  refine wpAny_tryCatch (W.done s _ _ hst fun h' tk old => ?_)
  exact wpAny_bind (wpAny_rule (wpAny_pure (hR h' tk old)))
end
/-! ### min of pairs of ints -/
section
variable {prog : Program} {w : World} {A : Around} {R : Result → Shared → Prop} {I S : Addr} {fp wr : List Addr} {n : Nat} {P : Nat → Value → Prop} {St : Nat → Heap → Prop} {kw : List (Str × Value)}
abbrev loopMn (I S : Addr) (kw : List (Str × Value)) : Code := .builtin "min.loop" ⟨[.ref I, .none, .ref S], kw⟩
abbrev MnEnd (n : Nat) (P : Nat → Value → Prop) (bt : Nat → Nat → Bool) (wr : List Addr) (S : Addr) (R : Result → Shared → Prop) (s : Shared) : Prop :=
  ∀ v h' tk, P (argBest bt (n - 1)) v → (∀ b o, b ∉ wr → b ≠ S → s.heap.get? b = some o → h'.get? b = some o) → R (.ok (.ret v)) { s with heap := h', toks := tk }
theorem min_more (W : Walks prog w A.in1 I fp wr n P St) (bt : Nat → Nat → Bool) (G : Heap → Prop) (cmp : ∀ i j vi vj (s : Shared) (Q E : Value → Shared → Prop), G s.heap → P i vi → P j vj → Q (.bool (bt i j)) s → wpAny (model prog w) A.in1 (richCompare .Lt vi vj) Q E s) (gk : ∀ h h' : Heap, (∀ b o, b ∉ wr → b ≠ S → h.get? b = some o → h'.get? b = some o) → G h → G h') (hSf : S ∉ fp) : ∀ (k j : Nat) (s : Shared) (vb : Value) (c : Nat), n - (j + 1) = k → j + 1 ≤ n → G s.heap → St (j + 1) s.heap → P (argBest bt j) vb →
    s.heap.get? S = some { cls := .type "list", dict := none, data := .seq #[vb, vb] c, slots := #[] } → MnEnd n P bt wr S R s → codeAny (model prog w) A (loopMn I S kw) R s := by
  have nS : S ∉ wr := fun h => hSf (W.sub _ h)
  have nm : (toString "min" ++ toString ".loop" : String) = "min.loop" := by decide
  intro k
  induction k with
  | zero =>
    intro j s vb c hk hj gs hst hPb hS hR
    have jn : j + 1 = n := by omega
    apply codeAny_builtin F.entry_min_loop
    rw [Around.under_plainId F.plain_min_loop _]
    show wpAny _ A.in1 (seqItems? (.ref S) >>= _) _ _ s
    apply wpAny_bind
    apply wpAny_seqItems hS rfl
    show wpAny _ A.in1 (tryCatch (pyNext (.ref I)) _ >>= _) _ _ s
    apply wpAny_bind
    refine wpAny_tryCatch (W.done s _ _ (jn ▸ hst) fun h' tk old => ?_)
    have hS2 := old S _ nS hS
    show wpAny _ A.in1 (updateSeq S (fun _ => #[]) >>= _) _ _ _
    apply wpAny_bind
    apply wpAny_updateSeq hS2 rfl
    apply wpAny_bind
    apply wpAny_letGo
    apply wpAny_pure
    refine hR vb _ tk ?_ fun b o w1 w2 e => upd_else w2 (old b o w1 e)
    rw [← jn]
    exact hPb
  | succ k ih =>
    intro j s vb c hk hj gs hst hPb hS hR
    have jn : j + 1 < n := by omega
    apply codeAny_builtin F.entry_min_loop
    rw [Around.under_plainId F.plain_min_loop _]
    show wpAny _ A.in1 (seqItems? (.ref S) >>= _) _ _ s
    apply wpAny_bind
    apply wpAny_seqItems hS rfl
    show wpAny _ A.in1 (tryCatch (pyNext (.ref I)) _ >>= _) _ _ s
    apply wpAny_bind
    refine wpAny_tryCatch (W.item (j + 1) s _ _ jn hst fun v h' tk hP hst' old => ?_)
    have hS2 := old S _ nS hS
    show wpAny _ A.in1 (tryCatch (holding [v, v] (richCompare .Lt v vb >>= _)) _ >>= _) _ _ _
    apply wpAny_bind
    apply wpAny_tryCatch
    apply wpAny_holding
    apply wpAny_bind
    refine cmp (j + 1) (argBest bt j) v vb _ _ _ (gk _ h' (fun b o w1 _ e => old b o w1 e) gs) hP hPb ?_
    apply wpAny_bind
    apply wpAny_holding
    apply wpAny_truthy_bool
    apply wpAny_bind
    apply wpAny_letGo
    apply wpAny_pure
    rcases hb : bt (j + 1) (argBest bt j) with _ | _
    · simp only [Bool.false_eq_true, if_false]
      apply wpAny_bind
      apply wpAny_letGo
      rw [nm]
      refine wpAny_pure ⟨plainId_quiet F.plain_min_loop _, ih (j + 1) _ vb c (by omega) jn (gk _ h' (fun b o w1 _ e => old b o w1 e) gs) hst' ?_ hS2 fun v' g t p o => hR v' g t p fun b u w1 w2 e => o b u w1 w2 (old b u w1 e)⟩
      simp only [argBest, hb, Bool.false_eq_true, if_false]
      exact hPb
    · simp only [if_true]
      apply wpAny_bind
      apply wpAny_updateSeq hS2 rfl
      apply wpAny_bind
      apply wpAny_letGo
      rw [nm]
      refine wpAny_pure ⟨plainId_quiet F.plain_min_loop _, ih (j + 1) _ v _ (by omega) jn (gk _ _ (fun b o w1 w2 e => upd_else w2 (old b o w1 e)) gs) (W.frame _ _ _ hst' fun b bf o e => upd_else (fun h => hSf (by rw [← h] <;> exact bf)) e) ?_ (Heap.get?_update_self _ hS2 rfl) fun v' g t p o => hR v' g t p fun b u w1 w2 e => o b u w1 w2 (upd_else w2 (old b u w1 e))⟩
      simp only [argBest, hb, if_true]
      exact hP
theorem min_first (W : Walks prog w A.in1 I fp wr n P St) (bt : Nat → Nat → Bool) (G : Heap → Prop) (cmp : ∀ i j vi vj (s : Shared) (Q E : Value → Shared → Prop), G s.heap → P i vi → P j vj → Q (.bool (bt i j)) s → wpAny (model prog w) A.in1 (richCompare .Lt vi vj) Q E s) (gk : ∀ h h' : Heap, (∀ b o, b ∉ wr → b ≠ S → h.get? b = some o → h'.get? b = some o) → G h → G h') (hSf : S ∉ fp) (hn : 0 < n) {s : Shared} {c : Nat} (gs : G s.heap) (hst : St 0 s.heap)
    (hS : s.heap.get? S = some { cls := .type "list", dict := none, data := .seq #[] c, slots := #[] }) (hR : MnEnd n P bt wr S R s) : codeAny (model prog w) A (loopMn I S kw) R s := by
  have nS : S ∉ wr := fun h => hSf (W.sub _ h)
  have nm : (toString "min" ++ toString ".loop" : String) = "min.loop" := by decide
  apply codeAny_builtin F.entry_min_loop
  rw [Around.under_plainId F.plain_min_loop _]
  show wpAny _ A.in1 (seqItems? (.ref S) >>= _) _ _ s
  apply wpAny_bind
  apply wpAny_seqItems hS rfl
  show wpAny _ A.in1 (tryCatch (pyNext (.ref I)) _ >>= _) _ _ s
  apply wpAny_bind
  refine wpAny_tryCatch (W.item 0 s _ _ hn hst fun v h' tk hP hst' old => ?_)
  have hS2 := old S _ nS hS
  show wpAny _ A.in1 (updateSeq S (fun _ => #[v, v]) >>= _) _ _ _
  apply wpAny_bind
  apply wpAny_updateSeq hS2 rfl
  rw [nm]
  exact wpAny_pure ⟨plainId_quiet F.plain_min_loop _, min_more W bt G cmp gk hSf _ 0 _ v _ rfl hn (gk _ _ (fun b o w1 w2 e => upd_else w2 (old b o w1 e)) gs) (W.frame _ _ _ hst' fun b bf o e => upd_else (fun h => hSf (by rw [← h] <;> exact bf)) e) hP (Heap.get?_update_self _ hS2 rfl) fun v' g t p o => hR v' g t p fun b u w1 w2 e => o b u w1 w2 (upd_else w2 (old b u w1 e))⟩
end
end Rw
namespace Rw
open PySem PySem.Spec PyProof.Rows L2
theorem max_args_d (a v : Value) : argsOk "max" ⟨[a], [((("default" : Str)), v)]⟩ := by unfold argsOk; kernel_rfl
def rMaxD (K : PySem.W.Frag) : List V → List V → Hp → VK → Prop := fun xs zs H Q => ∃ (a : Addr) (ns : List Int) (d : V), xs = [.ref a] ∧ zs = [d] ∧ SqL K H a (ns.map V.int) ∧ (ns = [] → Q d H) ∧ ∀ m, m ∈ ns → (∀ y, y ∈ ns → y ≤ m) → Q (.int m) H
theorem max_dflt {X : Cx} (hc : X.calm = true) : CallRK X (.builtin "max") [("default" : Str)] (rMaxD X.K) := by
  rintro pins s σ H _ _ us ws Q I r rz ⟨a, ns, d, rfl, rfl, hs, q0, q1⟩
  obtain ⟨its, rv, hl, hz⟩ := I.list hs
  obtain ⟨u, rfl, rx⟩ := vals1 r
  obtain rfl : u = Value.ref a := rx
  obtain ⟨dv, rfl, rd⟩ := vals1 rz
  have hi := rv.ints
  have hlist := hl.isList
  refine kmb_tree F.kind_max F.plain_max F.entry_max (max_args_d _ _) ?_
  show wpAny _ X.A.in1 (Builtin.Builtins.bindParams "max" ["key", "default"] 0 ⟨[], [(("default" : Str), dv)]⟩ >>= _) _ _ s
  refine wpAny_bind (wpAny_of_eq (show Builtin.Builtins.bindParams "max" ["key", "default"] 0 ⟨[], [(("default" : Str), dv)]⟩ = pure [none, some dv] from rfl) ?_)
  apply wpAny_bind
  apply wpAny_pure
  apply wpAny_bind
  have alt : a < s.heap.objs.size := by obtain ⟨_, e, _⟩ := hlist; exact Heap.lt_size e
  refine wpAny_pyIter_list hlist ?_
  generalize hs2 : ({ s with heap := s.heap.push { cls := .type "list_iterator", data := .fields #[.ref a, .int 0 0] } } : Shared) = s2
  have h2 : s2.heap = s.heap.push { cls := .type "list_iterator", data := .fields #[.ref a, .int 0 0] } := by rw [← hs2]
  have sz2 : s2.heap.objs.size = s.heap.objs.size + 1 := by rw [h2] <;> exact Heap.size_push _ _
  have st2 : s2.heap.IsListIter s.heap.objs.size a 0 ∧ s2.heap.IsList a its.toArray := by
    rw [h2]
    exact ⟨⟨_, Heap.get?_push_size _ rfl, rfl, rfl⟩, hlist.push _⟩
  have old2 : ∀ b o, s.heap.get? b = some o → s2.heap.get? b = some o := fun b o e => by
    rw [h2]
    exact Heap.get?_push_of_some _ e
  apply wpAny_bind
  refine wpAny_newObj_type ?_
  have W := Walks.list (prog := X.prog) (w := X.w) (A := X.A.in1) (I.ok.hd hc) s.heap.objs.size a (Nat.ne_of_lt alt) its.toArray
  have nS : s2.heap.objs.size ∉ [s.heap.objs.size, a] := fun z => by
    rcases List.mem_cons.mp z with e | e
    · rw [sz2] at e
      exact absurd e (Nat.ne_of_gt (Nat.lt_succ_self _))
    · have e := List.mem_singleton.mp e
      rw [sz2] at e
      rw [← e] at alt
      exact absurd alt (Nat.not_lt.mpr (Nat.le_succ _))
  have nm : (toString "max" ++ toString ".loop" : String) = "max.loop" := by decide
  rw [nm]
  have st3 := W.frame 0 _ (s2.heap.push { cls := .type "list", dict := none, data := .seq #[], slots := #[] }) st2 fun b _ o e => Heap.get?_push_of_some _ e
  have keepI : ∀ (h' : Heap) (tk : Tok), (∀ b o, b ∉ [s.heap.objs.size] → b ≠ s2.heap.objs.size → (s2.heap.push { cls := .type "list", dict := none, data := .seq #[], slots := #[] }).get? b = some o → h'.get? b = some o) → Inv X pins σ H { s2 with heap := h', toks := tk } := fun h' tk k => by
    rw [← hs2]
    refine I.kept fun b o e => ?_
    have lt := Heap.lt_size e
    refine k b o (fun z => absurd (List.mem_singleton.mp z) (Nat.ne_of_lt lt)) (by rw [sz2] <;> exact Nat.ne_of_lt (Nat.lt_succ_of_lt lt)) (Heap.get?_push_of_some _ (old2 b o e))
  refine wpAny_pure ⟨plainId_quiet F.plain_max_loop _, ?_⟩
  match ns, hi, q0, q1, rv with
  | [], hi, q0, q1, rv =>
    have ei : its = [] := by
      have z := hi.length
      exact List.length_eq_zero_iff.mp (z.trans rfl)
    subst ei
    refine max_none W nS st3 (Heap.get?_push_size _ rfl) fun h' tk k => ?_
    exact ⟨d, H, keepI h' tk fun b o n1 _ e => k b o n1 e, rd, q0 rfl⟩
  | m :: ms, hi, q0, q1, rv =>
    have ln : its.length = (m :: ms).length := hi.length
    have val : ∀ i v, (its.toArray[i]? : Option Value) = some v → ∃ t, v = Value.int ((m :: ms).getD i 0) t := fun i v e => by
      have e' : its[i]? = some v := by simpa using e
      obtain ⟨x, ex, rx⟩ : ∃ x, ((m :: ms).map V.int)[i]? = some x ∧ RelV x v := by
        cases q : ((m :: ms).map V.int)[i]? with
        | none =>
          rw [rv.none_of q] at e'
          cases e'
        | some x =>
          obtain ⟨u, eu, ru⟩ := rv.get q
          rw [e'] at eu
          cases eu
          exact ⟨x, rfl, ru⟩
      rw [List.getElem?_map] at ex
      obtain ⟨j, ej, e2⟩ := Option.map_eq_some_iff.mp ex
      subst e2
      obtain ⟨t, e3⟩ := rx
      rw [List.getD_eq_getElem?_getD, ej]
      exact ⟨t, e3⟩
    refine max_first W _ (CmpOf.ints_gt (fun i => (m :: ms).getD i 0) val) nS (by simp [ln]) st3 (Heap.get?_push_size _ rfl) fun v h' tk hP k => ?_
    obtain ⟨t, ev⟩ := val _ v hP
    obtain ⟨b1, b2⟩ := argBest_gt (fun i => (m :: ms).getD i 0) (its.toArray.size - 1)
    have sz : its.toArray.size - 1 = ms.length := by simp [ln]
    rw [sz] at b1 b2 ev
    refine ⟨.int _, H, keepI h' tk k, ⟨t, ev⟩, q1 _ ?_ fun y hy => ?_⟩
    · have lt : argBest (fun i j => decide ((m :: ms).getD i 0 > (m :: ms).getD j 0)) ms.length < (m :: ms).length := Nat.lt_succ_of_le b1
      rw [List.getD_eq_getElem?_getD, List.getElem?_eq_getElem lt]
      exact List.getElem_mem lt
    · obtain ⟨j, hj, e⟩ := List.mem_iff_getElem.mp hy
      have e2 : (m :: ms).getD j 0 = y := by
        rw [List.getD_eq_getElem?_getD, List.getElem?_eq_getElem hj, e]
        rfl
      rw [← e2]
      exact b2 j (Nat.le_of_lt_succ hj)
/-- min(xs), xs a list of pairs of ints (k says which), one at least: the first of the least -/
def rMinP (K : PySem.W.Frag) : List V → Hp → VK → Prop := fun vs H Q => ∃ (a : Addr) (xs : List V) (k : V → Int × Int), vs = [V.ref a] ∧ SqL K H a xs ∧ xs ≠ [] ∧ (∀ x ∈ xs, ∃ t, x = V.ref t ∧ H t = some (.tup [.int (k x).1, .int (k x).2])) ∧
  ∀ m, m ∈ xs → (∀ y ∈ xs, ¬ ((k y).1 < (k m).1 ∨ ((k y).1 = (k m).1 ∧ (k y).2 < (k m).2))) → Q m H
theorem best_lex (k : Nat → Int × Int) : ∀ n, argBest (fun i j => SrtO.lexB (k i) (k j)) n ≤ n ∧ ∀ j, j ≤ n → SrtO.lexB (k j) (k (argBest (fun i j => SrtO.lexB (k i) (k j)) n)) = false
  | 0 => ⟨Nat.le_refl _, fun j hj => by
    have e : j = 0 := Nat.le_zero.mp hj
    subst e
    show SrtO.lexB (k 0) (k 0) = false
    exact SrtO.lexB_no.mpr (by omega)⟩
  | n + 1 => by
    obtain ⟨h1, h2⟩ := best_lex k n
    rcases hb : SrtO.lexB (k (n + 1)) (k (argBest (fun i j => SrtO.lexB (k i) (k j)) n)) with _ | _
    · have e : argBest (fun i j => SrtO.lexB (k i) (k j)) (n + 1) = argBest (fun i j => SrtO.lexB (k i) (k j)) n := by
        show (if _ then _ else _) = _
        rw [if_neg (fun z => by have z : SrtO.lexB (k (n + 1)) (k (argBest (fun i j => SrtO.lexB (k i) (k j)) n)) = true := z; rw [hb] at z; cases z)]
      rw [e]
      refine ⟨Nat.le_succ_of_le h1, fun j hj => ?_⟩
      rcases Nat.lt_or_eq_of_le hj with lt | e
      · exact h2 j (Nat.le_of_lt_succ lt)
      · subst e
        exact hb
    · have e : argBest (fun i j => SrtO.lexB (k i) (k j)) (n + 1) = n + 1 := by
        show (if _ then _ else _) = _
        rw [if_pos hb]
      rw [e]
      refine ⟨Nat.le_refl _, fun j hj => ?_⟩
      rcases Nat.lt_or_eq_of_le hj with lt | e
      · have q := SrtO.lexB_no.mp (h2 j (Nat.le_of_lt_succ lt))
        have b := SrtO.lexB_iff.mp hb
        refine SrtO.lexB_no.mpr ?_
        omega
      · subst e
        exact SrtO.lexB_no.mpr (by omega)
theorem min_pairs {X : Cx} (hc : X.calm = true) (hu : X.A.units + 1 < cLine) : CallR X (.builtin "min") (rMinP X.K) := by
  rintro pins s σ H _ us Q I r ⟨a, xs, k, rfl, hs, hne, hx, q⟩
  obtain ⟨its, rv, hl, hz⟩ := I.list hs
  obtain ⟨u, rfl, rx⟩ := vals1 r
  obtain rfl : u = Value.ref a := rx
  have hlist := hl.isList
  have ln : xs.length = its.length := rv.length
  let kn : Nat → Int × Int := fun i => k (xs.getD i .non)
  have pr : ∀ i v, (its.toArray[i]? : Option Value) = some v → ∃ t y1 y2, v = Value.ref t ∧ IsTup s.heap t #[y1, y2] ∧ (∃ t1, y1 = Value.int (kn i).1 t1) ∧ ∃ t2, y2 = Value.int (kn i).2 t2 := fun i v e => by
    have e' : its[i]? = some v := by simpa using e
    obtain ⟨x, ex, rx⟩ : ∃ x, xs[i]? = some x ∧ RelV x v := by
      cases q : xs[i]? with
      | none =>
        rw [rv.none_of q] at e'
        cases e'
      | some x =>
        obtain ⟨u, eu, ru⟩ := rv.get q
        rw [e'] at eu
        cases eu
        exact ⟨x, rfl, ru⟩
    obtain ⟨t, et, ht⟩ := hx x (List.mem_of_getElem? ex)
    have ek : kn i = k x := by
      show k (xs.getD i .non) = _
      rw [List.getD_eq_getElem?_getD, ex]
      rfl
    rw [ek]
    subst et
    obtain rfl : v = Value.ref t := rx
    obtain ⟨_, its2, r2, o, ho, hc, n, hd⟩ := I.hok _ _ ht
    obtain ⟨u1, u2, rfl, ri, rj⟩ := vals2 r2
    exact ⟨t, u1, u2, rfl, ⟨o, ho, hc, n, hd⟩, ri, rj⟩
  refine call_function_tree F.kind_min F.plain_min F.entry_min (F.args_min1 _) ?_
  show wpAny _ X.A.in1 (Builtin.Builtins.bindParams "min" ["key", "default"] 0 ⟨[], []⟩ >>= _) _ _ s
  apply wpAny_bind
  refine wpAny_of_eq (show Builtin.Builtins.bindParams "min" ["key", "default"] 0 ⟨[], []⟩ = pure [none, none] from rfl) ?_
  apply wpAny_bind
  apply wpAny_pure
  apply wpAny_bind
  have alt : a < s.heap.objs.size := by obtain ⟨_, e, _⟩ := hlist; exact Heap.lt_size e
  refine wpAny_pyIter_list hlist ?_
  generalize hs2 : ({ s with heap := s.heap.push { cls := .type "list_iterator", data := .fields #[.ref a, .int 0 0] } } : Shared) = s2
  have h2 : s2.heap = s.heap.push { cls := .type "list_iterator", data := .fields #[.ref a, .int 0 0] } := by rw [← hs2]
  have sz2 : s2.heap.objs.size = s.heap.objs.size + 1 := by rw [h2] <;> exact Heap.size_push _ _
  have st2 : s2.heap.IsListIter s.heap.objs.size a 0 ∧ s2.heap.IsList a its.toArray := by
    rw [h2]
    exact ⟨⟨_, Heap.get?_push_size _ rfl, rfl, rfl⟩, hlist.push _⟩
  have old2 : ∀ b o, s.heap.get? b = some o → s2.heap.get? b = some o := fun b o e => by
    rw [h2]
    exact Heap.get?_push_of_some _ e
  apply wpAny_bind
  refine wpAny_newObj_type ?_
  have W := Walks.list (prog := X.prog) (w := X.w) (A := X.A.in1) (I.ok.hd hc) s.heap.objs.size a (Nat.ne_of_lt alt) its.toArray
  have nS : s2.heap.objs.size ∉ [s.heap.objs.size, a] := fun z => by
    rcases List.mem_cons.mp z with e | e
    · rw [sz2] at e
      exact absurd e (Nat.ne_of_gt (Nat.lt_succ_self _))
    · have e := List.mem_singleton.mp e
      rw [sz2] at e
      rw [← e] at alt
      exact absurd alt (Nat.not_lt.mpr (Nat.le_succ _))
  have nm : (toString "min" ++ toString ".loop" : String) = "min.loop" := by decide
  rw [nm]
  have st3 := W.frame 0 _ (s2.heap.push { cls := .type "list", dict := none, data := .seq #[], slots := #[] }) st2 fun b _ o e => Heap.get?_push_of_some _ e
  let G : Heap → Prop := fun h => ∀ b o, s.heap.get? b = some o → h.get? b = some o
  have lts : ∀ {b : Addr} {o : Obj}, s.heap.get? b = some o → b ∉ [s.heap.objs.size] ∧ b ≠ s2.heap.objs.size := fun e => by
    have lt := Heap.lt_size e
    exact ⟨fun z => absurd (List.mem_singleton.mp z) (Nat.ne_of_lt lt), by rw [sz2] <;> exact Nat.ne_of_lt (Nat.lt_succ_of_lt lt)⟩
  have cmp : ∀ i j vi vj (s' : Shared) (Q E : Value → Shared → Prop), G s'.heap → (its.toArray[i]? : Option Value) = some vi → (its.toArray[j]? : Option Value) = some vj → Q (.bool (SrtO.lexB (kn i) (kn j))) s' → wpAny (model X.prog X.w) X.A.in1 (richCompare .Lt vi vj) Q E s' := by
    intro i j vi vj s' Q E g hi hj hq
    obtain ⟨t, y1, y2, rfl, ht, ⟨t1, e1⟩, ⟨t2, e2⟩⟩ := pr i vi hi
    obtain ⟨t', z1, z2, rfl, ht', ⟨t3, e3⟩, ⟨t4, e4⟩⟩ := pr j vj hj
    subst e1 e2 e3 e4
    have up : ∀ {t : Addr} {vs : Array Value}, IsTup s.heap t vs → IsTup s'.heap t vs := fun ⟨o, ho, r⟩ => ⟨o, g _ _ ho, r⟩
    have lex : HT.lexLt [(kn i).1, (kn i).2] [(kn j).1, (kn j).2] = SrtO.lexB (kn i) (kn j) := by
      rw [HT.lexLt_cons, HT.lexLt_cons, HT.lexLt_nil_nil]
      unfold SrtO.lexB
      split
      · split
        · rename_i e
          rw [e]
          exact (decide_eq_false (Int.lt_irrefl _)).symm
        · rfl
      · rfl
    refine (HT.lt_tupInts (ns := [(kn i).1, (kn i).2]) (ms := [(kn j).1, (kn j).2]) (up ht) (up ht') (.cons _ _ (.cons _ _ .nil)) (.cons _ _ (.cons _ _ .nil)) hu ?_ : wpAny (model X.prog X.w) X.A.in1 (compareOp .Lt (.ref t) (.ref t')) Q E s')
    rw [lex]
    exact hq
  have pos : 0 < its.toArray.size := by
    rw [List.size_toArray, ← ln]
    exact List.length_pos_iff.mpr hne
  refine wpAny_pure ⟨plainId_quiet F.plain_min_loop _, min_first W _ G cmp (fun h h' kk g b o e => kk b o (lts e).1 (lts e).2 (g b o e)) nS pos (fun b o e => Heap.get?_push_of_some _ (old2 b o e)) st3 (Heap.get?_push_size _ rfl) fun v h' tk hP kk => ?_⟩
  obtain ⟨b1, b2⟩ := best_lex kn (its.toArray.size - 1)
  have lt : argBest (fun i j => SrtO.lexB (kn i) (kn j)) (its.toArray.size - 1) < xs.length := by
    rw [List.size_toArray] at b1 pos ⊢
    rw [ln]
    omega
  have ex : xs[argBest (fun i j => SrtO.lexB (kn i) (kn j)) (its.toArray.size - 1)]? = some xs[argBest (fun i j => SrtO.lexB (kn i) (kn j)) (its.toArray.size - 1)] := List.getElem?_eq_getElem lt
  obtain ⟨u, eu, ru⟩ := rv.get ex
  have ev : (its[argBest (fun i j => SrtO.lexB (kn i) (kn j)) (its.toArray.size - 1)]? : Option Value) = some v := by simpa using hP
  rw [ev] at eu
  cases eu
  have kv : ∀ i (hi : i < xs.length), kn i = k xs[i] := fun i hi => by
    show k (xs.getD i .non) = _
    rw [List.getD_eq_getElem?_getD, List.getElem?_eq_getElem hi]
    rfl
  refine ⟨_, H, ?_, ru, q _ (List.getElem_mem lt) fun y hy => ?_⟩
  · rw [← hs2]
    exact I.kept fun b o e => kk b o (lts e).1 (lts e).2 (Heap.get?_push_of_some _ (old2 b o e))
  · obtain ⟨j, hj, e⟩ := List.mem_iff_getElem.mp hy
    have z := b2 j (by rw [List.size_toArray, ← ln]; omega)
    rw [kv j hj, kv _ lt, e] at z
    exact SrtO.lexB_no.mp z
end Rw

namespace Rw
open PySem PySem.Spec PyProof.Rows L2
section
variable {c : Cn} {a b d e o : Expr} {es : List Expr} {kws : List Keyword} {ta tb te to : TE} {tA tK : TA} {pos apos mpos p pt : Pos} {x y z m : Str}
/-- len of an instance, by its own __len__ -/
def rLenOwn (c : Cn) : List V → Hp → VK → Prop := fun xs H Q => ∃ (d : Addr) (C : Str) (dx : Addr) (fs : List (Str × V)) (s : Shp), xs = [.ref d] ∧ H d = some (.ins (He.ga c.K C) dx fs) ∧ hasF (isMeth C "__len__") c.fa = true ∧ shpOf c.sh (C, some ("__len__" : Str)) 1 [] = some s ∧
  c.Ph s.key (plug c.K s.plan [.ref d] []) H (fun v H2 => ∃ n : Nat, v = .int n ∧ n < 2 ^ 63 ∧ Q (.int n) H2) (fun _ _ _ => False)
theorem in1_guards {A : Around} (h : A.guards = some []) : A.in1.guards = some [] := h
theorem len_inst (hc : c.hot = false) (X : Cx) (h : Bd c X) : CallR X (.builtin "len") (rLenOwn c) := by
  rintro pins st σ H _ us Q I r ⟨d, C, dx, fs, s, rfl, e, hm, hs, q⟩
  obtain ⟨u, rfl, ru⟩ := vals1 r
  obtain rfl : u = Value.ref d := ru
  obtain ⟨mem, ek, en, eks⟩ := shpOf_ok hs
  obtain ⟨k, room, all⟩ := h.fns hc
  obtain ⟨fd, ps, g, F, kb⟩ := (all s mem).ex
  have me := h.meth hm
  obtain ⟨mA, O, _⟩ := ins_get I.hok e
  obtain ⟨od, J, _⟩ := O.look
  have kin := I.kIn
  rw [h.hK] at kin
  have bt := kb.to st [Value.ref d] [] I.kIn (by rw [en] <;> rfl) (by rw [eks] <;> rfl)
  have e0 : [] = s.ks.zip ([] : List Value) := by rw [eks] <;> rfl
  have ef : He.fAd c.K s.key = He.ma c.K (He.ga c.K C) "__len__" := by rw [ek] <;> rfl
  have room1 : Room k X.A.in1 := room.in1
  have run := F.run X.A.in1 X.stack st H ⟨[Value.ref d], s.ks.zip []⟩ _ _ _ (fun _ _ _ => False) room1 (in1_guards h.gu) I.env0.in1 bt (kb.rel (.cons (show L2.RelV (V.ref d) (Value.ref d) from rfl) .nil) .nil) q
  rw [ef, ← e0] at run
  refine Calls.call_function_entry kind_len plain_len entry_len (args_len1 _) ?_
  unfold Builtin.«len»
  apply wpAny_bind (m := oneArg "len" _)
  apply wpAny_pure
  apply wpAny_bind (m := callSpecial? (.ref d) (Str.ofString "__len__"))
  refine PySem.W.special_fn kin J me.at_ (beq_iff_eq.mp me.fn) (wpAny_call (codeAny_mono run fun res s2 zz => ?_))
  cases res with
  | error er =>
    obtain ⟨_, _, _, _, _, _, _, _, _, _, _, _, _, _, _, _, zz⟩ := zz
  | ok fl =>
    cases fl with
    | next => exact zz.elim
    | brk => exact zz.elim
    | cont => exact zz.elim
    | ret u =>
      obtain ⟨v, H3, I3, rv, n, ev, hn, q3⟩ := I.after zz
      subst ev
      obtain ⟨t, rfl⟩ := rv
      apply wpAny_bind
      apply wpAny_holding
      apply wpAny_pure
      apply wpAny_bind
      apply wpAny_letGo
      show wpAny _ _ (if ((n : Nat) : Int) < 0 then _ else _) _ _ _
      rw [if_neg (by omega)]
      show wpAny _ _ (if ((n : Nat) : Int) ≥ 2 ^ 63 then _ else _) _ _ _
      rw [if_neg (by omega)]
      apply wpAny_bind
      apply wpAny_mkInt
      exact wpAny_pure ⟨_, rfl, .int n, H3, I3.tok _, ⟨_, rfl⟩, q3⟩
theorem f_lenO (hc : c.hot = false := by rfl) : BFn c "len" "len" (rLenOwn c) := ⟨by decide +kernel, fun X h => len_inst hc X h, by decide, by decide⟩
/-- max(xs, default=d) -/
theorem g_maxD {kw : Keyword} (ha : GA c (e :: es) tA) (hk : GK c [kw] tK) (hc : c.hot = false := by rfl) (hg : GlN c "max" := by rfl) (hf : hasF (isFree "max") c.fa = true := by rfl)
    (he : ∀ env, backTo pos (starEach (e :: es) env) = (false, eval e env) :: backTo pos (starEach es env) := by intro _; rfl) (hpl : ∀ env, (backTo pos (starEach (e :: es) env)).any (·.1) = false := by intro _; rfl)
    (hall : ∀ env, (backToKw pos (keywordEach [kw] env)).all (·.1.isSome) = true := by intro _; rfl) (hno : ∀ env, (backToKw pos (keywordEach [kw] env)).any (·.1.isNone) = false := by intro _; rfl) (hks : ∀ env, (backToKw pos (keywordEach [kw] env)).filterMap (·.1) = [("default" : Str)] := by intro _; rfl) :
    GE c (.Call (.Name "max" p) (e :: es) [kw] pos) (tCKw (rMaxD c.K) tA tK) := fun X h => by
  have := pe_callBK (pos := pos) (p := p) (max_dflt (X := X) (h.calm hc)) (h.gln hg) (h.free hf) (by decide +kernel) (ha X h) (hk X h) (by decide) (by decide) (he X.env) (hpl X.env) (hall X.env) (hno X.env) (hks X.env)
  rw [h.hK] at this
  exact this
def rMinU (K : PySem.W.Frag) : List V → Hp → VK → Prop := fun xs H Q => rMin K xs H Q ∨ rMinP K xs H Q
theorem f_minU (hc : c.hot = false := by rfl) : BFn c "min" "min" (rMinU c.K) := ⟨by decide +kernel, fun X h => by
  have := CallR.or (cr_min (X := X) (h.calm hc)) (min_pairs (X := X) (h.calm hc) (by have := h.un; omega))
  rw [h.hK] at this
  exact this, by decide, by decide⟩
/-- a, b, c = e1, e2, e3 -/
theorem gs_par3 {e1 e2 e3 : Expr} {t1 t2 t3 : TE} {px py pz : Pos} {kt k2 pt2} (i j l : Nat) (h1 : GE c e1 t1) (h2 : GE c e2 t2) (h3 : GE c e3 t3) (hi : c.N[i]? = some x := by rfl) (hj : c.N[j]? = some y := by rfl) (hl : c.N[l]? = some z := by rfl) (hij : i ≠ j := by decide) (hil : i ≠ l := by decide) (hjl : j ≠ l := by decide)
    (hc : c.hot = false := by rfl) (hx : c.sc.names.lookup x = some .local := by rfl) (hy : c.sc.names.lookup y = some .local := by rfl) (hz : c.sc.names.lookup z = some .local := by rfl)
    (hw : ∀ env, env.scope = c.sc → swappedStores [.Tuple [.Name x px, .Name y py, .Name z pz] kt pt] (.Tuple [e1, e2, e3] k2 pt2) env = pure (some [x, y, z]) := by exact fun _ h => (sw_at h).trans rfl)
    (hs : ∀ env, swapsWithSole [.Tuple [.Name x px, .Name y py, .Name z pz] kt pt] (.Tuple [e1, e2, e3] k2 pt2) pos.line env = pure false := by intro _; rfl)
    (s1 : ∀ env, starEach [e1, e2, e3] env = (false, eval e1 env) :: starEach [e2, e3] env := by intro _; rfl) (s2 : ∀ env, starEach [e2, e3] env = (false, eval e2 env) :: starEach [e3] env := by intro _; rfl) (s3 : ∀ env, starEach [e3] env = (false, eval e3 env) :: starEach [] env := by intro _; rfl) :
    GS c (.Assign [.Tuple [.Name x px, .Name y py, .Name z pz] kt pt] (.Tuple [e1, e2, e3] k2 pt2) pos) (tPar3 i j l (tCons t1 (tCons t2 (tCons t3 tNil)))) := fun X h =>
  ps_par3 (h.calm hc) (by rw [h.hN]; exact h.nd) (by rw [h.hN]; exact hi) (by rw [h.hN]; exact hj) (by rw [h.hN]; exact hl) hij hil hjl (by rw [h.hsc]; exact hx) (by rw [h.hsc]; exact hy) (by rw [h.hsc]; exact hz)
    (pa_cons (h1 X h) (pa_cons (h2 X h) (pa_cons (h3 X h) pa_nil (s3 X.env)) (s2 X.env)) (s1 X.env)) (hw X.env h.hsc) (hs X.env)
end
section
variable {K : PySem.W.Frag} {H : Hp} {Q : VK}
theorem v_sortU {d : Addr} {kvs : List (Key × V)} {ks : List Int} (e : Rd H d (.dK kvs)) (hk : kvs.map (·.1) = ks.map Sum.inl) (h : ∀ (ys : List Int) (p : Addr) (H2 : Hp), ys.Perm ks → ys.Pairwise (· ≤ ·) → H p = none → Ext noM H H2 → H2 p = some (.lst (ys.map V.int)) → Q (.ref p) H2) : rSortU K [.ref d] H Q := .inr (.inr (.inr (v_sortD e hk h)))
theorem v_sumD {te : TE} {σ : L2.St} (h : te σ H fun x H1 => ∃ (a : Addr) (kvs : List (Key × V)) (ns : List Int), x = V.ref a ∧ H1 a = some (.dK kvs) ∧ kvs.map (·.2) = ns.map V.int ∧ Q (.int ns.sum) H1) : tSumVals te σ H Q := h
theorem v_maxD {a : Addr} {ns : List Int} {d : V} (e : H a = some (.lst (ns.map V.int))) (h0 : ns = [] → Q d H) (h : ∀ m, m ∈ ns → (∀ y, y ∈ ns → y ≤ m) → Q (.int m) H) : rMaxD K [.ref a] [d] H Q := ⟨a, ns, d, rfl, rfl, .inl (.inl e), h0, h⟩
theorem e_ckw {r : List V → List V → Hp → VK → Prop} {t tk : TA} {σ : L2.St} (h : t σ H fun vs H1 => tk σ H1 fun zs H2 => r vs zs H2 Q) : tCKw r t tk σ H Q := h
end
section
variable {K : PySem.W.Frag} {H : Hp} {Q : VK}
theorem x_putD {d : Addr} {kvs : List (Key × V)} (k : Key) {v : V} {Qh : Hp → Prop} (e : H d = some (.dK kvs)) (z : kvs.length < sizeLine) (h : ∀ H2, Ext (at1 d) H H2 → H2 d = some (.dK (putK kvs k v)) → Qh H2) : rPutU (.ref d) (kV k) v H Qh :=
  .inr ⟨d, _, rfl, DPut.k e z, h _ (Ext.set rfl) upd_same⟩
theorem j_rng2 {i j : Int} {R : Int → Int → Prop} (h : -(2 ^ 62) ≤ i ∧ i < 2 ^ 62 ∧ -(2 ^ 62) ≤ j ∧ j < 2 ^ 62) (r : R i j) : ∃ i' j' : Int, [V.int i, V.int j] = [.int i', .int j'] ∧ (-(2 ^ 62) ≤ i' ∧ i' < 2 ^ 62 ∧ -(2 ^ 62) ≤ j' ∧ j' < 2 ^ 62) ∧ R i' j' := ⟨i, j, rfl, h, r⟩
/-- d.pop(k), there -/
theorem v_popD {d : Addr} {kvs : List (Key × V)} (k : Key) {v : V} (e : H d = some (.dK kvs)) (l : valV kvs k = some v) (h : ∀ H2, Ext (at1 d) H H2 → H2 d = some (.dK (dropK kvs k)) → Q v H2) : rDpop (.ref d) [kV k] H Q := ⟨d, kvs, k, rfl, e, .inl ⟨v, rfl, l, h _ (Ext.set rfl) upd_same⟩⟩
theorem v_getD {d : Addr} {kvs : List (Key × V)} (k : Key) {z : V} (e : H d = some (.dK kvs)) (h : Q ((valV kvs k).getD z) H) : rDget (.ref d) [kV k, z] H Q := ⟨d, kV k, valV kvs k, rfl, .inr ⟨z, rfl, DGet.k e, h⟩⟩
theorem v_slL {a : Addr} {xs : List V} {lo hi : Option Int} (e : H a = some (.lst xs)) (h : ∀ p H2, H p = none → Ext noM H H2 → H2 p = some (.lst (cutV xs lo hi)) → Q (.ref p) H2) : rSlU K (.ref a) lo hi H Q := .inl ⟨a, xs, rfl, .inl (.inl e), n_obj' h⟩
theorem v_lenD {d : Addr} {kvs : List (Key × V)} (e : H d = some (.dK kvs)) (h : Q (.int kvs.length) H) : rLenU K [.ref d] H Q := ⟨_, _, rfl, .inr ⟨d, kvs, rfl, .inl e, rfl⟩, h⟩
/-! rows by their places -/
def row (N : Nat) (g : Nat → V) : List V := (List.range N).map g
def put1 (g : Nat → V) (i : Nat) (v : V) : Nat → V := fun j => if j = i then v else g j
theorem row_len {N : Nat} {g : Nat → V} : (row N g).length = N := by simp [row]
theorem row_at {N i : Nat} {g : Nat → V} (h : i < N) : (row N g)[i]? = some (g i) := by
  unfold row
  rw [List.getElem?_map, List.getElem?_range h]
  rfl
theorem row_ext {N : Nat} {g g' : Nat → V} (h : ∀ i, i < N → g i = g' i) : row N g = row N g' := List.map_congr_left fun i hi => h i (List.mem_range.mp hi)
theorem row_set {N i : Nat} {g : Nat → V} {v : V} : (row N g).set i v = row N (put1 g i v) := by
  apply List.ext_getElem?
  intro j
  rw [List.getElem?_set]
  by_cases hj : j < N
  · rw [row_at hj, row_at hj, row_len]
    unfold put1
    by_cases e : i = j
    · subst e
      rw [if_pos rfl, if_pos hj, if_pos rfl]
    · rw [if_neg e, if_neg (fun z => e z.symm)]
  · have o1 : (row N g)[j]? = none := List.getElem?_eq_none (by rw [row_len]; omega)
    have o2 : (row N (put1 g i v))[j]? = none := List.getElem?_eq_none (by rw [row_len]; omega)
    rw [o1, o2, row_len]
    split
    · rw [if_neg (by omega)]
    · rfl
theorem row_rep {N : Nat} {v : V} : List.replicate N v = row N fun _ => v := by
  unfold row
  rw [List.map_const', List.length_range]
theorem ixN_nat {n k : Nat} (h : k < n) : ixN n (k : Nat) = some k := by
  unfold ixN
  rw [if_pos (Int.natCast_nonneg k), if_pos (by omega)]
  rfl
end
section
variable {K : PySem.W.Frag} {H : Hp} {Q : VK} {σ : L2.St}
theorem e_altL {t1 t2 : TE} (h : t1 σ H Q) : tEor t1 t2 σ H Q := .inl h
theorem e_altR {t1 t2 : TE} (h : t2 σ H Q) : tEor t1 t2 σ H Q := .inr h
theorem v_slLn {a : Addr} {xs : List V} {lo hi : Option Int} (e : H a = some (.lst xs)) (h : ∀ p H2, H p = none → Ext noM H H2 → (∃ ys, H2 p = some (.lst ys)) → Q (.ref p) H2) : rSlU K (.ref a) lo hi H Q := v_slL e fun p H2 h1 h2 h3 => h p H2 h1 h2 ⟨_, h3⟩
end
section
variable {K : PySem.W.Frag} {H : Hp} {Q : VK} {σ : L2.St} {D : Ends}
def SetA (K : PySem.W.Frag) (fa : List He.Fa) (f : Str) (y x : V) (H : Hp) (P : Hp → Prop) : Prop := ∃ (q : Addr) (C : Str) (dx : Addr) (fs : List (Str × V)), x = .ref q ∧ H q = some (.ins (He.ga K C) dx fs) ∧
  hasF (isCls C) fa = true ∧ hasF (isNoat C f) fa = true ∧ fs.length < 1000 ∧ P (upd H q (.ins (He.ga K C) dx (putF f y fs)))
theorem s_attr {fa : List He.Fa} {to tv : TE} {f : Str} (h : tv σ H fun y H1 => to σ H1 fun x H2 => SetA K fa f y x H2 (D.nx σ)) : sAttr K fa to tv f D σ H := h
theorem a_put {fa : List He.Fa} {f C : Str} {q dx : Addr} {fs : List (Str × V)} {y : V} {P : Hp → Prop} (e : H q = some (.ins (He.ga K C) dx fs)) (k1 : hasF (isCls C) fa = true) (k2 : hasF (isNoat C f) fa = true) (l : fs.length < 1000)
    (h : ∀ H2, Ext (at1 q) H H2 → H2 q = some (.ins (He.ga K C) dx (putF f y fs)) → P H2) : SetA K fa f y (.ref q) H P := ⟨q, C, dx, fs, rfl, e, k1, k2, l, h _ (Ext.set rfl) upd_same⟩
theorem v_rep {l : Addr} {v : V} {N : Nat} (e : H l = some (.lst [v])) (hN : N ≤ 1000000) (h : ∀ p H2, H p = none → Ext noM H H2 → H2 p = some (.lst (row N fun _ => v)) → Q (.ref p) H2) : rMulU (.ref l) (.int (N : Nat)) H Q := by
  refine ⟨[v], e, by omega, by omega, ?_, fun p np => ?_⟩
  · rw [List.length_singleton, Nat.one_mul, Int.toNat_natCast]
    exact Nat.le_trans hN (by decide)
  · refine h p _ np (Ext.new np) ?_
    rw [upd_same]
    have e : (List.replicate ((N : Nat) : Int).toNat [v]).flatten = row N fun _ => v := by
      rw [Int.toNat_natCast, ← row_rep]
      clear hN h
      induction N with
      | zero => rfl
      | succ n ih => rw [List.replicate_succ, List.flatten_cons, ih]; rfl
    rw [e]
end
section
variable {K : PySem.W.Frag} {H : Hp} {Q : VK}
theorem v_eqD0 {a b : Addr} {ks : List (Key × V)} (e : H a = some (.dK ks)) (e2 : H b = some (.dK [])) (h : Q (.bl (decide (ks = []))) H) : rEqU K (.ref a) (.ref b) H Q := .inr (.inr ⟨a, b, ks, rfl, rfl, e, e2, h⟩)
theorem v_neD0 {a b : Addr} {ks : List (Key × V)} (e : H a = some (.dK ks)) (e2 : H b = some (.dK [])) (h : Q (.bl (!decide (ks = []))) H) : rNeU K (.ref a) (.ref b) H Q := .inr (.inr ⟨a, b, ks, rfl, rfl, e, e2, h⟩)
theorem v_neDat {x y : V} (d e : PyData) (h1 : Dp K H x d) (h2 : Dp K H y e) (s1 : SeqAt.shaped d = true) (s2 : SeqAt.shaped e = true) (h : Q (.bl (!PyData.eqv d e)) H) : rNeU K x y H Q := .inr (.inl ⟨d, e, h1, h2, s1, s2, h⟩)
end
end Rw

open Rw in
local macro_rules | `(tactic| walk_at "go1") => `(tactic| first
  | with_reducible apply s_seq
  | with_reducible apply s_ret
  | with_reducible apply e_c
  | ((with_reducible apply e_var); · exact rfl)
  | with_reducible apply e_op
  | with_reducible apply a_cons
  | with_reducible apply a_nil
  | ((with_reducible apply e_fn); · exact rfl)
  | ((with_reducible apply f_go); (· exact rfl); (· exact rfl); (· dsimp only [plug, List.map, List.nil_append, List.cons_append, nth] <;> exact rfl))
  | with_reducible apply e_cb
  | with_reducible apply s_if
  | with_reducible apply s_asg
  | with_reducible apply x_name
  | with_reducible apply c_test
  | with_reducible apply c_tru
  | with_reducible apply c_and
  | with_reducible apply c_or
  | with_reducible apply c_not
  | with_reducible apply b_bl
  | with_reducible apply b_tru
  | with_reducible apply b_truI
  | with_reducible apply e_and
  | with_reducible apply e_or
  | with_reducible apply e_not
  | with_reducible apply e_chain
  | with_reducible apply e_ite
  | with_reducible apply i_t
  | with_reducible apply i_f
  | with_reducible apply i_nt
  | with_reducible apply i_nf
  | with_reducible apply s_next
  | with_reducible apply s_drop
  | with_reducible apply s_retN
  | with_reducible apply e_tup
  | with_reducible apply e_lst
  | with_reducible apply e_un
  | with_reducible apply e_sl
  | with_reducible apply p_none
  | with_reducible apply p_some
  | with_reducible apply p_int
  | with_reducible apply s_par
  | with_reducible apply v_lt
  | with_reducible apply v_le
  | with_reducible apply v_gt
  | with_reducible apply v_ge
  | with_reducible apply v_addI
  | with_reducible apply v_sub
  | with_reducible apply v_neg
  | with_reducible apply v_isN
  | with_reducible apply v_isR
  | with_reducible apply v_isI
  | with_reducible apply v_isS
  | with_reducible apply v_isB
  | with_reducible apply v_isntN
  | with_reducible apply v_isntR
  | with_reducible apply v_isntI
  | with_reducible apply v_isntS
  | with_reducible apply v_isntB
  | with_reducible apply v_is
  | with_reducible apply v_isnt
  | with_reducible apply v_eqI
  | with_reducible apply v_eqS
  | with_reducible apply v_neI
  | with_reducible apply v_neS
  | with_reducible apply v_abs
  | with_reducible apply v_max
  | with_reducible apply v_min
  | with_reducible apply v_inS
  | with_reducible apply x_nil
  | with_reducible apply x_cons
  | with_reducible apply x_sub
  | ((with_reducible apply v_ixT); (· assumption); (· exact rfl))
  | ((with_reducible apply v_ixL); (· assumption); (· exact rfl))
  | ((with_reducible apply x_tup); (· assumption); (· exact rfl))
  | ((with_reducible apply v_inst (b := true)); (· first | exact ty_int | exact ty_non | exact ty_bl | exact ty_str | exact ty_tup (by assumption) | exact ty_lst (by assumption) | exact ty_dK (by assumption)); (· exact rfl))
  | ((with_reducible apply v_inst (b := false)); (· first | exact ty_int | exact ty_non | exact ty_bl | exact ty_str | exact ty_tup (by assumption) | exact ty_lst (by assumption) | exact ty_dK (by assumption)); (· exact rfl))
  | with_reducible apply e_lc
  | with_reducible apply s_for
  | with_reducible apply i_rng1
  | with_reducible apply i_rng2
  | with_reducible apply e_attr
  | with_reducible apply s_attr
  | with_reducible apply e_ckw
  | ((with_reducible apply a_get); (· assumption); (· exact rfl); (· exact rfl); (· exact rfl))
  | with_reducible apply e_meth
  | ((with_reducible apply me_get); (· assumption); (· exact rfl); (· exact rfl); (· exact rfl); (· exact rfl))
  | with_reducible apply q_cons
  | with_reducible apply q_nil
  | with_reducible apply y_str
  | ((with_reducible apply y_lst); (· assumption))
  | ((with_reducible apply y_dK); (· assumption))
  | ((with_reducible apply n_obj); (· exact Nat.le_of_ble_eq_true rfl))
  | with_reducible apply e_bm
  | with_reducible apply e_bm0)
local macro_rules | `(tactic| walk_at "go") => `(tactic| repeat walk_at "go1")

namespace Hd
open PySem PySem.Spec PyProof.Rows L2
def top (i : Nat) : Stmt := PySem.Challenge.pw_roomwhole_k14_given_back.main.body.getD i (.Pass ⟨0, 0, 0, 0⟩)
def dd (a : Str × Option Str) (n q : Str) (s : Stmt) (dfl : List He.Dv) (kwd : List (Str × He.Dv)) : He.DefD := ⟨a, n, q, defArgs s, defBody s, defScope s, dfl, kwd⟩
def fn : List He.DefD := [
  dd ("_wall", none) "_wall" "_wall" (top 0) [] [],
  dd ("is_whole", none) "is_whole" "is_whole" (top 13) [] [],
  dd ("is_number", none) "is_number" "is_number" (top 14) [] [],
  dd ("is_spoken", none) "is_spoken" "is_spoken" (top 15) [] [],
  dd ("is_cell", none) "is_cell" "is_cell" (top 16) [] [],
  dd ("wide_of", none) "wide_of" "wide_of" (top 17) [] [],
  dd ("_law_cell", none) "_law_cell" "_law_cell" (top 25) [] [],
  dd ("_law_pot", none) "_law_pot" "_law_pot" (top 26) [] [],
  dd ("_law_draw", none) "_law_draw" "_law_draw" (top 27) [] [],
  dd ("_law_wide", none) "_law_wide" "_law_wide" (top 28) [] [],
  dd ("_law_longest", none) "_law_longest" "_law_longest" (top 29) [] [],
  dd ("_law_any_cell", none) "_law_any_cell" "_law_any_cell" (top 30) [] [],
  dd ("_law_held_rows", none) "_law_held_rows" "_law_held_rows" (top 31) [] [],
  dd ("_law_gaps", none) "_law_gaps" "_law_gaps" (top 32) [] [],
  dd ("_law_spoilt", none) "_law_spoilt" "_law_spoilt" (top 33) [] [],
  dd ("_law_right", none) "_law_right" "_law_right" (top 34) [] [],
  dd ("_law_taken", none) "_law_taken" "_law_taken" (top 35) [] [],
  dd ("_law_given", none) "_law_given" "_law_given" (top 36) [] [],
  dd ("law", none) "law" "law" (top 37) [] [],
  dd ("Store", some "__init__") "__init__" "Store.__init__" (inClass (top 23) 0) [.int 64] [],
  dd ("Store", some "__eq__") "__eq__" "Store.__eq__" (inClass (top 23) 1) [] [],
  dd ("Store", some "__len__") "__len__" "Store.__len__" (inClass (top 23) 2) [] [],
  dd ("Store", some "size") "size" "Store.size" (inClass (top 23) 4) [] [],
  dd ("Store", some "rooms") "rooms" "Store.rooms" (inClass (top 23) 5) [] [],
  dd ("Store", some "wide_at") "wide_at" "Store.wide_at" (inClass (top 23) 6) [] [],
  dd ("Store", some "stretches") "stretches" "Store.stretches" (inClass (top 23) 7) [] [],
  dd ("Store", some "free") "free" "Store.free" (inClass (top 23) 8) [] [],
  dd ("Store", some "lay_room") "lay_room" "Store.lay_room" (inClass (top 23) 9) [] [],
  dd ("Store", some "clear_room") "clear_room" "Store.clear_room" (inClass (top 23) 10) [] [],
  dd ("Store", some "take") "take" "Store.take" (inClass (top 23) 11) [] [],
  dd ("Store", some "want_begin") "want_begin" "Store.want_begin" (inClass (top 23) 12) [] [],
  dd ("Store", some "give") "give" "Store.give" (inClass (top 23) 13) [] [],
  dd ("Store", some "can_move") "can_move" "Store.can_move" (inClass (top 23) 14) [] [],
  dd ("Store", some "move") "move" "Store.move" (inClass (top 23) 15) [] [],
  dd ("Store", some "is_place") "is_place" "Store.is_place" (inClass (top 23) 16) [] [],
  dd ("Store", some "put") "put" "Store.put" (inClass (top 23) 17) [] [],
  dd ("Store", some "told") "told" "Store.told" (inClass (top 23) 18) [] [],
  dd ("Store", some "copied") "copied" "Store.copied" (inClass (top 23) 19) [] []]
def fa0 : List He.Fa := [.glo "BadCell", .glo "BadWide", .glo "NoPlace", .glo "NoRoom", .glo "NoStore", .glo "RoomError", .glo "Store", .glo "StoreError", .glo "WIDES", .glo "_law_any_cell", .glo "_law_cell", .glo "_law_draw", .glo "_law_gaps", .glo "_law_given", .glo "_law_held_rows", .glo "_law_longest", .glo "_law_pot", .glo "_law_right", .glo "_law_spoilt", .glo "_law_taken", .glo "_law_wide", .glo "_wall", .glo "is_cell", .glo "is_number", .glo "is_spoken", .glo "is_whole", .glo "law", .glo "wide_of", .free "ValueError", .free "abs", .free "bool", .free "divmod", .free "int", .free "isinstance", .free "len", .free "max", .free "min", .free "range", .free "repr", .free "sorted"]
def fa1 : List He.Fa := [.free "str", .free "sum", .free "tuple", .int "GREATEST" 999999999999, .int "MOST_FIELDS" 30, .int "SIZE" 64, .int "ENDLESS" 20000, .int "LEAST_SIZE" 16, .int "GREATEST_SIZE" 512, .exc "RoomError", .exc "StoreError", .exc "NoStore", .exc "NoPlace", .exc "BadCell", .exc "BadWide", .cls "Store", .mkr "Store", .noat "Store" "begin_at", .noat "Store" "cell_at", .noat "Store" "many_places", .noat "Store" "wide_by_begin", .meth "Store" "__eq__", .meth "Store" "__len__", .meth "Store" "__repr__", .meth "Store" "size", .meth "Store" "rooms", .meth "Store" "wide_at", .meth "Store" "stretches", .meth "Store" "free", .meth "Store" "lay_room", .meth "Store" "clear_room", .meth "Store" "take", .meth "Store" "want_begin", .meth "Store" "give", .meth "Store" "can_move", .meth "Store" "move", .meth "Store" "is_place", .meth "Store" "put", .meth "Store" "told", .meth "Store" "copied"]
def fa2 : List He.Fa := [.exm "RoomError" "RoomError" true, .exm "RoomError" "StoreError" false, .exm "RoomError" "NoStore" false, .exm "RoomError" "NoPlace" false, .exm "RoomError" "BadCell" false, .exm "RoomError" "BadWide" false, .exm "RoomError" "NoRoom" false, .exm "StoreError" "RoomError" true, .exm "StoreError" "StoreError" true, .exm "StoreError" "NoStore" false, .exm "StoreError" "NoPlace" false, .exm "StoreError" "BadCell" false, .exm "StoreError" "BadWide" false, .exm "StoreError" "NoRoom" false, .exm "NoStore" "RoomError" true, .exm "NoStore" "StoreError" true, .exm "NoStore" "NoStore" true, .exm "NoStore" "NoPlace" false, .exm "NoStore" "BadCell" false, .exm "NoStore" "BadWide" false, .exm "NoStore" "NoRoom" false, .exm "NoPlace" "RoomError" true, .exm "NoPlace" "StoreError" true, .exm "NoPlace" "NoStore" false, .exm "NoPlace" "NoPlace" true, .exm "NoPlace" "BadCell" false, .exm "NoPlace" "BadWide" false, .exm "NoPlace" "NoRoom" false, .exm "BadCell" "RoomError" true, .exm "BadCell" "StoreError" true, .exm "BadCell" "NoStore" false, .exm "BadCell" "NoPlace" false, .exm "BadCell" "BadCell" true, .exm "BadCell" "BadWide" false, .exm "BadCell" "NoRoom" false, .exm "BadWide" "RoomError" true, .exm "BadWide" "StoreError" true, .exm "BadWide" "NoStore" false, .exm "BadWide" "NoPlace" false, .exm "BadWide" "BadCell" false]
def fa3 : List He.Fa := [.exm "BadWide" "BadWide" true, .exm "BadWide" "NoRoom" false, .exm "NoRoom" "RoomError" true, .exm "NoRoom" "StoreError" true, .exm "NoRoom" "NoStore" false, .exm "NoRoom" "NoPlace" false, .exm "NoRoom" "BadCell" false, .exm "NoRoom" "BadWide" false, .exm "NoRoom" "NoRoom" true]
def fa : List He.Fa := fa0 ++ fa1 ++ fa2 ++ fa3
def xa : List Rw.Ex := [.tup "WIDES" [.int 2, .int 3, .int 4, .int 6, .int 8, .int 12, .int 16, .int 24, .int 32]]
def lo0 : List Str := [("_wall" : Str), ("RoomError" : Str), ("StoreError" : Str), ("NoStore" : Str), ("NoPlace" : Str), ("BadCell" : Str), ("BadWide" : Str), ("NoRoom" : Str), ("WIDES" : Str), ("GREATEST" : Str), ("MOST_FIELDS" : Str), ("is_whole" : Str), ("is_number" : Str), ("is_spoken" : Str), ("is_cell" : Str), ("wide_of" : Str), ("SIZE" : Str), ("ENDLESS" : Str), ("LEAST_SIZE" : Str), ("GREATEST_SIZE" : Str), ("Store" : Str), ("_law_cell" : Str), ("_law_pot" : Str), ("_law_draw" : Str), ("_law_wide" : Str), ("_law_longest" : Str), ("_law_any_cell" : Str), ("_law_held_rows" : Str), ("_law_gaps" : Str), ("_law_spoilt" : Str), ("_law_right" : Str), ("_law_taken" : Str), ("_law_given" : Str)]
def lo : List Str := lo0
abbrev R : PySem.W.OpenRow := PySem.W.OpenLaw.row PySem.Challenge.rw_roomwhole_k14_given_back
abbrev hk : PySem.W.Hook := Rw.hookX 4 fa xa fn
def ob (s : PySem.W.SharedT) : He.AlD := Rw.obsXG 4 fa xa fn (HandSHeadRun.getT s)
theorem ob_eq (s : PySem.W.SharedT) : ob s = hk.obs s.abs := Rw.obsXG_eq (HandSHeadRun.getT_eq s)
theorem run (w : World) : HandSHeadRun.RunEq R (PySem.W.view R.prog [37]) hk ob 20000 lo w := by
  intro os
  kernel_rfl


open Rw
def sh : List Shp := [⟨("is_whole", none), 1, [], [.pos 0]⟩,
  ⟨("is_number", none), 1, [], [.pos 0]⟩,
  ⟨("is_spoken", none), 3, [], [.pos 0, .pos 1, .pos 2]⟩,
  ⟨("Store", some "stretches"), 1, [], [.pos 0]⟩,
  ⟨("_law_draw", none), 2, [], [.pos 0, .pos 1]⟩,
  ⟨("_law_held_rows", none), 1, [], [.pos 0]⟩,
  ⟨("Store", some "rooms"), 1, [], [.pos 0]⟩,
  ⟨("Store", some "told"), 2, [], [.pos 0, .pos 1]⟩,
  ⟨("_law_spoilt", none), 1, [], [.pos 0]⟩,
  ⟨("Store", some "free"), 1, [], [.pos 0]⟩,
  ⟨("_law_gaps", none), 2, [], [.pos 0, .pos 1]⟩,
  ⟨("Store", some "put"), 3, [], [.pos 0, .pos 1, .pos 2]⟩,
  ⟨("_law_any_cell", none), 1, [], [.pos 0]⟩,
  ⟨("_law_wide", none), 1, [], [.pos 0]⟩,
  ⟨("Store", some "take"), 2, [], [.pos 0, .pos 1]⟩,
  ⟨("_law_longest", none), 1, [], [.pos 0]⟩,
  ⟨("Store", some "give"), 1, ["at"], [.pos 0, .kw 0]⟩,
  ⟨("Store", some "give"), 2, [], [.pos 0, .pos 1]⟩,
  ⟨("Store", some "__len__"), 1, [], [.pos 0]⟩,
  ⟨("_law_right", none), 4, [], [.pos 0, .pos 1, .pos 2, .pos 3]⟩,
  ⟨("_law_given", none), 4, [], [.pos 0, .pos 1, .pos 2, .pos 3]⟩,
  ⟨("_law_taken", none), 4, [], [.pos 0, .pos 1, .pos 2, .pos 3]⟩,
  ⟨("Store", some "__init__"), 2, [], [.pos 0, .pos 1]⟩,
  ⟨("_law_cell", none), 2, [], [.pos 0, .pos 1]⟩,
  ⟨("_law_pot", none), 1, [], [.pos 0]⟩,
  ⟨("Store", some "lay_room"), 3, [], [.pos 0, .pos 1, .pos 2]⟩,
  ⟨("wide_of", none), 1, [], [.pos 0]⟩,
  ⟨("Store", some "wide_at"), 2, [], [.pos 0, .pos 1]⟩,
  ⟨("Store", some "clear_room"), 2, [], [.pos 0, .pos 1]⟩,
  ⟨("Store", some "want_begin"), 2, [], [.pos 0, .pos 1]⟩,
  ⟨("_wall", none), 1, [], [.pos 0]⟩,
  ⟨("is_cell", none), 1, [], [.pos 0]⟩,
  ⟨("Store", some "is_place"), 2, [], [.pos 0, .pos 1]⟩]
def N__wall : List Str := [("k" : Str)]
def d__wall : He.DefD := dd ("_wall", none) "_wall" "_wall" (top 0) [] []
def D__wall (K : PySem.W.Frag) (Ph : Ky → Sp) (W : WX) : {t : TS // GB (cn0 fa sh K Ph N__wall (d__wall).scope W) (d__wall).body t} := ⟨_,
   (gb_cons (gs_while (gt_val gb)
    (gb_cons gs_pass
   gb_nil))
   gb_nil)⟩
def e__wall : Ent := ⟨d__wall, [("k" : Str)], N__wall, fun K Ph W => (D__wall K Ph W).1⟩
def N_is_whole : List Str := [("thing" : Str)]
def d_is_whole : He.DefD := dd ("is_whole", none) "is_whole" "is_whole" (top 13) [] []
def D_is_whole (K : PySem.W.Frag) (Ph : Ky → Sp) (W : WX) : {t : TS // GB (cn0 fa sh K Ph N_is_whole (d_is_whole).scope W) (d_is_whole).body t} := ⟨_,
   (gb_cons (gs_ret (g_and (g_fn f_isi (ga_cons (gv 0) (ga_cons (gty "int") ga_nil))) (g_one (g_not (g_fn f_isi (ga_cons (gv 0) (ga_cons (gty "bool") ga_nil)))))))
   gb_nil)⟩
def e_is_whole : Ent := ⟨d_is_whole, [("thing" : Str)], N_is_whole, fun K Ph W => (D_is_whole K Ph W).1⟩
def N_is_number : List Str := [("thing" : Str)]
def d_is_number : He.DefD := dd ("is_number", none) "is_number" "is_number" (top 14) [] []
def D_is_number (K : PySem.W.Frag) (Ph : Ky → Sp) (W : WX) : {t : TS // GB (cn0 fa sh K Ph N_is_number (d_is_number).scope W) (d_is_number).body t} := ⟨_,
   (gb_cons (gs_ret (g_and (g_call (ga_cons (gv 0) ga_nil) gk_nil) (g_one (g_chain .le .le gi (gv 0) (gint (i := 999999999999))))))
   gb_nil)⟩
def e_is_number : Ent := ⟨d_is_number, [("thing" : Str)], N_is_number, fun K Ph W => (D_is_number K Ph W).1⟩
def N_is_spoken : List Str := [("thing" : Str), ("word" : Str), ("many" : Str)]
def d_is_spoken : He.DefD := dd ("is_spoken", none) "is_spoken" "is_spoken" (top 15) [] []
def D_is_spoken (K : PySem.W.Frag) (Ph : Ky → Sp) (W : WX) : {t : TS // GB (cn0 fa sh K Ph N_is_spoken (d_is_spoken).scope W) (d_is_spoken).body t} := ⟨_,
   (gb_cons (gs_ret (g_and (g_fn f_isi (ga_cons (gv 0) (ga_cons (gty "tuple") ga_nil))) (g_and (g_cmp .eq (g_fn f_len (ga_cons (gv 0) ga_nil)) (gv 2)) (g_and (g_fn f_isi (ga_cons (g_ix (gv 0) gi) (ga_cons (gty "str") ga_nil))) (g_one (g_cmp .eq (g_ix (gv 0) gi) (gv 1)))))))
   gb_nil)⟩
def e_is_spoken : Ent := ⟨d_is_spoken, [("thing" : Str), ("word" : Str), ("many" : Str)], N_is_spoken, fun K Ph W => (D_is_spoken K Ph W).1⟩
def N_is_cell : List Str := [("thing" : Str)]
def d_is_cell : He.DefD := dd ("is_cell", none) "is_cell" "is_cell" (top 16) [] []
def D_is_cell (K : PySem.W.Frag) (Ph : Ky → Sp) (W : WX) : {t : TS // GB (cn0 fa sh K Ph N_is_cell (d_is_cell).scope W) (d_is_cell).body t} := ⟨_,
   (gb_cons (gs_if (gt_bool (gw_or (gt_cmp .isn (gv 0) gn) (gw_or1 (gt_val (g_call (ga_cons (gv 0) ga_nil) gk_nil)))))
    (gb_cons (gs_ret gb)
   gb_nil)
    gb_nil)
   (gb_cons (gs_if (gt_val (g_call (ga_cons (gv 0) (ga_cons gs (ga_cons gi ga_nil))) gk_nil))
    (gb_cons (gs_ret (g_call (ga_cons (g_ix (gv 0) gi) ga_nil) gk_nil))
   gb_nil)
    gb_nil)
   (gb_cons (gs_if (gt_bool (gw_or (gt_not (gt_val (g_call (ga_cons (gv 0) (ga_cons gs (ga_cons gi ga_nil))) gk_nil))) (gw_or (gt_not (gt_val (g_call (ga_cons (g_ix (gv 0) gi) ga_nil) gk_nil))) (gw_or1 (gt_cmp .eq (g_ix (gv 0) gi) gi)))))
    (gb_cons (gs_ret gb)
   gb_nil)
    gb_nil)
   (gb_cons (gs_ret (g_and (g_call (ga_cons (g_ix (gv 0) gi) ga_nil) gk_nil) (g_one (g_chain .le .le gi (g_ix (gv 0) gi) (gint (i := 30))))))
   gb_nil))))⟩
def e_is_cell : Ent := ⟨d_is_cell, [("thing" : Str)], N_is_cell, fun K Ph W => (D_is_cell K Ph W).1⟩
def N_wide_of : List Str := [("many" : Str), ("wide" : Str)]
def d_wide_of : He.DefD := dd ("wide_of", none) "wide_of" "wide_of" (top 17) [] []
def D_wide_of (K : PySem.W.Frag) (Ph : Ky → Sp) (W : WX) : {t : TS // GB (cn0 fa sh K Ph N_wide_of (d_wide_of).scope W) (d_wide_of).body t} := ⟨_,
   (gb_cons (gs_if (gt_bool (gw_or (gt_not (gt_val (g_call (ga_cons (gv 0) ga_nil) gk_nil))) (gw_or1 (gt_not (gt_chain .le .le gi (gv 0) (g_ix gglo (g_neg gi)))))))
    (gb_cons gs_never
   gb_nil)
    gb_nil)
   (gb_cons (gs_ret (g_ix (g_lc [("wide", 1)] [1] (gi_any gglo) (gg_name 1) (gts_one (gt_cmp .ge (gv 1) (gv 0))) (gv 1)) gi))
   gb_nil))⟩
def e_wide_of : Ent := ⟨d_wide_of, [("many" : Str)], N_wide_of, fun K Ph W => (D_wide_of K Ph W).1⟩
def N__law_cell : List Str := [("script" : Str), ("k" : Str)]
def d__law_cell : He.DefD := dd ("_law_cell", none) "_law_cell" "_law_cell" (top 25) [] []
def D__law_cell (K : PySem.W.Frag) (Ph : Ky → Sp) (W : WX) : {t : TS // GB (cn0 fa sh K Ph N__law_cell (d__law_cell).scope W) (d__law_cell).body t} := ⟨_,
   (gb_cons (gs_if (gt_cmp .lt (gv 1) (g_fn f_len (ga_cons (gv 0) ga_nil)))
    (gb_cons (gs_ret (g_ix (gv 0) (gv 1)))
   gb_nil)
    gb_nil)
   (gb_cons (gs_ret gi)
   gb_nil))⟩
def e__law_cell : Ent := ⟨d__law_cell, [("script" : Str), ("k" : Str)], N__law_cell, fun K Ph W => (D__law_cell K Ph W).1⟩
def N__law_pot : List Str := [("own" : Str)]
def d__law_pot : He.DefD := dd ("_law_pot", none) "_law_pot" "_law_pot" (top 26) [] []
def D__law_pot (K : PySem.W.Frag) (Ph : Ky → Sp) (W : WX) : {t : TS // GB (cn0 fa sh K Ph N__law_pot (d__law_pot).scope W) (d__law_pot).body t} := ⟨_,
   (gb_cons (gs_ret (g_lst (ga_cons (g_fn f_max2 (ga_cons gi (ga_cons (g_sub (g_fn f_abs (ga_cons (gv 0) ga_nil)) (g_pow gi gi)) ga_nil))) (ga_cons (g_add (g_mod (g_fn f_abs (ga_cons (gv 0) ga_nil)) gi) gi) ga_nil))))
   gb_nil)⟩
def e__law_pot : Ent := ⟨d__law_pot, [("own" : Str)], N__law_pot, fun K Ph W => (D__law_pot K Ph W).1⟩
def N__law_draw : List Str := [("pot" : Str), ("many" : Str), ("digit" : Str)]
def d__law_draw : He.DefD := dd ("_law_draw", none) "_law_draw" "_law_draw" (top 27) [] []
def D__law_draw (K : PySem.W.Frag) (Ph : Ky → Sp) (W : WX) : {t : TS // GB (cn0 fa sh K Ph N__law_draw (d__law_draw).scope W) (d__law_draw).body t} := ⟨_,
   (gb_cons (gs_if (gt_cmp .gt (g_ix (gv 0) gi) gi)
    (gb_cons (gs_asg (g_fn f_divmod (ga_cons (g_ix (gv 0) gi) (ga_cons (gv 1) ga_nil))) (gg_tup 2 (ggs_cons (gg_sub (gv 0) gi) (ggs_cons (gg_name 2) ggs_nil))))
   (gb_cons (gs_ret (gv 2))
   gb_nil))
    gb_nil)
   (gb_cons (gs_asg (g_mod (g_add (g_mul (g_ix (gv 0) gi) gi) gi) gi) (gg_sub (gv 0) gi))
   (gb_cons (gs_ret (g_mod (g_div (g_mod (g_mul (g_ix (gv 0) gi) (g_ix (gv 0) gi)) gi) gi) (gv 1)))
   gb_nil)))⟩
def e__law_draw : Ent := ⟨d__law_draw, [("pot" : Str), ("many" : Str)], N__law_draw, fun K Ph W => (D__law_draw K Ph W).1⟩
def N__law_wide : List Str := [("wanted" : Str), ("one" : Str)]
def d__law_wide : He.DefD := dd ("_law_wide", none) "_law_wide" "_law_wide" (top 28) [] []
def D__law_wide (K : PySem.W.Frag) (Ph : Ky → Sp) (W : WX) : {t : TS // GB (cn0 fa sh K Ph N__law_wide (d__law_wide).scope W) (d__law_wide).body t} := ⟨_,
   (gb_cons (gs_ret (g_ix (g_lc [("one", 1)] [1] (gi_any (g_lst (ga_cons gi (ga_cons gi (ga_cons gi (ga_cons gi (ga_cons gi (ga_cons gi (ga_cons gi (ga_cons gi (ga_cons gi ga_nil))))))))))) (gg_name 1) (gts_one (gt_cmp .ge (gv 1) (gv 0))) (gv 1)) gi))
   gb_nil)⟩
def e__law_wide : Ent := ⟨d__law_wide, [("wanted" : Str)], N__law_wide, fun K Ph W => (D__law_wide K Ph W).1⟩
def N__law_longest : List Str := [("shop" : Str), ("first" : Str), ("many" : Str)]
def d__law_longest : He.DefD := dd ("_law_longest", none) "_law_longest" "_law_longest" (top 29) [] []
def D__law_longest (K : PySem.W.Frag) (Ph : Ky → Sp) (W : WX) : {t : TS // GB (cn0 fa sh K Ph N__law_longest (d__law_longest).scope W) (d__law_longest).body t} := ⟨_,
   (gb_cons (gs_ret (g_fn f_max1 (ga_cons (g_add (g_lst (ga_cons gi ga_nil)) (g_lc [("first", 1), ("many", 2)] [1, 2] (gi_any (g_meth0 (gv 0) gk_nil)) (gg_tup 2 (ggs_cons (gg_name 1) (ggs_cons (gg_name 2) ggs_nil))) gts_nil (gv 2))) ga_nil)))
   gb_nil)⟩
def e__law_longest : Ent := ⟨d__law_longest, [("shop" : Str)], N__law_longest, fun K Ph W => (D__law_longest K Ph W).1⟩
def N__law_any_cell : List Str := [("pot" : Str), ("choice" : Str), ("far" : Str)]
def d__law_any_cell : He.DefD := dd ("_law_any_cell", none) "_law_any_cell" "_law_any_cell" (top 30) [] []
def D__law_any_cell (K : PySem.W.Frag) (Ph : Ky → Sp) (W : WX) : {t : TS // GB (cn0 fa sh K Ph N__law_any_cell (d__law_any_cell).scope W) (d__law_any_cell).body t} := ⟨_,
   (gb_cons (gs_asg (g_call (ga_cons (gv 0) (ga_cons gi ga_nil)) gk_nil) (gg_name 1))
   (gb_cons (gs_asg (g_ix (g_lst (ga_cons gi (ga_cons gi (ga_cons (g_call (ga_cons (gv 0) (ga_cons gi ga_nil)) gk_nil) (ga_cons gi ga_nil))))) (g_call (ga_cons (gv 0) (ga_cons gi ga_nil)) gk_nil)) (gg_name 2))
   (gb_cons (gs_if (gt_cmp .eq (gv 1) gi)
    (gb_cons (gs_ret gn)
   gb_nil)
    gb_nil)
   (gb_cons (gs_if (gt_cmp .lt (gv 1) gi)
    (gb_cons (gs_ret (gv 2))
   gb_nil)
    gb_nil)
   (gb_cons (gs_if (gt_cmp .lt (gv 1) gi)
    (gb_cons (gs_ret (g_tup (ga_cons gs (ga_cons (gv 2) ga_nil))))
   gb_nil)
    gb_nil)
   (gb_cons (gs_ret (g_tup (ga_cons gs (ga_cons (g_fn f_max2 (ga_cons gi (ga_cons (gv 2) ga_nil))) (ga_cons (g_ix (g_lst (ga_cons gi (ga_cons gi (ga_cons (g_call (ga_cons (gv 0) (ga_cons gi ga_nil)) gk_nil) (ga_cons gi ga_nil))))) (g_call (ga_cons (gv 0) (ga_cons gi ga_nil)) gk_nil)) ga_nil)))))
   gb_nil))))))⟩
def e__law_any_cell : Ent := ⟨d__law_any_cell, [("pot" : Str)], N__law_any_cell, fun K Ph W => (D__law_any_cell K Ph W).1⟩
def N__law_held_rows : List Str := [("rooms" : Str), ("begin" : Str)]
def d__law_held_rows : He.DefD := dd ("_law_held_rows", none) "_law_held_rows" "_law_held_rows" (top 31) [] []
def D__law_held_rows (K : PySem.W.Frag) (Ph : Ky → Sp) (W : WX) : {t : TS // GB (cn0 fa sh K Ph N__law_held_rows (d__law_held_rows).scope W) (d__law_held_rows).body t} := ⟨_,
   (gb_cons (gs_ret (g_lc [("begin", 1)] [1] (gi_any (g_fn f_sorted (ga_cons (gv 0) ga_nil))) (gg_name 1) gts_nil (g_tup (ga_cons (gv 1) (ga_cons (g_ix (gv 0) (gv 1)) ga_nil)))))
   gb_nil)⟩
def e__law_held_rows : Ent := ⟨d__law_held_rows, [("rooms" : Str)], N__law_held_rows, fun K Ph W => (D__law_held_rows K Ph W).1⟩
def N__law_gaps : List Str := [("rooms" : Str), ("amount" : Str), ("found" : Str), ("begin" : Str), ("first" : Str), ("wide" : Str)]
def d__law_gaps : He.DefD := dd ("_law_gaps", none) "_law_gaps" "_law_gaps" (top 32) [] []
def D__law_gaps (K : PySem.W.Frag) (Ph : Ky → Sp) (W : WX) : {t : TS // GB (cn0 fa sh K Ph N__law_gaps (d__law_gaps).scope W) (d__law_gaps).body t} := ⟨_,
   (gb_cons (gs_asg (g_lst ga_nil) (gg_name 2))
   (gb_cons (gs_asg gi (gg_name 3))
   (gb_cons (gs_for (gi_any (g_add (g_call (ga_cons (gv 0) ga_nil) gk_nil) (g_lst (ga_cons (g_tup (ga_cons (gv 1) (ga_cons gi ga_nil))) ga_nil)))) (gg_tup 2 (ggs_cons (gg_name 4) (ggs_cons (gg_name 5) ggs_nil)))
    (gb_cons (gs_if (gt_cmp .gt (gv 4) (gv 3))
    (gb_cons (gs_expr (g_bm m_append (gv 2) (ga_cons (g_tup (ga_cons (gv 3) (ga_cons (g_sub (gv 4) (gv 3)) ga_nil))) ga_nil)))
   gb_nil)
    gb_nil)
   (gb_cons (gs_asg (g_add (gv 4) (gv 5)) (gg_name 3))
   gb_nil)))
   (gb_cons (gs_ret (gv 2))
   gb_nil))))⟩
def e__law_gaps : Ent := ⟨d__law_gaps, [("rooms" : Str), ("amount" : Str)], N__law_gaps, fun K Ph W => (D__law_gaps K Ph W).1⟩
def N__law_spoilt : List Str := [("some" : Str)]
def d__law_spoilt : He.DefD := dd ("_law_spoilt", none) "_law_spoilt" "_law_spoilt" (top 33) [] []
def D__law_spoilt (K : PySem.W.Frag) (Ph : Ky → Sp) (W : WX) : {t : TS // GB (cn0 fa sh K Ph N__law_spoilt (d__law_spoilt).scope W) (d__law_spoilt).body t} := ⟨_,
   (gb_cons (gs_expr (g_bm m_append (gv 0) (ga_cons gn ga_nil)))
   (gb_cons (gs_asg (g_tup (ga_cons gi (ga_cons gi ga_nil))) (gg_sub (gv 0) gi))
   gb_nil))⟩
def e__law_spoilt : Ent := ⟨d__law_spoilt, [("some" : Str)], N__law_spoilt, fun K Ph W => (D__law_spoilt K Ph W).1⟩
def N__law_right : List Str := [("shop" : Str), ("rooms" : Str), ("cells" : Str), ("amount" : Str), ("due" : Str), ("gaps" : Str), ("spot" : Str), ("begin" : Str), ("many" : Str), ("some" : Str)]
def d__law_right : He.DefD := dd ("_law_right", none) "_law_right" "_law_right" (top 34) [] []
def D__law_right (K : PySem.W.Frag) (Ph : Ky → Sp) (W : WX) : {t : TS // GB (cn0 fa sh K Ph N__law_right (d__law_right).scope W) (d__law_right).body t} := ⟨_,
   (gb_cons (gs_par 4 5 (g_call (ga_cons (gv 1) ga_nil) gk_nil) (g_call (ga_cons (gv 1) (ga_cons (gv 3) ga_nil)) gk_nil))
   (gb_cons (gs_if (gt_bool (gw_or (gt_cmp .ne (g_fn f_repr (ga_cons (g_meth0 (gv 0) gk_nil) ga_nil)) (g_fn f_repr (ga_cons (gv 4) ga_nil))) (gw_or1 (gt_cmp .ne (g_fn f_repr (ga_cons (g_meth0 (gv 0) gk_nil) ga_nil)) (g_fn f_repr (ga_cons (gv 5) ga_nil))))))
    (gb_cons (gs_ret gb)
   gb_nil)
    gb_nil)
   (gb_cons (gs_if (gt_bool (gw_or (gt_cmp .ne (g_meth0 (gv 0) gk_nil) (g_fn f_sum (ga_cons (g_lc [("begin", 7), ("many", 8)] [7, 8] (gi_any (gv 5)) (gg_tup 2 (ggs_cons (gg_name 7) (ggs_cons (gg_name 8) ggs_nil))) gts_nil (gv 8)) ga_nil))) (gw_or1 (gt_val (g_fn f_isi (ga_cons (g_meth0 (gv 0) gk_nil) (ga_cons (gty "bool") ga_nil)))))))
    (gb_cons (gs_ret gb)
   gb_nil)
    gb_nil)
   (gb_cons (gs_expr (g_call (ga_cons (g_meth0 (gv 0) gk_nil) ga_nil) gk_nil))
   (gb_cons (gs_expr (g_call (ga_cons (g_meth0 (gv 0) gk_nil) ga_nil) gk_nil))
   (gb_cons (gs_lock (gs_for (gi_any (gv 2)) (gg_name 6)
    (gb_cons (gs_if (gt_cmp .ne (g_fn f_repr (ga_cons (g_meth (gv 0) (ga_cons (gv 6) ga_nil) gk_nil) ga_nil)) (g_fn f_repr (ga_cons (g_ix (gv 2) (gv 6)) ga_nil)))
    (gb_cons (gs_ret gb)
   gb_nil)
    gb_nil)
   gb_nil)))
   (gb_cons (gs_for (gi_any (gv 5)) (gg_tup 2 (ggs_cons (gg_name 7) (ggs_cons (gg_name 8) ggs_nil)))
    (gb_cons (gs_asg (g_lst (ga_cons (gv 7) (ga_cons (g_sub (g_add (gv 7) (gv 8)) gi) (ga_cons (g_add (gv 7) (g_div (gv 8) gi)) ga_nil)))) (gg_name 9))
   (gb_cons (gs_if (gt_cmp .ne (g_lc [("spot", 6)] [6] (gi_any (gv 9)) (gg_name 6) gts_nil (g_meth (gv 0) (ga_cons (gv 6) ga_nil) gk_nil)) (g_mul (g_lst (ga_cons gn ga_nil)) gi))
    (gb_cons (gs_ret gb)
   gb_nil)
    gb_nil)
   gb_nil)))
   (gb_cons (gs_ret (g_and (g_cmp .eq (g_fn f_repr (ga_cons (g_meth0 (gv 0) gk_nil) ga_nil)) (g_fn f_repr (ga_cons (gv 4) ga_nil))) (g_one (g_cmp .eq (g_fn f_repr (ga_cons (g_meth0 (gv 0) gk_nil) ga_nil)) (g_fn f_repr (ga_cons (gv 5) ga_nil))))))
   gb_nil))))))))⟩
def e__law_right : Ent := ⟨d__law_right, [("shop" : Str), ("rooms" : Str), ("cells" : Str), ("amount" : Str)], N__law_right, fun K Ph W => (D__law_right K Ph W).1⟩
def N__law_taken : List Str := [("pot" : Str), ("shop" : Str), ("rooms" : Str), ("cells" : Str), ("wanted" : Str), ("begin" : Str), ("k" : Str), ("turn" : Str), ("spot" : Str)]
def d__law_taken : He.DefD := dd ("_law_taken", none) "_law_taken" "_law_taken" (top 35) [] []
def D__law_taken (K : PySem.W.Frag) (Ph : Ky → Sp) (W : WX) : {t : TS // GB (cn0 fa sh K Ph N__law_taken (d__law_taken).scope W) (d__law_taken).body t} := ⟨_,
   (gb_cons (gs_asg (g_add gi (g_call (ga_cons (gv 0) (ga_cons gi ga_nil)) gk_nil)) (gg_name 4))
   (gb_cons (gs_if (gt_cmp .lt (g_call (ga_cons (gv 1) ga_nil) gk_nil) (g_call (ga_cons (gv 4) ga_nil) gk_nil))
    (gb_cons gs_retN
   gb_nil)
    gb_nil)
   (gb_cons (gs_asg (g_meth (gv 1) (ga_cons (gv 4) ga_nil) gk_nil) (gg_name 5))
   (gb_cons (gs_asg (g_call (ga_cons (gv 4) ga_nil) gk_nil) (gg_sub (gv 2) (gv 5)))
   (gb_cons (gs_for (gi_rng1 (g_call (ga_cons (gv 4) ga_nil) gk_nil)) (gg_name 6)
    (gb_cons (gs_asg gn (gg_sub (gv 3) (g_add (gv 5) (gv 6))))
   gb_nil))
   (gb_cons (gs_for (gi_rng1 (g_call (ga_cons (gv 0) (ga_cons gi ga_nil)) gk_nil)) (gg_name 7)
    (gb_cons (gs_asg (g_add (gv 5) (g_call (ga_cons (gv 0) (ga_cons (g_call (ga_cons (gv 4) ga_nil) gk_nil) ga_nil)) gk_nil)) (gg_name 8))
   (gb_cons (gs_asg (g_call (ga_cons (gv 0) ga_nil) gk_nil) (gg_sub (gv 3) (gv 8)))
   (gb_cons (gs_expr (g_meth (gv 1) (ga_cons (gv 8) (ga_cons (g_ix (gv 3) (gv 8)) ga_nil)) gk_nil))
   gb_nil))))
   gb_nil))))))⟩
def e__law_taken : Ent := ⟨d__law_taken, [("pot" : Str), ("shop" : Str), ("rooms" : Str), ("cells" : Str)], N__law_taken, fun K Ph W => (D__law_taken K Ph W).1⟩
def N__law_given : List Str := [("pot" : Str), ("shop" : Str), ("rooms" : Str), ("cells" : Str), ("begins" : Str), ("begin" : Str), ("k" : Str)]
def d__law_given : He.DefD := dd ("_law_given", none) "_law_given" "_law_given" (top 36) [] []
def D__law_given (K : PySem.W.Frag) (Ph : Ky → Sp) (W : WX) : {t : TS // GB (cn0 fa sh K Ph N__law_given (d__law_given).scope W) (d__law_given).body t} := ⟨_,
   (gb_cons (gs_asg (g_fn f_sorted (ga_cons (gv 2) ga_nil)) (gg_name 4))
   (gb_cons (gs_asg (g_ix (g_lst (ga_cons (g_ix (gv 4) gi) (ga_cons (g_ix (gv 4) (g_neg gi)) (ga_cons (g_ix (gv 4) (g_call (ga_cons (gv 0) (ga_cons (g_fn f_len (ga_cons (gv 4) ga_nil)) ga_nil)) gk_nil)) ga_nil)))) (g_call (ga_cons (gv 0) (ga_cons gi ga_nil)) gk_nil)) (gg_name 5))
   (gb_cons (gs_for (gi_rng1 (g_alt (g_bm m_dpop (gv 2) (ga_cons (gv 5) ga_nil)) (g_bm m_popAt (gv 2) (ga_cons (gv 5) ga_nil)))) (gg_name 6)
    (gb_cons (gs_expr (g_alt (g_bm m_dpop (gv 3) (ga_cons (g_add (gv 5) (gv 6)) ga_nil)) (g_bm m_popAt (gv 3) (ga_cons (g_add (gv 5) (gv 6)) ga_nil))))
   gb_nil))
   (gb_cons (gs_if (gt_cmp .eq (g_call (ga_cons (gv 0) (ga_cons gi ga_nil)) gk_nil) gi)
    (gb_cons (gs_ret (g_meth (gv 1) (ga_cons (gv 5) ga_nil) gk_nil))
   gb_nil)
    gb_nil)
   (gb_cons (gs_ret (g_meth0 (gv 1) (gk_cons (gv 5) gk_nil)))
   gb_nil)))))⟩
def e__law_given : Ent := ⟨d__law_given, [("pot" : Str), ("shop" : Str), ("rooms" : Str), ("cells" : Str)], N__law_given, fun K Ph W => (D__law_given K Ph W).1⟩
def N_law : List Str := [("script" : Str), ("k" : Str), ("pot" : Str), ("amount" : Str), ("shop" : Str), ("rooms" : Str), ("cells" : Str), ("turn" : Str), ("told" : Str), ("stood" : Str)]
def d_law : He.DefD := dd ("law", none) "law" "law" (top 37) [] []
def D_law (K : PySem.W.Frag) (Ph : Ky → Sp) (W : WX) : {t : TS // GB (cn0 fa sh K Ph N_law (d_law).scope W) (d_law).body t} := ⟨_,
   (gb_cons (gs_for (gi_rng1 (g_fn f_max2 (ga_cons gi (ga_cons (g_fn f_min2 (ga_cons gi (ga_cons (g_fn f_len (ga_cons (gv 0) ga_nil)) ga_nil))) ga_nil)))) (gg_name 1)
    (gb_cons (gs_asg (g_call (ga_cons (g_call (ga_cons (gv 0) (ga_cons (gv 1) ga_nil)) gk_nil) ga_nil) gk_nil) (gg_name 2))
   (gb_cons (gs_asg (g_ix (g_lst (ga_cons gi (ga_cons gi (ga_cons gi (ga_cons gi (ga_cons gi (ga_cons gi (ga_cons gi ga_nil)))))))) (g_call (ga_cons (gv 2) (ga_cons gi ga_nil)) gk_nil)) (gg_name 3))
   (gb_cons (gs_par3 4 5 6 (g_make (ga_cons (gv 3) ga_nil) gk_nil) g_dict0 g_dict0)
   (gb_cons (gs_for (gi_rng1 (g_call (ga_cons (gv 2) (ga_cons gi ga_nil)) gk_nil)) (gg_name 7)
    (gb_cons (gs_asg (g_lst (ga_cons (g_meth0 (gv 4) gk_nil) (ga_cons (g_meth0 (gv 4) gk_nil) ga_nil))) (gg_name 8))
   (gb_cons (gs_asg (g_fn f_repr (ga_cons (gv 8) ga_nil)) (gg_name 9))
   (gb_cons (gs_if (gt_bool (gw_or (gt_cmp .lt (g_call (ga_cons (gv 2) (ga_cons gi ga_nil)) gk_nil) gi) (gw_or1 (gt_cmp .eq (gv 5) g_dict0))))
    (gb_cons (gs_expr (g_call (ga_cons (gv 2) (ga_cons (gv 4) (ga_cons (gv 5) (ga_cons (gv 6) ga_nil)))) gk_nil))
   gb_nil)
    (gb_cons (gs_if (gt_cmp .isnt (g_call (ga_cons (gv 2) (ga_cons (gv 4) (ga_cons (gv 5) (ga_cons (gv 6) ga_nil)))) gk_nil) gn)
    (gb_cons (gs_ret gb)
   gb_nil)
    gb_nil)
   gb_nil))
   (gb_cons (gs_if (gt_bool (gw_or (gt_not (gt_val (g_call (ga_cons (gv 4) (ga_cons (gv 5) (ga_cons (gv 6) (ga_cons (gv 3) ga_nil)))) gk_nil))) (gw_or1 (gt_cmp .ne (g_fn f_repr (ga_cons (gv 8) ga_nil)) (gv 9)))))
    (gb_cons (gs_ret gb)
   gb_nil)
    gb_nil)
   gb_nil)))))
   (gb_cons (gs_while (gt_cmp .ne (gv 5) g_dict0)
    (gb_cons (gs_if (gt_bool (gw_or (gt_cmp .isnt (g_call (ga_cons (gv 2) (ga_cons (gv 4) (ga_cons (gv 5) (ga_cons (gv 6) ga_nil)))) gk_nil) gn) (gw_or1 (gt_not (gt_val (g_call (ga_cons (gv 4) (ga_cons (gv 5) (ga_cons (gv 6) (ga_cons (gv 3) ga_nil)))) gk_nil))))))
    (gb_cons (gs_ret gb)
   gb_nil)
    gb_nil)
   gb_nil))
   (gb_cons (gs_if (gt_bool (gw_or (gt_cmp .ne (g_meth0 (gv 4) gk_nil) (g_lst (ga_cons (g_tup (ga_cons gi (ga_cons (gv 3) ga_nil))) ga_nil))) (gw_or1 (gt_cmp .ne (g_fn f_lenO (ga_cons (gv 4) ga_nil)) gi))))
    (gb_cons (gs_ret gb)
   gb_nil)
    gb_nil)
   (gb_cons (gs_if (gt_bool (gw_and (gt_cmp .gt (gv 3) gi) (gw_and1 (gt_cmp .ne (g_tup (ga_cons (g_meth (gv 4) (ga_cons gi ga_nil) gk_nil) (ga_cons (g_meth0 (gv 4) gk_nil) ga_nil))) (g_tup (ga_cons gi (ga_cons (g_lst (ga_cons (g_tup (ga_cons gi (ga_cons gi ga_nil))) ga_nil)) ga_nil)))))))
    (gb_cons (gs_ret gb)
   gb_nil)
    gb_nil)
   gb_nil))))))))
   (gb_cons (gs_ret gb)
   gb_nil))⟩
def e_law : Ent := ⟨d_law, [("script" : Str)], N_law, fun K Ph W => (D_law K Ph W).1⟩
def N_StoreU_initU : List Str := [("self" : Str), ("size" : Str)]
def d_StoreU_initU : He.DefD := dd ("Store", some "__init__") "__init__" "Store.__init__" (inClass (top 23) 0) [.int 64] []
def D_StoreU_initU (K : PySem.W.Frag) (Ph : Ky → Sp) (W : WX) : {t : TS // GB (cn0 fa sh K Ph N_StoreU_initU (d_StoreU_initU).scope W) (d_StoreU_initU).body t} := ⟨_,
   (gb_cons (gs_if (gt_bool (gw_or (gt_not (gt_val (g_call (ga_cons (gv 1) ga_nil) gk_nil))) (gw_or1 (gt_bool (gw_and (gt_not (gt_chain .le .le (gint (i := 16)) (gv 1) (gint (i := 512)))) (gw_and1 (gt_cmp .ne (gv 1) (gint (i := 20000)))))))))
    (gb_cons gs_never
   gb_nil)
    gb_nil)
   (gb_cons (gs_attr (gv 0) (gv 1))
   (gb_cons (gs_attr (gv 0) g_dict0)
   (gb_cons (gs_attr (gv 0) (g_mul (g_lst (ga_cons gn ga_nil)) (gv 1)))
   (gb_cons (gs_attr (gv 0) (g_mul (g_lst (ga_cons gn ga_nil)) (gv 1)))
   gb_nil)))))⟩
def e_StoreU_initU : Ent := ⟨d_StoreU_initU, [("self" : Str), ("size" : Str)], N_StoreU_initU, fun K Ph W => (D_StoreU_initU K Ph W).1⟩
def N_StoreU_eqU : List Str := [("self" : Str), ("other" : Str)]
def d_StoreU_eqU : He.DefD := dd ("Store", some "__eq__") "__eq__" "Store.__eq__" (inClass (top 23) 1) [] []
def D_StoreU_eqU (K : PySem.W.Frag) (Ph : Ky → Sp) (W : WX) : {t : TS // GB (cn0 fa sh K Ph N_StoreU_eqU (d_StoreU_eqU).scope W) (d_StoreU_eqU).body t} := ⟨_,
   (gb_cons (gs_if (gt_bool (gw_or (gt_not (gt_val (g_fn f_isi (ga_cons (gv 1) (ga_cons gglo ga_nil))))) (gw_or1 (gt_cmp .ne (g_attr (gv 0)) (g_attr (gv 1))))))
    (gb_cons (gs_ret gb)
   gb_nil)
    gb_nil)
   (gb_cons (gs_ret (g_and (g_cmp .eq (g_attr (gv 0)) (g_attr (gv 1))) (g_one (g_cmp .eq (g_attr (gv 0)) (g_attr (gv 1))))))
   gb_nil))⟩
def e_StoreU_eqU : Ent := ⟨d_StoreU_eqU, [("self" : Str), ("other" : Str)], N_StoreU_eqU, fun K Ph W => (D_StoreU_eqU K Ph W).1⟩
def N_StoreU_lenU : List Str := [("self" : Str)]
def d_StoreU_lenU : He.DefD := dd ("Store", some "__len__") "__len__" "Store.__len__" (inClass (top 23) 2) [] []
def D_StoreU_lenU (K : PySem.W.Frag) (Ph : Ky → Sp) (W : WX) : {t : TS // GB (cn0 fa sh K Ph N_StoreU_lenU (d_StoreU_lenU).scope W) (d_StoreU_lenU).body t} := ⟨_,
   (gb_cons (gs_ret (g_fn f_len (ga_cons (g_attr (gv 0)) ga_nil)))
   gb_nil)⟩
def e_StoreU_lenU : Ent := ⟨d_StoreU_lenU, [("self" : Str)], N_StoreU_lenU, fun K Ph W => (D_StoreU_lenU K Ph W).1⟩
def N_Store_size : List Str := [("self" : Str)]
def d_Store_size : He.DefD := dd ("Store", some "size") "size" "Store.size" (inClass (top 23) 4) [] []
def D_Store_size (K : PySem.W.Frag) (Ph : Ky → Sp) (W : WX) : {t : TS // GB (cn0 fa sh K Ph N_Store_size (d_Store_size).scope W) (d_Store_size).body t} := ⟨_,
   (gb_cons (gs_ret (g_attr (gv 0)))
   gb_nil)⟩
def e_Store_size : Ent := ⟨d_Store_size, [("self" : Str)], N_Store_size, fun K Ph W => (D_Store_size K Ph W).1⟩
def N_Store_rooms : List Str := [("self" : Str), ("at" : Str)]
def d_Store_rooms : He.DefD := dd ("Store", some "rooms") "rooms" "Store.rooms" (inClass (top 23) 5) [] []
def D_Store_rooms (K : PySem.W.Frag) (Ph : Ky → Sp) (W : WX) : {t : TS // GB (cn0 fa sh K Ph N_Store_rooms (d_Store_rooms).scope W) (d_Store_rooms).body t} := ⟨_,
   (gb_cons (gs_ret (g_lc [("at", 1)] [1] (gi_any (g_fn f_sorted (ga_cons (g_attr (gv 0)) ga_nil))) (gg_name 1) gts_nil (g_tup (ga_cons (gv 1) (ga_cons (g_ix (g_attr (gv 0)) (gv 1)) ga_nil)))))
   gb_nil)⟩
def e_Store_rooms : Ent := ⟨d_Store_rooms, [("self" : Str)], N_Store_rooms, fun K Ph W => (D_Store_rooms K Ph W).1⟩
def N_Store_wide_at : List Str := [("self" : Str), ("place" : Str)]
def d_Store_wide_at : He.DefD := dd ("Store", some "wide_at") "wide_at" "Store.wide_at" (inClass (top 23) 6) [] []
def D_Store_wide_at (K : PySem.W.Frag) (Ph : Ky → Sp) (W : WX) : {t : TS // GB (cn0 fa sh K Ph N_Store_wide_at (d_Store_wide_at).scope W) (d_Store_wide_at).body t} := ⟨_,
   (gb_cons (gs_if (gt_not (gt_val (g_call (ga_cons (gv 1) ga_nil) gk_nil)))
    (gb_cons (gs_ret gi)
   gb_nil)
    gb_nil)
   (gb_cons (gs_ret (g_bm m_get (g_attr (gv 0)) (ga_cons (gv 1) (ga_cons gi ga_nil))))
   gb_nil))⟩
def e_Store_wide_at : Ent := ⟨d_Store_wide_at, [("self" : Str), ("place" : Str)], N_Store_wide_at, fun K Ph W => (D_Store_wide_at K Ph W).1⟩
def N_Store_stretches : List Str := [("self" : Str), ("found" : Str), ("begin" : Str), ("at" : Str), ("wide" : Str)]
def d_Store_stretches : He.DefD := dd ("Store", some "stretches") "stretches" "Store.stretches" (inClass (top 23) 7) [] []
def D_Store_stretches (K : PySem.W.Frag) (Ph : Ky → Sp) (W : WX) : {t : TS // GB (cn0 fa sh K Ph N_Store_stretches (d_Store_stretches).scope W) (d_Store_stretches).body t} := ⟨_,
   (gb_cons (gs_asg (g_lst ga_nil) (gg_name 1))
   (gb_cons (gs_asg gi (gg_name 2))
   (gb_cons (gs_for (gi_any (g_add (g_meth0 (gv 0) gk_nil) (g_lst (ga_cons (g_tup (ga_cons (g_attr (gv 0)) (ga_cons gi ga_nil))) ga_nil)))) (gg_tup 2 (ggs_cons (gg_name 3) (ggs_cons (gg_name 4) ggs_nil)))
    (gb_cons (gs_if (gt_cmp .gt (gv 3) (gv 2))
    (gb_cons (gs_expr (g_bm m_append (gv 1) (ga_cons (g_tup (ga_cons (gv 2) (ga_cons (g_sub (gv 3) (gv 2)) ga_nil))) ga_nil)))
   gb_nil)
    gb_nil)
   (gb_cons (gs_asg (g_add (gv 3) (gv 4)) (gg_name 2))
   gb_nil)))
   (gb_cons (gs_ret (gv 1))
   gb_nil))))⟩
def e_Store_stretches : Ent := ⟨d_Store_stretches, [("self" : Str)], N_Store_stretches, fun K Ph W => (D_Store_stretches K Ph W).1⟩
def N_Store_free : List Str := [("self" : Str)]
def d_Store_free : He.DefD := dd ("Store", some "free") "free" "Store.free" (inClass (top 23) 8) [] []
def D_Store_free (K : PySem.W.Frag) (Ph : Ky → Sp) (W : WX) : {t : TS // GB (cn0 fa sh K Ph N_Store_free (d_Store_free).scope W) (d_Store_free).body t} := ⟨_,
   (gb_cons (gs_ret (g_sub (g_attr (gv 0)) (g_sumVals (g_attr (gv 0)))))
   gb_nil)⟩
def e_Store_free : Ent := ⟨d_Store_free, [("self" : Str)], N_Store_free, fun K Ph W => (D_Store_free K Ph W).1⟩
def N_Store_lay_room : List Str := [("self" : Str), ("at" : Str), ("wide" : Str), ("place" : Str)]
def d_Store_lay_room : He.DefD := dd ("Store", some "lay_room") "lay_room" "Store.lay_room" (inClass (top 23) 9) [] []
def D_Store_lay_room (K : PySem.W.Frag) (Ph : Ky → Sp) (W : WX) : {t : TS // GB (cn0 fa sh K Ph N_Store_lay_room (d_Store_lay_room).scope W) (d_Store_lay_room).body t} := ⟨_,
   (gb_cons (gs_asg (gv 2) (gg_sub (g_attr (gv 0)) (gv 1)))
   (gb_cons (gs_for (gi_rng2 (gv 1) (g_add (gv 1) (gv 2))) (gg_name 3)
    (gb_cons (gs_asg (gv 1) (gg_sub (g_attr (gv 0)) (gv 3)))
   gb_nil))
   gb_nil))⟩
def e_Store_lay_room : Ent := ⟨d_Store_lay_room, [("self" : Str), ("at" : Str), ("wide" : Str)], N_Store_lay_room, fun K Ph W => (D_Store_lay_room K Ph W).1⟩
def N_Store_clear_room : List Str := [("self" : Str), ("at" : Str), ("wide" : Str), ("cells" : Str), ("place" : Str)]
def d_Store_clear_room : He.DefD := dd ("Store", some "clear_room") "clear_room" "Store.clear_room" (inClass (top 23) 10) [] []
def D_Store_clear_room (K : PySem.W.Frag) (Ph : Ky → Sp) (W : WX) : {t : TS // GB (cn0 fa sh K Ph N_Store_clear_room (d_Store_clear_room).scope W) (d_Store_clear_room).body t} := ⟨_,
   (gb_cons (gs_asg (g_alt (g_bm m_dpop (g_attr (gv 0)) (ga_cons (gv 1) ga_nil)) (g_bm m_popAt (g_attr (gv 0)) (ga_cons (gv 1) ga_nil))) (gg_name 2))
   (gb_cons (gs_asg (g_slice (g_attr (gv 0)) (go_some (gv 1)) (go_some (g_add (gv 1) (gv 2)))) (gg_name 3))
   (gb_cons (gs_for (gi_rng2 (gv 1) (g_add (gv 1) (gv 2))) (gg_name 4)
    (gb_cons (gs_asg gn (gg_sub (g_attr (gv 0)) (gv 4)))
   (gb_cons (gs_asg gn (gg_sub (g_attr (gv 0)) (gv 4)))
   gb_nil)))
   (gb_cons (gs_ret (gv 3))
   gb_nil))))⟩
def e_Store_clear_room : Ent := ⟨d_Store_clear_room, [("self" : Str), ("at" : Str)], N_Store_clear_room, fun K Ph W => (D_Store_clear_room K Ph W).1⟩
def N_Store_take : List Str := [("self" : Str), ("many" : Str), ("wide" : Str), ("longest" : Str), ("long" : Str), ("begin" : Str), ("at" : Str)]
def d_Store_take : He.DefD := dd ("Store", some "take") "take" "Store.take" (inClass (top 23) 11) [] []
def D_Store_take (K : PySem.W.Frag) (Ph : Ky → Sp) (W : WX) : {t : TS // GB (cn0 fa sh K Ph N_Store_take (d_Store_take).scope W) (d_Store_take).body t} := ⟨_,
   (gb_cons (gs_asg (g_call (ga_cons (gv 1) ga_nil) gk_nil) (gg_name 2))
   (gb_cons (gs_asg (g_maxD (ga_cons (g_lc [("at", 6), ("long", 4)] [6, 4] (gi_any (g_meth0 (gv 0) gk_nil)) (gg_tup 2 (ggs_cons (gg_name 6) (ggs_cons (gg_name 4) ggs_nil))) gts_nil (gv 4)) ga_nil) (gk_cons gi gk_nil)) (gg_name 3))
   (gb_cons (gs_if (gt_cmp .lt (gv 3) (gv 2))
    (gb_cons gs_never
   gb_nil)
    gb_nil)
   (gb_cons (gs_asg (g_fn f_minU (ga_cons (g_lc [("at", 6), ("long", 4)] [6, 4] (gi_any (g_meth0 (gv 0) gk_nil)) (gg_tup 2 (ggs_cons (gg_name 6) (ggs_cons (gg_name 4) ggs_nil))) (gts_one (gt_cmp .ge (gv 4) (gv 2))) (g_tup (ga_cons (gv 4) (ga_cons (gv 6) ga_nil)))) ga_nil)) (gg_tup 2 (ggs_cons (gg_name 4) (ggs_cons (gg_name 5) ggs_nil))))
   (gb_cons (gs_expr (g_meth (gv 0) (ga_cons (gv 5) (ga_cons (gv 2) ga_nil)) gk_nil))
   (gb_cons (gs_ret (gv 5))
   gb_nil))))))⟩
def e_Store_take : Ent := ⟨d_Store_take, [("self" : Str), ("many" : Str)], N_Store_take, fun K Ph W => (D_Store_take K Ph W).1⟩
def N_Store_want_begin : List Str := [("self" : Str), ("at" : Str)]
def d_Store_want_begin : He.DefD := dd ("Store", some "want_begin") "want_begin" "Store.want_begin" (inClass (top 23) 12) [] []
def D_Store_want_begin (K : PySem.W.Frag) (Ph : Ky → Sp) (W : WX) : {t : TS // GB (cn0 fa sh K Ph N_Store_want_begin (d_Store_want_begin).scope W) (d_Store_want_begin).body t} := ⟨_,
   (gb_cons (gs_if (gt_cmp .eq (g_meth (gv 0) (ga_cons (gv 1) ga_nil) gk_nil) gi)
    (gb_cons gs_never
   gb_nil)
    gb_nil)
   gb_nil)⟩
def e_Store_want_begin : Ent := ⟨d_Store_want_begin, [("self" : Str), ("at" : Str)], N_Store_want_begin, fun K Ph W => (D_Store_want_begin K Ph W).1⟩
def N_Store_give : List Str := [("self" : Str), ("at" : Str)]
def d_Store_give : He.DefD := dd ("Store", some "give") "give" "Store.give" (inClass (top 23) 13) [] []
def D_Store_give (K : PySem.W.Frag) (Ph : Ky → Sp) (W : WX) : {t : TS // GB (cn0 fa sh K Ph N_Store_give (d_Store_give).scope W) (d_Store_give).body t} := ⟨_,
   (gb_cons (gs_expr (g_meth (gv 0) (ga_cons (gv 1) ga_nil) gk_nil))
   (gb_cons (gs_expr (g_meth (gv 0) (ga_cons (gv 1) ga_nil) gk_nil))
   gb_nil))⟩
def e_Store_give : Ent := ⟨d_Store_give, [("self" : Str), ("at" : Str)], N_Store_give, fun K Ph W => (D_Store_give K Ph W).1⟩
def N_Store_can_move : List Str := [("self" : Str), ("at" : Str), ("to" : Str)]
def d_Store_can_move : He.DefD := dd ("Store", some "can_move") "can_move" "Store.can_move" (inClass (top 23) 14) [] []
def D_Store_can_move (K : PySem.W.Frag) (Ph : Ky → Sp) (W : WX) : {t : TS // GB (cn0 fa sh K Ph N_Store_can_move (d_Store_can_move).scope W) (d_Store_can_move).body t} := ⟨_,
   (gb_cons (gs_expr (g_call (ga_cons gi ga_nil) gk_nil))
   gb_nil)⟩
def e_Store_can_move : Ent := ⟨d_Store_can_move, [("self" : Str), ("at" : Str), ("to" : Str)], N_Store_can_move, fun K Ph W => (D_Store_can_move K Ph W).1⟩
def N_Store_move : List Str := [("self" : Str), ("at" : Str), ("to" : Str)]
def d_Store_move : He.DefD := dd ("Store", some "move") "move" "Store.move" (inClass (top 23) 15) [] []
def D_Store_move (K : PySem.W.Frag) (Ph : Ky → Sp) (W : WX) : {t : TS // GB (cn0 fa sh K Ph N_Store_move (d_Store_move).scope W) (d_Store_move).body t} := ⟨_,
   (gb_cons (gs_expr (g_call (ga_cons gi ga_nil) gk_nil))
   gb_nil)⟩
def e_Store_move : Ent := ⟨d_Store_move, [("self" : Str), ("at" : Str), ("to" : Str)], N_Store_move, fun K Ph W => (D_Store_move K Ph W).1⟩
def N_Store_is_place : List Str := [("self" : Str), ("place" : Str)]
def d_Store_is_place : He.DefD := dd ("Store", some "is_place") "is_place" "Store.is_place" (inClass (top 23) 16) [] []
def D_Store_is_place (K : PySem.W.Frag) (Ph : Ky → Sp) (W : WX) : {t : TS // GB (cn0 fa sh K Ph N_Store_is_place (d_Store_is_place).scope W) (d_Store_is_place).body t} := ⟨_,
   (gb_cons (gs_ret (g_and (g_call (ga_cons (gv 1) ga_nil) gk_nil) (g_one (g_chain .le .lt gi (gv 1) (g_attr (gv 0))))))
   gb_nil)⟩
def e_Store_is_place : Ent := ⟨d_Store_is_place, [("self" : Str), ("place" : Str)], N_Store_is_place, fun K Ph W => (D_Store_is_place K Ph W).1⟩
def N_Store_put : List Str := [("self" : Str), ("place" : Str), ("cell" : Str)]
def d_Store_put : He.DefD := dd ("Store", some "put") "put" "Store.put" (inClass (top 23) 17) [] []
def D_Store_put (K : PySem.W.Frag) (Ph : Ky → Sp) (W : WX) : {t : TS // GB (cn0 fa sh K Ph N_Store_put (d_Store_put).scope W) (d_Store_put).body t} := ⟨_,
   (gb_cons (gs_if (gt_bool (gw_or (gt_not (gt_val (g_meth (gv 0) (ga_cons (gv 1) ga_nil) gk_nil))) (gw_or1 (gt_cmp .isn (g_ix (g_attr (gv 0)) (gv 1)) gn))))
    (gb_cons gs_never
   gb_nil)
    gb_nil)
   (gb_cons (gs_if (gt_not (gt_val (g_call (ga_cons (gv 2) ga_nil) gk_nil)))
    (gb_cons gs_never
   gb_nil)
    gb_nil)
   (gb_cons (gs_asg (gv 2) (gg_sub (g_attr (gv 0)) (gv 1)))
   gb_nil)))⟩
def e_Store_put : Ent := ⟨d_Store_put, [("self" : Str), ("place" : Str), ("cell" : Str)], N_Store_put, fun K Ph W => (D_Store_put K Ph W).1⟩
def N_Store_told : List Str := [("self" : Str), ("place" : Str)]
def d_Store_told : He.DefD := dd ("Store", some "told") "told" "Store.told" (inClass (top 23) 18) [] []
def D_Store_told (K : PySem.W.Frag) (Ph : Ky → Sp) (W : WX) : {t : TS // GB (cn0 fa sh K Ph N_Store_told (d_Store_told).scope W) (d_Store_told).body t} := ⟨_,
   (gb_cons (gs_if (gt_not (gt_val (g_meth (gv 0) (ga_cons (gv 1) ga_nil) gk_nil)))
    (gb_cons gs_never
   gb_nil)
    gb_nil)
   (gb_cons (gs_ret (g_ix (g_attr (gv 0)) (gv 1)))
   gb_nil))⟩
def e_Store_told : Ent := ⟨d_Store_told, [("self" : Str), ("place" : Str)], N_Store_told, fun K Ph W => (D_Store_told K Ph W).1⟩
def N_Store_copied : List Str := [("self" : Str)]
def d_Store_copied : He.DefD := dd ("Store", some "copied") "copied" "Store.copied" (inClass (top 23) 19) [] []
def D_Store_copied (K : PySem.W.Frag) (Ph : Ky → Sp) (W : WX) : {t : TS // GB (cn0 fa sh K Ph N_Store_copied (d_Store_copied).scope W) (d_Store_copied).body t} := ⟨_,
   (gb_cons (gs_expr (g_call (ga_cons gi ga_nil) gk_nil))
   gb_nil)⟩
def e_Store_copied : Ent := ⟨d_Store_copied, [("self" : Str)], N_Store_copied, fun K Ph W => (D_Store_copied K Ph W).1⟩
def es : List Ent := [e__wall, e_is_whole, e_is_number, e_is_spoken, e_is_cell, e_wide_of, e__law_cell, e__law_pot, e__law_draw, e__law_wide, e__law_longest, e__law_any_cell, e__law_held_rows, e__law_gaps, e__law_spoilt, e__law_right, e__law_taken, e__law_given, e_law, e_StoreU_initU, e_StoreU_eqU, e_StoreU_lenU, e_Store_size, e_Store_rooms, e_Store_wide_at, e_Store_stretches, e_Store_free, e_Store_lay_room, e_Store_clear_room, e_Store_take, e_Store_want_begin, e_Store_give, e_Store_can_move, e_Store_move, e_Store_is_place, e_Store_put, e_Store_told, e_Store_copied]
theorem ok__wall : EntOk fa sh e__wall := fun K Ph W => (D__wall K Ph W).2
theorem ok_is_whole : EntOk fa sh e_is_whole := fun K Ph W => (D_is_whole K Ph W).2
theorem ok_is_number : EntOk fa sh e_is_number := fun K Ph W => (D_is_number K Ph W).2
theorem ok_is_spoken : EntOk fa sh e_is_spoken := fun K Ph W => (D_is_spoken K Ph W).2
theorem ok_is_cell : EntOk fa sh e_is_cell := fun K Ph W => (D_is_cell K Ph W).2
theorem ok_wide_of : EntOk fa sh e_wide_of := fun K Ph W => (D_wide_of K Ph W).2
theorem ok__law_cell : EntOk fa sh e__law_cell := fun K Ph W => (D__law_cell K Ph W).2
theorem ok__law_pot : EntOk fa sh e__law_pot := fun K Ph W => (D__law_pot K Ph W).2
theorem ok__law_draw : EntOk fa sh e__law_draw := fun K Ph W => (D__law_draw K Ph W).2
theorem ok__law_wide : EntOk fa sh e__law_wide := fun K Ph W => (D__law_wide K Ph W).2
theorem ok__law_longest : EntOk fa sh e__law_longest := fun K Ph W => (D__law_longest K Ph W).2
theorem ok__law_any_cell : EntOk fa sh e__law_any_cell := fun K Ph W => (D__law_any_cell K Ph W).2
theorem ok__law_held_rows : EntOk fa sh e__law_held_rows := fun K Ph W => (D__law_held_rows K Ph W).2
theorem ok__law_gaps : EntOk fa sh e__law_gaps := fun K Ph W => (D__law_gaps K Ph W).2
theorem ok__law_spoilt : EntOk fa sh e__law_spoilt := fun K Ph W => (D__law_spoilt K Ph W).2
theorem ok__law_right : EntOk fa sh e__law_right := fun K Ph W => (D__law_right K Ph W).2
theorem ok__law_taken : EntOk fa sh e__law_taken := fun K Ph W => (D__law_taken K Ph W).2
theorem ok__law_given : EntOk fa sh e__law_given := fun K Ph W => (D__law_given K Ph W).2
theorem ok_law : EntOk fa sh e_law := fun K Ph W => (D_law K Ph W).2
theorem ok_StoreU_initU : EntOk fa sh e_StoreU_initU := fun K Ph W => (D_StoreU_initU K Ph W).2
theorem ok_StoreU_eqU : EntOk fa sh e_StoreU_eqU := fun K Ph W => (D_StoreU_eqU K Ph W).2
theorem ok_StoreU_lenU : EntOk fa sh e_StoreU_lenU := fun K Ph W => (D_StoreU_lenU K Ph W).2
theorem ok_Store_size : EntOk fa sh e_Store_size := fun K Ph W => (D_Store_size K Ph W).2
theorem ok_Store_rooms : EntOk fa sh e_Store_rooms := fun K Ph W => (D_Store_rooms K Ph W).2
theorem ok_Store_wide_at : EntOk fa sh e_Store_wide_at := fun K Ph W => (D_Store_wide_at K Ph W).2
theorem ok_Store_stretches : EntOk fa sh e_Store_stretches := fun K Ph W => (D_Store_stretches K Ph W).2
theorem ok_Store_free : EntOk fa sh e_Store_free := fun K Ph W => (D_Store_free K Ph W).2
theorem ok_Store_lay_room : EntOk fa sh e_Store_lay_room := fun K Ph W => (D_Store_lay_room K Ph W).2
theorem ok_Store_clear_room : EntOk fa sh e_Store_clear_room := fun K Ph W => (D_Store_clear_room K Ph W).2
theorem ok_Store_take : EntOk fa sh e_Store_take := fun K Ph W => (D_Store_take K Ph W).2
theorem ok_Store_want_begin : EntOk fa sh e_Store_want_begin := fun K Ph W => (D_Store_want_begin K Ph W).2
theorem ok_Store_give : EntOk fa sh e_Store_give := fun K Ph W => (D_Store_give K Ph W).2
theorem ok_Store_can_move : EntOk fa sh e_Store_can_move := fun K Ph W => (D_Store_can_move K Ph W).2
theorem ok_Store_move : EntOk fa sh e_Store_move := fun K Ph W => (D_Store_move K Ph W).2
theorem ok_Store_is_place : EntOk fa sh e_Store_is_place := fun K Ph W => (D_Store_is_place K Ph W).2
theorem ok_Store_put : EntOk fa sh e_Store_put := fun K Ph W => (D_Store_put K Ph W).2
theorem ok_Store_told : EntOk fa sh e_Store_told := fun K Ph W => (D_Store_told K Ph W).2
theorem ok_Store_copied : EntOk fa sh e_Store_copied := fun K Ph W => (D_Store_copied K Ph W).2
theorem es_ok : ∀ en ∈ es, EntOk fa sh en := (all_cons ok__wall (all_cons ok_is_whole (all_cons ok_is_number (all_cons ok_is_spoken (all_cons ok_is_cell (all_cons ok_wide_of (all_cons ok__law_cell (all_cons ok__law_pot (all_cons ok__law_draw (all_cons ok__law_wide (all_cons ok__law_longest (all_cons ok__law_any_cell (all_cons ok__law_held_rows (all_cons ok__law_gaps (all_cons ok__law_spoilt (all_cons ok__law_right (all_cons ok__law_taken (all_cons ok__law_given (all_cons ok_law (all_cons ok_StoreU_initU (all_cons ok_StoreU_eqU (all_cons ok_StoreU_lenU (all_cons ok_Store_size (all_cons ok_Store_rooms (all_cons ok_Store_wide_at (all_cons ok_Store_stretches (all_cons ok_Store_free (all_cons ok_Store_lay_room (all_cons ok_Store_clear_room (all_cons ok_Store_take (all_cons ok_Store_want_begin (all_cons ok_Store_give (all_cons ok_Store_can_move (all_cons ok_Store_move (all_cons ok_Store_is_place (all_cons ok_Store_put (all_cons ok_Store_told (all_cons ok_Store_copied all_nil))))))))))))))))))))))))))))))))))))))
theorem sh_ok : ∀ s ∈ sh, ShpOk es s := (all_cons (shp_plain (en := e_is_whole) rfl rfl rfl fun _ _ _ _ _ _ us ws h1 h2 => match us, ws, h1, h2 with | [_], [], _, _ => rfl)
  (all_cons (shp_plain (en := e_is_number) rfl rfl rfl fun _ _ _ _ _ _ us ws h1 h2 => match us, ws, h1, h2 with | [_], [], _, _ => rfl)
  (all_cons (shp_plain (en := e_is_spoken) rfl rfl rfl fun _ _ _ _ _ _ us ws h1 h2 => match us, ws, h1, h2 with | [_, _, _], [], _, _ => rfl)
  (all_cons (shp_plain (en := e_Store_stretches) rfl rfl rfl fun _ _ _ _ _ _ us ws h1 h2 => match us, ws, h1, h2 with | [_], [], _, _ => rfl)
  (all_cons (shp_plain (en := e__law_draw) rfl rfl rfl fun _ _ _ _ _ _ us ws h1 h2 => match us, ws, h1, h2 with | [_, _], [], _, _ => rfl)
  (all_cons (shp_plain (en := e__law_held_rows) rfl rfl rfl fun _ _ _ _ _ _ us ws h1 h2 => match us, ws, h1, h2 with | [_], [], _, _ => rfl)
  (all_cons (shp_plain (en := e_Store_rooms) rfl rfl rfl fun _ _ _ _ _ _ us ws h1 h2 => match us, ws, h1, h2 with | [_], [], _, _ => rfl)
  (all_cons (shp_plain (en := e_Store_told) rfl rfl rfl fun _ _ _ _ _ _ us ws h1 h2 => match us, ws, h1, h2 with | [_, _], [], _, _ => rfl)
  (all_cons (shp_plain (en := e__law_spoilt) rfl rfl rfl fun _ _ _ _ _ _ us ws h1 h2 => match us, ws, h1, h2 with | [_], [], _, _ => rfl)
  (all_cons (shp_plain (en := e_Store_free) rfl rfl rfl fun _ _ _ _ _ _ us ws h1 h2 => match us, ws, h1, h2 with | [_], [], _, _ => rfl)
  (all_cons (shp_plain (en := e__law_gaps) rfl rfl rfl fun _ _ _ _ _ _ us ws h1 h2 => match us, ws, h1, h2 with | [_, _], [], _, _ => rfl)
  (all_cons (shp_plain (en := e_Store_put) rfl rfl rfl fun _ _ _ _ _ _ us ws h1 h2 => match us, ws, h1, h2 with | [_, _, _], [], _, _ => rfl)
  (all_cons (shp_plain (en := e__law_any_cell) rfl rfl rfl fun _ _ _ _ _ _ us ws h1 h2 => match us, ws, h1, h2 with | [_], [], _, _ => rfl)
  (all_cons (shp_plain (en := e__law_wide) rfl rfl rfl fun _ _ _ _ _ _ us ws h1 h2 => match us, ws, h1, h2 with | [_], [], _, _ => rfl)
  (all_cons (shp_plain (en := e_Store_take) rfl rfl rfl fun _ _ _ _ _ _ us ws h1 h2 => match us, ws, h1, h2 with | [_, _], [], _, _ => rfl)
  (all_cons (shp_plain (en := e__law_longest) rfl rfl rfl fun _ _ _ _ _ _ us ws h1 h2 => match us, ws, h1, h2 with | [_], [], _, _ => rfl)
  (all_cons (shp_plain (en := e_Store_give) rfl rfl rfl fun _ _ _ _ _ _ us ws h1 h2 => match us, ws, h1, h2 with | [_], [_], _, _ => rfl)
  (all_cons (shp_plain (en := e_Store_give) rfl rfl rfl fun _ _ _ _ _ _ us ws h1 h2 => match us, ws, h1, h2 with | [_, _], [], _, _ => rfl)
  (all_cons (shp_plain (en := e_StoreU_lenU) rfl rfl rfl fun _ _ _ _ _ _ us ws h1 h2 => match us, ws, h1, h2 with | [_], [], _, _ => rfl)
  (all_cons (shp_plain (en := e__law_right) rfl rfl rfl fun _ _ _ _ _ _ us ws h1 h2 => match us, ws, h1, h2 with | [_, _, _, _], [], _, _ => rfl)
  (all_cons (shp_plain (en := e__law_given) rfl rfl rfl fun _ _ _ _ _ _ us ws h1 h2 => match us, ws, h1, h2 with | [_, _, _, _], [], _, _ => rfl)
  (all_cons (shp_plain (en := e__law_taken) rfl rfl rfl fun _ _ _ _ _ _ us ws h1 h2 => match us, ws, h1, h2 with | [_, _, _, _], [], _, _ => rfl)
  (all_cons (shp_dfl (en := e_StoreU_initU) [.pos 0, .pos 1] rfl (by exact List.cons_ne_nil _ _) rfl rfl fun _ _ _ _ _ _ _ us its ws h1 h2 h3 => match us, its, ws, h1, h2, h3 with | [_, _], [_], [], _, _, _ => ⟨_, rfl, rfl⟩)
  (all_cons (shp_plain (en := e__law_cell) rfl rfl rfl fun _ _ _ _ _ _ us ws h1 h2 => match us, ws, h1, h2 with | [_, _], [], _, _ => rfl)
  (all_cons (shp_plain (en := e__law_pot) rfl rfl rfl fun _ _ _ _ _ _ us ws h1 h2 => match us, ws, h1, h2 with | [_], [], _, _ => rfl)
  (all_cons (shp_plain (en := e_Store_lay_room) rfl rfl rfl fun _ _ _ _ _ _ us ws h1 h2 => match us, ws, h1, h2 with | [_, _, _], [], _, _ => rfl)
  (all_cons (shp_plain (en := e_wide_of) rfl rfl rfl fun _ _ _ _ _ _ us ws h1 h2 => match us, ws, h1, h2 with | [_], [], _, _ => rfl)
  (all_cons (shp_plain (en := e_Store_wide_at) rfl rfl rfl fun _ _ _ _ _ _ us ws h1 h2 => match us, ws, h1, h2 with | [_, _], [], _, _ => rfl)
  (all_cons (shp_plain (en := e_Store_clear_room) rfl rfl rfl fun _ _ _ _ _ _ us ws h1 h2 => match us, ws, h1, h2 with | [_, _], [], _, _ => rfl)
  (all_cons (shp_plain (en := e_Store_want_begin) rfl rfl rfl fun _ _ _ _ _ _ us ws h1 h2 => match us, ws, h1, h2 with | [_, _], [], _, _ => rfl)
  (all_cons (shp_plain (en := e__wall) rfl rfl rfl fun _ _ _ _ _ _ us ws h1 h2 => match us, ws, h1, h2 with | [_], [], _, _ => rfl)
  (all_cons (shp_plain (en := e_is_cell) rfl rfl rfl fun _ _ _ _ _ _ us ws h1 h2 => match us, ws, h1, h2 with | [_], [], _, _ => rfl)
  (all_cons (shp_plain (en := e_Store_is_place) rfl rfl rfl fun _ _ _ _ _ _ us ws h1 h2 => match us, ws, h1, h2 with | [_, _], [], _, _ => rfl)
  all_nil)))))))))))))))))))))))))))))))))
theorem sc_ok : (es.all fun en => scB en.N en.ps en.d.scope) = true := by decide +kernel

end Hd
namespace Hd
open PySem PySem.Spec PyProof.Rows L2 Rw
section
variable {K : PySem.W.Frag} {M : Addr → Prop} {H : Hp} {Q : VK} {E : XK} {n : Nat}
def isWhole : V → Bool
  | .int _ => true
  | _ => false
def isNum : V → Bool
  | .int i => decide (0 ≤ i) && decide (i ≤ 999999999999)
  | _ => false
/-- what a thing is, by isinstance -/
inductive Kn (K : PySem.W.Frag) (M : Addr → Prop) (H : Hp) : V → Prop
  | non : Kn K M H .non
  | bl {b} : Kn K M H (.bl b)
  | int {i} : Kn K M H (.int i)
  | str {z} (s : z.length ≤ sizeLine) : Kn K M H (.str z)
  | lst {a xs} (m : ¬ M a) (e : H a = some (.lst xs)) : Kn K M H (.ref a)
  | tup {a xs} (m : ¬ M a) (e : H a = some (.tup xs)) (k : ∀ x ∈ xs, Kn K M H x) : Kn K M H (.ref a)
  | dK {a xs} (m : ¬ M a) (e : H a = some (.dK xs)) : Kn K M H (.ref a)
theorem sp_whole {x : V} (k : Kn K M H x) (q : Q (.bl (isWhole x)) H) : lev K es (n + 1) ("is_whole", none) [x] H Q E := by
  refine lev_in (en := e_is_whole) rfl rfl ?_
  dsimp only [e_is_whole, D_is_whole, cn0]
  cases k <;> (walk_at "go"; exact q)
theorem sp_number {x : V} (k : Kn K M H x) (q : Q (.bl (isNum x)) H) : lev K es (n + 2) ("is_number", none) [x] H Q E := by
  refine lev_in (en := e_is_number) rfl rfl ?_
  dsimp only [e_is_number, D_is_number, cn0]
  walk_at "go"
  refine sp_whole k ?_
  cases k
  case int i =>
    dsimp only [isWhole]
    walk_at "go"
    refine i_b (fun h => ?_) fun h => ?_ <;> walk_at "go"
    · simpa only [isNum, h, Bool.true_and] using q
    · simpa only [isNum, h, Bool.false_and] using q
  all_goals (dsimp only [isWhole]; walk_at "go"; exact q)
/-- a tuple of many parts, the first of them this text -/
def isSpoken (H : Hp) (w : Str) (m : Int) : V → Bool
  | .ref a => match H a with
    | some (.tup xs) => decide ((xs.length : Int) = m) && (match xs with | .str z :: _ => decide (z = w) | _ => false)
    | _ => false
  | _ => false
theorem sp_spoken {x : V} {w : Str} {m : Int} (hm : 0 < m) (k : Kn K M H x) (q : Q (.bl (isSpoken H w m x)) H) : lev K es (n + 1) ("is_spoken", none) [x, .str w, .int m] H Q E := by
  refine lev_in (en := e_is_spoken) rfl rfl ?_
  dsimp only [e_is_spoken, D_is_spoken, cn0]
  cases k
  case tup a xs m e ke =>
    simp only [isSpoken, e] at q
    walk_at "go"
    refine v_lenT e ?_
    walk_at "go"
    refine i_dec (fun h => ?_) fun h => ?_
    · cases xs with
      | nil => simp at h; omega
      | cons y ys =>
        walk_at "go"
        have kk := ke y (List.mem_cons_self)
        refine v_ixT e at0 ?_
        cases kk
        case str z hz =>
          walk_at "go"
          refine v_ixT e at0 ?_
          walk_at "go"
          simpa only [h, decide_true, Bool.true_and] using q
        all_goals (walk_at "go"; simpa only [h, decide_true, Bool.true_and] using q)
    · walk_at "go"
      refine cast ?_ q
      simp [h]
  case lst a xs m e => 
    simp only [isSpoken, e] at q
    walk_at "go"
    exact q
  case dK a xs m e => 
    simp only [isSpoken, e] at q
    walk_at "go"
    exact q
  all_goals (walk_at "go"; exact q)
def few : V → Bool
  | .int i => decide (0 ≤ i) && decide (i ≤ 30)
  | _ => false
def nz : V → Bool
  | .int i => decide (i ≠ 0)
  | _ => true
def isCell (H : Hp) : V → Bool
  | .non => true
  | .int i => isNum (.int i)
  | .ref a => match H a with
    | some (.tup [.str z, x]) => decide (z = "to") && isNum x
    | some (.tup [.str z, x, y]) => decide (z = "thing") && (isNum x && nz x && few y)
    | _ => false
  | _ => false
theorem Kn.at {a : Addr} {xs : List V} {k : Nat} {x : V} (e : H a = some (.tup xs)) (h : Kn K M H (.ref a)) (hx : xs[k]? = some x) : Kn K M H x := by
  cases h with
  | lst m e2 => rw [e] at e2; cases e2
  | tup m e2 ke => rw [e] at e2; cases e2; exact ke x (List.mem_of_getElem? hx)
  | dK m e2 => rw [e] at e2; cases e2
theorem spoken_of {a : Addr} {xs : List V} {w : Str} {m : Nat} (e : H a = some (.tup xs)) (h : isSpoken H w m (.ref a) = true) : ∃ ys, xs = .str w :: ys ∧ ys.length + 1 = m := by
  simp only [isSpoken, e, Bool.and_eq_true, decide_eq_true_eq] at h
  obtain ⟨h1, h2⟩ := h
  split at h2
  · rename_i z ys
    obtain rfl := of_decide_eq_true h2
    exact ⟨ys, rfl, by simp only [List.length_cons] at h1; omega⟩
  · cases h2
theorem cell_no {a : Addr} {xs : List V} (e : H a = some (.tup xs)) (h : isSpoken H "to" 2 (.ref a) = false) (h2 : isSpoken H "thing" 3 (.ref a) = false) : isCell H (.ref a) = false := by
  simp only [isSpoken, e] at h h2
  simp only [isCell, e]
  split
  · rename_i z x z2
    cases z2
    simp only [List.length_cons, List.length_nil] at h
    have : decide (z = "to") = false := by simpa using h
    rw [this]
    rfl
  · rename_i z x y z2
    cases z2
    simp only [List.length_cons, List.length_nil] at h2
    have : decide (z = "thing") = false := by simpa using h2
    rw [this]
    rfl
  · rfl
theorem cell_int {i : Int} : isCell H (.int i) = isNum (.int i) := rfl
theorem sp_cell {x : V} (k : Kn K M H x) (q : Q (.bl (isCell H x)) H) : lev K es (n + 3) ("is_cell", none) [x] H Q E := by
  refine lev_in (en := e_is_cell) rfl rfl ?_
  dsimp only [e_is_cell, D_is_cell, cn0]
  cases k
  case tup a xs m e ke =>
    have kx : Kn K M H (.ref a) := .tup m e ke
    walk_at "go"
    refine sp_number kx ?_
    dsimp only [isNum]
    walk_at "go"
    refine sp_spoken (by decide) kx ?_
    walk_at "go"
    refine i_b (fun h => ?_) fun h => ?_
    · obtain ⟨ys, rfl, l⟩ := spoken_of (m := 2) e h
      rcases ys with _ | ⟨y, _ | ⟨y2, ys⟩⟩
      · simp at l
      · walk_at "go"
        refine sp_number (kx.at (k := 1) e rfl) ?_
        simp only [isCell, e] at q
        exact q
      · simp at l
    · walk_at "go"
      refine sp_spoken (by decide) kx ?_
      walk_at "go"
      cases h2 : isSpoken H "thing" 3 (.ref a) with
      | true =>
        obtain ⟨ys, rfl, l⟩ := spoken_of (m := 3) e h2
        rcases ys with _ | ⟨y, _ | ⟨y2, _ | ⟨y3, ys⟩⟩⟩
        · simp at l
        · simp at l
        · simp only [isCell, e] at q
          walk_at "go"
          refine sp_number (kx.at (k := 1) e rfl) ?_
          walk_at "go"
          cases h3 : isNum y with
          | true =>
            cases y with
            | int i =>
              walk_at "go"
              simp only [h3, decide_true, Bool.true_and] at q
              refine i_dec (fun h4 => ?_) fun h4 => ?_ <;> walk_at "go"
              · simpa [few, nz, h4] using q
              · refine sp_whole (kx.at (k := 2) e rfl) ?_
                cases y2 with
                | int j =>
                  dsimp only [isWhole]
                  walk_at "go"
                  refine i_dec (fun h5 => ?_) fun h5 => ?_ <;> walk_at "go"
                  · simpa [few, nz, h4, h5] using q
                  · simpa [few, nz, h4, h5] using q
                | _ =>
                  dsimp only [isWhole]
                  walk_at "go"
                  simpa [few, nz, h4] using q
            | _ => cases h3
          | false =>
            rw [h3] at q
            walk_at "go"
            exact q
        · simp at l
      | false =>
        rw [cell_no e h h2] at q
        walk_at "go"
        exact q
  case lst a xs m e =>
    have kx : Kn K M H (.ref a) := .lst m e
    simp only [isCell, e] at q
    walk_at "go"
    refine sp_number kx ?_
    dsimp only [isNum]
    walk_at "go"
    refine sp_spoken (by decide) kx ?_
    simp only [isSpoken, e]
    walk_at "go"
    refine sp_spoken (by decide) kx ?_
    simp only [isSpoken, e]
    walk_at "go"
    exact q
  case dK a xs m e =>
    have kx : Kn K M H (.ref a) := .dK m e
    simp only [isCell, e] at q
    walk_at "go"
    refine sp_number kx ?_
    dsimp only [isNum]
    walk_at "go"
    refine sp_spoken (by decide) kx ?_
    simp only [isSpoken, e]
    walk_at "go"
    refine sp_spoken (by decide) kx ?_
    simp only [isSpoken, e]
    walk_at "go"
    exact q
  case non =>
    walk_at "go"
    exact q
  case int i =>
    walk_at "go"
    refine sp_number (M := M) .int ?_
    simp only [isCell] at q
    cases h : isNum (.int i) with
    | true =>
      rw [h] at q
      walk_at "go"
      exact q
    | false =>
      rw [h] at q
      walk_at "go"
      refine sp_spoken (M := M) (by decide) .int ?_
      dsimp only [isSpoken]
      walk_at "go"
      refine sp_spoken (M := M) (by decide) .int ?_
      dsimp only [isSpoken]
      walk_at "go"
      exact q
  case str z hz =>
    have kx : Kn K M H (.str z) := .str hz
    walk_at "go"
    refine sp_number kx ?_
    dsimp only [isNum]
    walk_at "go"
    refine sp_spoken (by decide) kx ?_
    dsimp only [isSpoken]
    walk_at "go"
    refine sp_spoken (by decide) kx ?_
    dsimp only [isSpoken]
    walk_at "go"
    exact q
  case bl b =>
    have kx : Kn K M H (.bl b) := .bl
    walk_at "go"
    refine sp_number kx ?_
    dsimp only [isNum]
    walk_at "go"
    refine sp_spoken (by decide) kx ?_
    dsimp only [isSpoken]
    walk_at "go"
    refine sp_spoken (by decide) kx ?_
    dsimp only [isSpoken]
    walk_at "go"
    exact q
end
end Hd

namespace Hd
open PySem PySem.Spec PyProof.Rows L2 Rw
/-! ### rooms, in plain Lean -/
abbrev Rms : Type := List (Int × Int)
def kvsOf (rs : Rms) : List (Key × V) := rs.map fun r => (Sum.inl r.1, V.int r.2)
def widOf (rs : Rms) (b : Int) : Int := ((rs.find? fun r => decide (r.1 = b)).map (·.2)).getD 0
theorem kvs_keys {rs : Rms} : (kvsOf rs).map (·.1) = (rs.map (·.1)).map Sum.inl := by
  unfold kvsOf
  rw [List.map_map, List.map_map]
  rfl
theorem kvs_len {rs : Rms} : (kvsOf rs).length = rs.length := List.length_map ..
theorem wid_of : ∀ {rs : Rms} {r : Int × Int}, (rs.map (·.1)).Nodup → r ∈ rs → widOf rs r.1 = r.2
  | x :: rs, r, nd, h => by
    rw [List.map_cons, List.nodup_cons] at nd
    unfold widOf
    rw [List.find?_cons]
    rcases List.mem_cons.mp h with e | h
    · subst e
      simp
    · have ne : ¬ x.1 = r.1 := fun e => nd.1 (by rw [e]; exact List.mem_map_of_mem h)
      have z := wid_of nd.2 h
      unfold widOf at z
      simp only [ne, decide_false]
      exact z
theorem kvs_val {rs : Rms} {b : Int} (h : b ∈ rs.map (·.1)) : valV (kvsOf rs) (.inl b) = some (.int (widOf rs b)) := by
  induction rs with
  | nil => cases h
  | cons x rs ih =>
    by_cases e : x.1 = b
    · have e1 : valV (kvsOf (x :: rs)) (.inl b) = some (.int x.2) := valV_pos (p := (Sum.inl x.1, V.int x.2)) (by rw [e])
      rw [e1]
      simp [widOf, e]
    · have e1 : valV (kvsOf (x :: rs)) (.inl b) = valV (kvsOf rs) (.inl b) := valV_neg (p := (Sum.inl x.1, V.int x.2)) (fun z => e (Sum.inl.inj z))
      rw [e1, ih ?_]
      · unfold widOf
        rw [List.find?_cons]
        simp only [e, decide_false]
      · rcases List.mem_cons.mp h with z | z
        · exact absurd z.symm e
        · exact z
theorem kvs_no {rs : Rms} {b : Int} (h : b ∉ rs.map (·.1)) : valV (kvsOf rs) (.inl b) = none := by
  unfold valV
  rw [List.find?_eq_none.mpr]
  · rfl
  · intro x hx
    obtain ⟨r, hr, rfl⟩ := List.mem_map.mp hx
    intro z
    have z := of_decide_eq_true z
    exact h (by rw [← Sum.inl.inj z]; exact List.mem_map_of_mem hr)
/-- sorted keys, their rooms -/
theorem sort_rows {rs : Rms} {ys : List Int} (nd : (rs.map (·.1)).Nodup) (hp : ys.Perm (rs.map (·.1))) : (ys.map fun b => (b, widOf rs b)).Perm rs := by
  have p := hp.map fun b => (b, widOf rs b)
  have e : (rs.map (·.1)).map (fun b => (b, widOf rs b)) = rs := by
    rw [List.map_map]
    conv => rhs; rw [← List.map_id rs]
    exact List.map_congr_left fun r hr => by
      show (r.1, widOf rs r.1) = r
      rw [wid_of nd hr]
  rw [e] at p
  exact p
theorem sort_keys {f : Int → Int} : ∀ ys : List Int, (ys.map fun b => (b, f b)).map (·.1) = ys
  | [] => rfl
  | y :: ys => by rw [List.map_cons, List.map_cons, sort_keys ys]
/-- the free stretches behind begin, of rising rooms -/
def gaps : Int → Rms → Rms
  | _, [] => []
  | b, r :: rs => (if r.1 > b then [(b, r.1 - b)] else []) ++ gaps (r.1 + r.2) rs
theorem gaps_len : ∀ (b : Int) (rs : Rms), (gaps b rs).length ≤ rs.length
  | _, [] => Nat.le_refl _
  | b, r :: rs => by
    unfold gaps
    have := gaps_len (r.1 + r.2) rs
    rw [List.length_append, List.length_cons]
    split <;> simp <;> omega
def gstep (st : Rms × Int) (r : Int × Int) : Rms × Int := (if r.1 > st.2 then st.1 ++ [(st.2, r.1 - st.2)] else st.1, r.1 + r.2)
theorem gfold : ∀ (rs : Rms) (acc : Rms) (b : Int), (rs.foldl gstep (acc, b)).1 = acc ++ gaps b rs
  | [], acc, b => (List.append_nil acc).symm
  | r :: rs, acc, b => by
    rw [List.foldl_cons]
    show (rs.foldl gstep (_, r.1 + r.2)).1 = _
    rw [gfold rs]
    show _ = acc ++ ((if r.1 > b then [(b, r.1 - b)] else []) ++ gaps (r.1 + r.2) rs)
    by_cases h : r.1 > b
    · rw [if_pos h, if_pos (show r.1 > (acc, b).2 from h), List.append_assoc]
    · rw [if_neg h, if_neg (show ¬ r.1 > (acc, b).2 from h), List.nil_append]
theorem gfold_take {rs : Rms} {k : Nat} {r : Int × Int} (h : rs[k]? = some r) {st : Rms × Int} : (rs.take (k + 1)).foldl gstep st = gstep ((rs.take k).foldl gstep st) r := by
  rw [List.take_add_one, h, List.foldl_append]
  rfl
theorem gfold_len : ∀ (rs : Rms) (st : Rms × Int), (rs.foldl gstep st).1.length ≤ st.1.length + rs.length
  | [], st => Nat.le_refl _
  | r :: rs, st => by
    rw [List.foldl_cons]
    have := gfold_len rs (gstep st r)
    have z : (gstep st r).1.length ≤ st.1.length + 1 := by
      unfold gstep
      dsimp only
      split <;> simp
    rw [List.length_cons]
    omega
end Hd

namespace Hd
open PySem PySem.Spec PyProof.Rows L2 Rw
section
variable {K : PySem.W.Frag} {M : Addr → Prop} {H : Hp} {Q : VK} {E : XK} {n : Nat}
def widesL : List Int := [2, 3, 4, 6, 8, 12, 16, 24, 32]
def HasW (K : PySem.W.Frag) : Prop := ∀ H, SqT K H (He.ga K "WIDES") (widesL.map V.int)
def wideOf (m : Int) : Int := (widesL.filter fun w => decide (m ≤ w)).headD 0
theorem wides_some {m : Int} (h : m ≤ 32) : ∃ r, (widesL.filter fun w => decide (m ≤ w)) = wideOf m :: r := by
  have e : (widesL.filter fun w => decide (m ≤ w)) ≠ [] := fun z => by
    have := List.filter_eq_nil_iff.mp z 32 (by decide)
    simp at this
    omega
  unfold wideOf
  cases q : widesL.filter fun w => decide (m ≤ w) with
  | nil => exact absurd q e
  | cons a r => exact ⟨r, rfl⟩
theorem wideOf_mem {m : Int} (h : m ≤ 32) : wideOf m ∈ widesL ∧ m ≤ wideOf m := by
  obtain ⟨r, e⟩ := wides_some h
  have : wideOf m ∈ widesL.filter fun w => decide (m ≤ w) := by rw [e]; exact List.mem_cons_self
  simpa using this
theorem sp_wide {m : Int} (hW : HasW K) (h1 : 1 ≤ m) (h2 : m ≤ 32) (q : ∀ H2, Ext noM H H2 → Q (.int (wideOf m)) H2) : lev K es (n + 2) ("wide_of", none) [.int m] H Q E := by
  refine lev_in (en := e_wide_of) rfl rfl ?_
  dsimp only [e_wide_of, D_wide_of, cn0]
  walk_at "go"
  refine sp_whole (M := noM) .int ?_
  dsimp only [isWhole]
  walk_at "go"
  refine i_dec (fun _ => ?_) fun z => absurd h1 z
  walk_at "go"
  refine v_ixTQ (hW H) (v := .int 32) rfl ?_
  walk_at "go"
  refine i_ndec (fun z => absurd h2 z) fun _ => ?_
  walk_at "go"
  refine i_seqQ (hW H) ?_
  refine lc_gen (fun x => [some (.int m), some x]) (fun x => match x with | .int w => decide (m ≤ w) | _ => false) id (fun P hP => tells_tup fun k H' _ => hW H') (by decide) (fun _ _ => rfl) (fun H' x R _ _ hR => hR) (fun H' x R hx _ hR => ?_) (fun H' x R _ _ _ hR => ?_) fun d H' hd x' e => ?_
  · obtain ⟨w, hw, rfl⟩ := List.mem_map.mp hx
    walk_at "go"
    exact hR
  · walk_at "go"
    exact hR
  · walk_at "go"
    obtain ⟨r, er⟩ := wides_some h2
    have e2 : (((widesL.map V.int).filter fun x => match x with | .int w => decide (m ≤ w) | _ => false).map id) = .int (wideOf m) :: r.map V.int := by
      rw [List.map_id, List.filter_map]
      show ((widesL.filter fun w => decide (m ≤ w)).map V.int) = _
      rw [er]
      rfl
    rw [e2] at e
    refine v_ixL e at0 ?_
    exact q _ x'
end
end Hd

namespace Hd
open PySem PySem.Spec PyProof.Rows L2 Rw
section
variable {K : PySem.W.Frag} {M : Addr → Prop} {H : Hp} {Q : VK} {E : XK} {n : Nat}
abbrev stF (N : Int) (wd ba ca : Addr) : List (Str × V) := [("many_places", .int N), ("wide_by_begin", .ref wd), ("begin_at", .ref ba), ("cell_at", .ref ca)]
structure StoreR (K : PySem.W.Frag) (H : Hp) (s dx wd ba ca : Addr) (N : Int) (rs : Rms) (bl cl : List V) : Prop where
  o : H s = some (.ins (He.ga K "Store") dx (stF N wd ba ca))
  w : H wd = some (.dK (kvsOf rs))
  b : H ba = some (.lst bl)
  c : H ca = some (.lst cl)
theorem StoreR.ext {H2 : Hp} {s dx wd ba ca : Addr} {N : Int} {rs : Rms} {bl cl : List V} (h : StoreR K H s dx wd ba ca N rs bl cl) (x : Ext noM H H2) : StoreR K H2 s dx wd ba ca N rs bl cl :=
  ⟨x _ _ noM_not h.o, x _ _ noM_not h.w, x _ _ noM_not h.b, x _ _ noM_not h.c⟩
/-- a row of pairs, laid -/
def PairAt (d : Addr) (H : Hp) (r : Int × Int) (y : V) : Prop := ∃ t, y = .ref t ∧ t ≠ d ∧ H t = some (.tup [.int r.1, .int r.2])
def RowsAt (H : Hp) (l : Addr) (rs : Rms) : Prop := ∃ ys, H l = some (.lst ys) ∧ Paired (PairAt l H) rs ys
theorem sp_rooms {s dx wd ba ca : Addr} {N : Int} {rs : Rms} {bl cl : List V} (h : StoreR K H s dx wd ba ca N rs bl cl) (nd : (rs.map (·.1)).Nodup) (hz : rs.length < sizeLine)
    (q : ∀ l H2 ss, ss.Perm rs → (ss.map (·.1)).Pairwise (· ≤ ·) → H l = none → Ext noM H H2 → RowsAt H2 l ss → Q (.ref l) H2) : lev K es (n + 1) ("Store", some "rooms") [.ref s] H Q E := by
  refine lev_in (en := e_Store_rooms) rfl rfl ?_
  dsimp only [e_Store_rooms, D_Store_rooms, cn0, Cn.blk]
  obtain ⟨ho, hw, hb, hc⟩ := h
  walk_at "go"
  refine i_seqL ?_
  walk_at "go"
  refine v_sortU (.inl hw) kvs_keys fun ys p H1 hp hs np x1 e1 => ?_
  refine j_ref e1 ?_
  refine lc_rel (fun x => [some (.ref s), some x]) (fun _ => true) (fun d H' x y => ∃ i, x = .int i ∧ PairAt d H' (i, widOf rs i) y) (fun d H1 H2 x y x2 ⟨i, hx, t, hy, ht, e⟩ => ⟨i, hx, t, hy, ht, x2 _ _ ht e⟩) (fun P hP => tells_lst fun k H' p => .inl (.inl (hP k H' p _ _ noM_not e1))) ?_ (fun _ _ => rfl) (fun H' x R _ _ hR => hR) (fun H' x R hx _ hR => hR) (fun d H' x R hx _ xe hd hR => ?_) fun d H' zs hd x' e pz => ?_
  · rw [List.length_map, hp.length_eq, List.length_map]
    exact hz
  · obtain ⟨i, hi, rfl⟩ := List.mem_map.mp hx
    have ho' := xe _ _ noM_not (x1 _ _ noM_not ho)
    have hw' := xe _ _ noM_not (x1 _ _ noM_not hw)
    walk_at "go"
    refine v_ixD (k := .inl i) hw' (kvs_val (hp.mem_iff.mp hi)) ?_
    walk_at "go"
    intro t H2 nt x2 et
    refine hR _ _ x2 ⟨i, rfl, t, rfl, fun z => hd (by rw [← z]; exact nt), et⟩
  · refine q d H' (ys.map fun b => (b, widOf rs b)) (sort_rows nd hp) (by rw [sort_keys]; exact hs) ?_ (x1.trans x') ⟨zs, e, ?_⟩
    · cases hh : H d with
      | none => rfl
      | some o =>
        rw [x1 _ _ noM_not hh] at hd
        cases hd
    · rw [List.filter_eq_self.mpr fun _ _ => rfl] at pz
      clear e hs hp e1
      induction ys generalizing zs with
      | nil =>
        cases pz
        exact .nil
      | cons y ys ih =>
        cases pz with
        | cons h1 h2 =>
          obtain ⟨i, hi, h1⟩ := h1
          cases hi
          exact .cons h1 (ih _ h2)
end
end Hd

namespace Hd
open PySem PySem.Spec PyProof.Rows L2 Rw
section
variable {K : PySem.W.Frag} {M : Addr → Prop} {H : Hp} {Q : VK} {E : XK} {n : Nat}
theorem paired_at {α β : Type} {F : α → β → Prop} : ∀ {as : List α} {bs : List β} {k : Nat} {y : β}, Paired F as bs → bs[k]? = some y → ∃ a, as[k]? = some a ∧ F a y
  | _, _, _, _, .nil, e => by simp at e
  | _, _, 0, _, .cons h _, e => by simp at e; subst e; exact ⟨_, rfl, h⟩
  | _, _, k + 1, _, .cons _ t, e => by
    obtain ⟨a, e1, h⟩ := paired_at (k := k) t (by simpa using e)
    exact ⟨a, by simpa using e1, h⟩
theorem paired_len {α β : Type} {F : α → β → Prop} {as : List α} {bs : List β} (h : Paired F as bs) : as.length = bs.length := Paired.length h
theorem paired_map {α β : Type} {F G : α → β → Prop} {as : List α} {bs : List β} (h : Paired F as bs) (m : ∀ a b, F a b → G a b) : Paired G as bs := Paired.mono m h
theorem rows_new {H2 : Hp} {l : Addr} {rs : Rms} (h : RowsAt H l rs) (x : Ext noM H H2) : RowsAt H2 l rs := by
  obtain ⟨ys, e, p⟩ := h
  exact ⟨ys, x _ _ noM_not e, paired_map p fun r y ⟨t, ht, hn, et⟩ => ⟨t, ht, hn, x _ _ noM_not et⟩⟩
theorem sp_stretches {s dx wd ba ca : Addr} {N : Int} {rs : Rms} {bl cl : List V} (h : StoreR K H s dx wd ba ca N rs bl cl) (nd : (rs.map (·.1)).Nodup) (hz : rs.length < 100000)
    (q : ∀ l H2 ss, ss.Perm rs → (ss.map (·.1)).Pairwise (· ≤ ·) → H l = none → Ext noM H H2 → RowsAt H2 l (gaps 0 (ss ++ [(N, 0)])) → Q (.ref l) H2) : lev K es (n + 2) ("Store", some "stretches") [.ref s] H Q E := by
  refine lev_in (en := e_Store_stretches) rfl rfl ?_
  dsimp only [e_Store_stretches, D_Store_stretches, cn0, Cn.blk]
  have sz : (200000 : Nat) < sizeLine := by decide
  walk_at "go"
  intro f H1 nf x1 ef
  have h1 := h.ext x1
  have ho1 := h1.o
  walk_at "go"
  refine i_seqL ?_
  walk_at "go"
  refine sp_rooms h1 nd (Nat.lt_trans hz (by decide)) fun l H2 ss pm srt nl x2 rl => ?_
  have ho2 := (h1.ext x2).o
  obtain ⟨ys, el, py⟩ := rl
  walk_at "go"
  intro t0 H3 nt0 x3 et0
  walk_at "go"
  intro l2 H4 nl2 x4 el2
  refine v_addL (x4 _ _ noM_not (x3 _ _ noM_not el)) el2 ?_ fun p H5 np x5 e5 => ?_
  · rw [← paired_len py, pm.length_eq]
    show _ + 1 ≤ _
    omega
  refine j_ref e5 ?_
  have x25 : Ext noM H2 H5 := x3.trans (x4.trans x5)
  have ef5 : H5 f = some (.lst []) := x25 _ _ noM_not (x2 _ _ noM_not ef)
  have rows : Paired (fun (r : Int × Int) (y : V) => ∃ t, y = .ref t ∧ H5 t = some (.tup [.int r.1, .int r.2])) (ss ++ [(N, 0)]) (ys ++ [.ref t0]) :=
    Paired.snoc (paired_map py fun r y ⟨t, ht, _, et⟩ => ⟨t, ht, x25 _ _ noM_not et⟩) ⟨t0, rfl, x5 _ _ noM_not (x4 _ _ noM_not et0)⟩
  have len : (ys ++ [V.ref t0]).length = rs.length + 1 := by rw [← paired_len rows, List.length_append, pm.length_eq]; rfl
  refine for_go (fun k σ H' => Ext (at1 f) H5 H' ∧ RowsAt H' f (((ss ++ [(N, 0)]).take k).foldl gstep ([], 0)).1 ∧ ∃ v3 v4 : Option V, σ = [some (.ref s), some (.ref f), some (.int (((ss ++ [(N, 0)]).take k).foldl gstep ([], 0)).2), v3, v4])
    (tells_lst fun k H' ⟨σ, hx, _⟩ => .inl (.inl (hx _ _ (ne_of e5 ef5 (by intro z; injection z with z; simp at z)) e5))) ⟨Ext.rfl, ⟨[], ef5, .nil⟩, _, _, rfl⟩ (fun k σ H' x hP hx => ?_) fun σ H' hP => ?_
  · obtain ⟨xe, ⟨zs, ez, pz⟩, v3, v4, rfl⟩ := hP
    obtain ⟨r, er, t, rfl, et⟩ := paired_at rows hx
    have nt : t ≠ f := ne_of et ef5 (by intro z; injection z)
    have et' := xe _ _ nt et
    have hk : k < rs.length + 1 := by
      have := (List.getElem?_eq_some_iff.mp hx).1
      omega
    have hg := gfold_take er (st := ([], 0))
    have hgl : zs.length ≤ k := by
      rw [← paired_len pz]
      have z := gfold_len ((ss ++ [(N, 0)]).take k) ([], 0)
      have z2 := List.length_take_le k (ss ++ [(N, 0)])
      simp only [List.length_nil] at z
      omega
    refine x_tup et' rfl ?_
    walk_at "go"
    rw [hg]
    generalize ((ss ++ [(N, 0)]).take k).foldl gstep ([], 0) = st at pz hg
    refine i_dec (fun hd => ?_) fun hd => ?_ <;> walk_at "go"
    · intro u H6 nu x6 eu
      walk_at "go"
      refine v_app (x6 _ _ noM_not ez) (by omega) fun H7 _ x7 e7 => ?_
      walk_at "go"
      refine ⟨(xe.trans x6.up).trans (x7 _ rfl), ?_, _, _, rfl⟩
      have nuf : u ≠ f := fun z => by rw [z, ez] at nu; cases nu
      have gs : (gstep st r).1 = st.1 ++ [(st.2, r.1 - st.2)] := if_pos hd
      rw [gs]
      refine ⟨_, e7, Paired.snoc (paired_map pz fun a y ⟨t, ht, hn, et⟩ => ⟨t, ht, hn, x7 (at1 f) rfl _ _ hn (x6 _ _ noM_not et)⟩) ⟨u, rfl, nuf, x7 (at1 f) rfl _ _ nuf eu⟩⟩
    · have gs : (gstep st r).1 = st.1 := if_neg hd
      refine ⟨xe, ?_, _, _, rfl⟩
      rw [gs]
      exact ⟨zs, ez, pz⟩
  · obtain ⟨xe, rw_, v3, v4, rfl⟩ := hP
    rw [len, ← pm.length_eq, List.take_of_length_le (by rw [List.length_append]; exact Nat.le_refl _), gfold, List.nil_append] at rw_
    walk_at "go"
    exact q f H' ss pm srt nf ((((x1.trans x2).trans x25).up.trans xe).drop (p := f) fun q z => by rw [show q = f from z]; exact nf) rw_
end
end Hd

namespace Hd
open PySem PySem.Spec PyProof.Rows L2 Rw
section
variable {K : PySem.W.Frag} {M : Addr → Prop} {H : Hp} {Q : VK} {E : XK} {n : Nat}
/-- the store's own tables -/
def own3 (a b c : Addr) : Addr → Prop := fun q => q = a ∨ q = b ∨ q = c
theorem own3.sub1 {a b c : Addr} {H2 : Hp} (x : Ext (at1 a) H H2) : Ext (own3 a b c) H H2 := x.sub fun _ z => .inl z
theorem own3.sub2 {a b c : Addr} {H2 : Hp} (x : Ext (at1 b) H H2) : Ext (own3 a b c) H H2 := x.sub fun _ z => .inr (.inl z)
theorem own3.sub3 {a b c : Addr} {H2 : Hp} (x : Ext (at1 c) H H2) : Ext (own3 a b c) H H2 := x.sub fun _ z => .inr (.inr z)
/-- the tables stand apart -/
structure Apart (s wd ba ca : Addr) : Prop where
  sw : s ≠ wd
  sb : s ≠ ba
  sc : s ≠ ca
  wb : wd ≠ ba
  wc : wd ≠ ca
  bc : ba ≠ ca
def fill (g : Nat → V) (a k : Nat) (v : V) : Nat → V := fun j => if a ≤ j ∧ j < a + k then v else g j
theorem fill_zero {g : Nat → V} {a : Nat} {v : V} : fill g a 0 v = g := by
  funext j
  unfold fill
  rw [if_neg (by omega)]
theorem fill_succ {g : Nat → V} {a k : Nat} {v : V} : put1 (fill g a k v) (a + k) v = fill g a (k + 1) v := by
  funext j
  unfold fill put1
  by_cases e : j = a + k
  · rw [if_pos e, if_pos (by omega)]
  · rw [if_neg e]
    dsimp only
    by_cases h : a ≤ j ∧ j < a + k
    · rw [if_pos h, if_pos (by omega)]
    · rw [if_neg h, if_neg (by omega)]
theorem sp_lay {s dx wd ba ca : Addr} {N a w : Nat} {rs : Rms} {gb : Nat → V} {cl : List V} (ap : Apart s wd ba ca) (h : StoreR K H s dx wd ba ca N rs (row N gb) cl) (hN : N ≤ 100000) (hz : rs.length ≤ 100000) (hn : (a : Int) ∉ rs.map (·.1)) (hw : a + w ≤ N)
    (q : ∀ H2, Ext (own3 wd ba ca) H H2 → StoreR K H2 s dx wd ba ca N (rs ++ [((a : Int), (w : Int))]) (row N (fill gb a w (.int a))) cl → Q .non H2) : lev K es (n + 1) ("Store", some "lay_room") [.ref s, .int a, .int w] H Q E := by
  refine lev_in (en := e_Store_lay_room) rfl rfl ?_
  dsimp only [e_Store_lay_room, D_Store_lay_room, cn0, Cn.blk]
  obtain ⟨ho, hw', hb, hc⟩ := h
  have sz : (200000 : Nat) < sizeLine := by decide
  walk_at "go"
  refine x_putD (.inl (a : Int)) hw' (by rw [kvs_len]; omega) fun H1 x1 e1 => ?_
  rw [putK_new _ (kvs_no hn)] at e1
  have e1 : H1 wd = some (.dK (kvsOf (rs ++ [((a : Int), (w : Int))]))) := by
    rw [e1]
    unfold kvsOf
    rw [List.map_append]
    rfl
  have ho1 := x1 _ _ ap.sw ho
  have hb1 := x1 _ _ ap.wb.symm hb
  have hc1 := x1 _ _ ap.wc.symm hc
  walk_at "go"
  refine j_rng2 (by omega) ?_
  rw [show ((a : Int) + (w : Int) - (a : Int)).toNat = w by omega]
  refine for_go (fun k σ H' => k ≤ w ∧ Ext (at1 ba) H1 H' ∧ H' ba = some (.lst (row N (fill gb a k (.int a)))) ∧ ∃ v3 : Option V, σ = [some (.ref s), some (.int a), some (.int w), v3]) tells_rng ⟨Nat.zero_le _, Ext.rfl, by rw [fill_zero]; exact hb1, _, rfl⟩ (fun k σ H' x hP hx => ?_) fun σ H' hP => ?_
  · obtain ⟨hk, xe, eb, v3, rfl⟩ := hP
    obtain ⟨hk2, rfl⟩ := rngL_at hx
    have ho' := xe _ _ ap.sb ho1
    walk_at "go"
    refine x_putL (M := at1 ba) (j := a + k) rfl eb ?_ fun H2 x2 e2 => ?_
    · rw [row_len, show (a : Int) + (k : Int) = ((a + k : Nat) : Int) by omega]
      exact ixN_nat (by omega)
    rw [row_set, fill_succ] at e2
    walk_at "go"
    exact ⟨hk2, xe.trans x2, e2, _, rfl⟩
  · obtain ⟨_, xe, eb, v3, rfl⟩ := hP
    rw [rngL_len] at eb
    walk_at "go"
    exact q H' ((own3.sub1 x1).trans (own3.sub2 xe)) ⟨xe _ _ ap.sb ho1, xe _ _ ap.wb e1, eb, xe _ _ ap.bc.symm hc1⟩
end
end Hd

namespace Hd
open PySem PySem.Spec PyProof.Rows L2 Rw
/-! ### plain facts of rooms and stretches -/
def Rising : Int → Rms → Prop
  | _, [] => True
  | b, r :: rs => b ≤ r.1 ∧ Rising (r.1 + r.2) rs
/-- rooms as a store of N places may have them -/
structure RoomsOk (N : Int) (rs : Rms) : Prop where
  pos : ∀ r ∈ rs, 0 ≤ r.1 ∧ 0 < r.2 ∧ r.1 + r.2 ≤ N
  dis : rs.Pairwise fun r t => r.1 + r.2 ≤ t.1 ∨ t.1 + t.2 ≤ r.1
theorem RoomsOk.nodup {N : Int} {rs : Rms} (h : RoomsOk N rs) : (rs.map (·.1)).Nodup := by
  refine List.pairwise_map.mpr (h.dis.imp_of_mem fun {r t} hr ht d e => ?_)
  have p1 := h.pos r hr
  have p2 := h.pos t ht
  omega
theorem RoomsOk.perm {N : Int} {rs ss : Rms} (h : RoomsOk N rs) (p : ss.Perm rs) : RoomsOk N ss :=
  ⟨fun r hr => h.pos r (p.mem_iff.mp hr), (p.symm.pairwise_iff fun {r t} d => d.symm).mp h.dis⟩
theorem rising_of {N : Int} : ∀ {b : Int} {ss : Rms}, RoomsOk N ss → (ss.map (·.1)).Pairwise (· ≤ ·) → (∀ r ∈ ss, b ≤ r.1) → b ≤ N → Rising b (ss ++ [(N, 0)])
  | b, [], _, _, _, hb => ⟨hb, True.intro⟩
  | b, r :: ss, h, s, hb, hN => by
    rw [List.map_cons, List.pairwise_cons] at s
    have hd := List.pairwise_cons.mp h.dis
    have p := h.pos r List.mem_cons_self
    refine ⟨hb r List.mem_cons_self, rising_of ⟨fun t ht => h.pos t (List.mem_cons_of_mem _ ht), hd.2⟩ s.2 (fun t ht => ?_) p.2.2⟩
    have d := hd.1 t ht
    have l := s.1 t.1 (List.mem_map_of_mem ht)
    have pt := h.pos t (List.mem_cons_of_mem _ ht)
    omega
theorem gaps_in {N : Int} : ∀ {b : Int} {ss : Rms} {g : Int × Int}, Rising b (ss ++ [(N, 0)]) → (∀ r ∈ ss, 0 < r.2) → g ∈ gaps b (ss ++ [(N, 0)]) → b ≤ g.1 ∧ 0 < g.2 ∧ g.1 + g.2 ≤ N ∧ ∀ r ∈ ss, r.1 + r.2 ≤ g.1 ∨ g.1 + g.2 ≤ r.1
  | b, [], g, h, _, hg => by
    have h1 : b ≤ N := h.1
    simp only [List.nil_append, gaps, List.append_nil] at hg
    split at hg
    · obtain rfl := List.mem_singleton.mp hg
      exact ⟨Int.le_refl _, by omega, by omega, fun r hr => (List.not_mem_nil hr).elim⟩
    · exact (List.not_mem_nil hg).elim
  | b, r :: ss, g, h, hp, hg => by
    have h1 : b ≤ r.1 := h.1
    have h2 : Rising (r.1 + r.2) (ss ++ [(N, 0)]) := h.2
    have pr := hp r List.mem_cons_self
    have hN : r.1 + r.2 ≤ N ∧ ∀ t ∈ ss, r.1 + r.2 ≤ t.1 := by
      clear hg h
      generalize r.1 + r.2 = c at h2
      have hp' : ∀ t ∈ ss, 0 < t.2 := fun t ht => hp t (List.mem_cons_of_mem _ ht)
      clear hp pr h1
      induction ss generalizing c with
      | nil => exact ⟨h2.1, fun t ht => (List.not_mem_nil ht).elim⟩
      | cons x xs ih =>
        obtain ⟨i1, i2⟩ := ih (c := x.1 + x.2) h2.2 fun t ht => hp' t (List.mem_cons_of_mem _ ht)
        have c1 : c ≤ x.1 := h2.1
        have px := hp' x List.mem_cons_self
        refine ⟨by omega, fun t ht => ?_⟩
        rcases List.mem_cons.mp ht with e | ht
        · rw [e]
          exact c1
        · have := i2 t ht
          omega
    have hg : g ∈ (if r.1 > b then [(b, r.1 - b)] else []) ++ gaps (r.1 + r.2) (ss ++ [(N, 0)]) := hg
    rcases List.mem_append.mp hg with hg | hg
    · split at hg
      · obtain rfl := List.mem_singleton.mp hg
        refine ⟨Int.le_refl _, by omega, by omega, fun t ht => ?_⟩
        rcases List.mem_cons.mp ht with e | ht
        · rw [e]
          right
          show b + (r.1 - b) ≤ r.1
          omega
        · have := hN.2 t ht
          right
          show b + (r.1 - b) ≤ t.1
          omega
      · exact (List.not_mem_nil hg).elim
    · obtain ⟨i1, i2, i3, i4⟩ := gaps_in h2 (fun t ht => hp t (List.mem_cons_of_mem _ ht)) hg
      refine ⟨by omega, i2, i3, fun t ht => ?_⟩
      rcases List.mem_cons.mp ht with e | ht
      · rw [e]
        exact .inl i1
      · exact i4 t ht
theorem gaps_sum {N : Int} : ∀ {b : Int} {ss : Rms}, Rising b (ss ++ [(N, 0)]) → ((gaps b (ss ++ [(N, 0)])).map (·.2)).sum + (ss.map (·.2)).sum = N - b
  | b, [], h => by
    have h1 : b ≤ N := h.1
    simp only [List.nil_append, gaps, List.append_nil, List.map_nil, List.sum_nil]
    split
    · simp
    · simp
      omega
  | b, r :: ss, h => by
    have h1 : b ≤ r.1 := h.1
    have i := gaps_sum (b := r.1 + r.2) (ss := ss) h.2
    show (((if r.1 > b then [(b, r.1 - b)] else []) ++ gaps (r.1 + r.2) (ss ++ [(N, 0)])).map (·.2)).sum + _ = _
    rw [List.map_append, List.sum_append, List.map_cons, List.sum_cons]
    split
    · simp only [List.map_cons, List.map_nil, List.sum_cons, List.sum_nil]
      omega
    · simp only [List.map_nil, List.sum_nil]
      omega
end Hd

namespace Hd
open PySem PySem.Spec PyProof.Rows L2 Rw
section
variable {K : PySem.W.Frag} {M : Addr → Prop} {H : Hp} {Q : VK} {E : XK} {n : Nat}
theorem kvs_vals {rs : Rms} : (kvsOf rs).map (·.2) = (rs.map (·.2)).map V.int := by
  unfold kvsOf
  rw [List.map_map, List.map_map]
  rfl
theorem kvs_drop {rs : Rms} {b : Int} : dropK (kvsOf rs) (.inl b) = kvsOf (rs.filter fun r => decide (r.1 ≠ b)) := by
  unfold dropK kvsOf
  rw [List.filter_map]
  congr 1
  refine List.filter_congr fun r _ => ?_
  show decide ((Sum.inl r.1 : Key) ≠ Sum.inl b) = decide (r.1 ≠ b)
  exact decide_eq_decide.mpr ⟨fun z e => z (by rw [e]), fun z e => z (Sum.inl.inj e)⟩
theorem sp_wide_at {s dx wd ba ca : Addr} {N b : Int} {rs : Rms} {bl cl : List V} (h : StoreR K H s dx wd ba ca N rs bl cl) (hb : b ∈ rs.map (·.1)) (q : Q (.int (widOf rs b)) H) : lev K es (n + 2) ("Store", some "wide_at") [.ref s, .int b] H Q E := by
  refine lev_in (en := e_Store_wide_at) rfl rfl ?_
  dsimp only [e_Store_wide_at, D_Store_wide_at, cn0, Cn.blk]
  obtain ⟨ho, hw, hb', hc⟩ := h
  walk_at "go"
  refine sp_whole (M := noM) .int ?_
  dsimp only [isWhole]
  walk_at "go"
  refine v_getD (.inl b) hw ?_
  rw [kvs_val hb]
  exact q
theorem sp_want {s dx wd ba ca : Addr} {N b : Int} {rs : Rms} {bl cl : List V} (h : StoreR K H s dx wd ba ca N rs bl cl) (hb : b ∈ rs.map (·.1)) (hp : widOf rs b ≠ 0) (q : Q .non H) : lev K es (n + 3) ("Store", some "want_begin") [.ref s, .int b] H Q E := by
  refine lev_in (en := e_Store_want_begin) rfl rfl ?_
  dsimp only [e_Store_want_begin, D_Store_want_begin, cn0, Cn.blk]
  have ho := h.o
  walk_at "go"
  refine sp_wide_at h hb ?_
  walk_at "go"
  refine i_dec (fun z => absurd z hp) fun _ => ?_
  walk_at "go"
  exact q
theorem sp_clear {s dx wd ba ca : Addr} {N a w : Nat} {rs : Rms} {gb gc : Nat → V} (ap : Apart s wd ba ca) (h : StoreR K H s dx wd ba ca N rs (row N gb) (row N gc)) (hN : N ≤ 100000) (hb : (a : Int) ∈ rs.map (·.1)) (hwid : widOf rs a = (w : Nat)) (hw : a + w ≤ N)
    (q : ∀ v H2, Ext (own3 wd ba ca) H H2 → StoreR K H2 s dx wd ba ca N (rs.filter fun r => decide (r.1 ≠ a)) (row N (fill gb a w .non)) (row N (fill gc a w .non)) → Q v H2) : lev K es (n + 1) ("Store", some "clear_room") [.ref s, .int a] H Q E := by
  refine lev_in (en := e_Store_clear_room) rfl rfl ?_
  dsimp only [e_Store_clear_room, D_Store_clear_room, cn0, Cn.blk]
  obtain ⟨ho, hw', hb', hc⟩ := h
  walk_at "go"
  refine e_altL ?_
  walk_at "go"
  refine v_popD (.inl (a : Int)) hw' (kvs_val hb) fun H1 x1 e1 => ?_
  rw [kvs_drop] at e1
  rw [hwid]
  have ho1 := x1 _ _ ap.sw ho
  have hb1 := x1 _ _ ap.wb.symm hb'
  have hc1 := x1 _ _ ap.wc.symm hc
  walk_at "go"
  refine v_slLn hc1 fun p H2 np x2 _ => ?_
  have ho2 := x2 _ _ noM_not ho1
  have hb2 := x2 _ _ noM_not hb1
  have hc2 := x2 _ _ noM_not hc1
  walk_at "go"
  refine j_rng2 (by omega) ?_
  rw [show ((a : Int) + (w : Int) - (a : Int)).toNat = w by omega]
  refine for_go (fun k σ H' => k ≤ w ∧ Ext (own3 wd ba ca) H2 H' ∧ H' wd = some (.dK (kvsOf (rs.filter fun r => decide (r.1 ≠ a)))) ∧ H' ba = some (.lst (row N (fill gb a k .non))) ∧ H' ca = some (.lst (row N (fill gc a k .non))) ∧ ∃ v4 : Option V, σ = [some (.ref s), some (.int a), some (.int w), some (.ref p), v4]) tells_rng
    ⟨Nat.zero_le _, Ext.rfl, x2 _ _ noM_not e1, by rw [fill_zero]; exact hb2, by rw [fill_zero]; exact hc2, _, rfl⟩ (fun k σ H' x hP hx => ?_) fun σ H' hP => ?_
  · obtain ⟨hk, xe, ew, eb, ec, v3, rfl⟩ := hP
    obtain ⟨hk2, rfl⟩ := rngL_at hx
    have so : ¬ own3 wd ba ca s := fun z => by
      rcases z with z | z | z
      · exact ap.sw z
      · exact ap.sb z
      · exact ap.sc z
    have ho' := xe _ _ so ho2
    walk_at "go"
    refine x_putL (M := at1 ba) (j := a + k) rfl eb ?_ fun H3 x3 e3 => ?_
    · rw [row_len, show (a : Int) + (k : Int) = ((a + k : Nat) : Int) by omega]
      exact ixN_nat (by omega)
    rw [row_set, fill_succ] at e3
    have ho3 := x3 _ _ ap.sb ho'
    have ec3 := x3 _ _ ap.bc.symm ec
    walk_at "go"
    refine x_putL (M := at1 ca) (j := a + k) rfl ec3 ?_ fun H4 x4 e4 => ?_
    · rw [row_len, show (a : Int) + (k : Int) = ((a + k : Nat) : Int) by omega]
      exact ixN_nat (by omega)
    rw [row_set, fill_succ] at e4
    walk_at "go"
    exact ⟨hk2, (xe.trans (own3.sub2 x3)).trans (own3.sub3 x4), x4 _ _ ap.wc (x3 _ _ ap.wb ew), x4 _ _ ap.bc e3, e4, _, rfl⟩
  · obtain ⟨_, xe, ew, eb, ec, v3, rfl⟩ := hP
    rw [rngL_len] at eb ec
    walk_at "go"
    have so : ¬ own3 wd ba ca s := fun z => by
      rcases z with z | z | z
      · exact ap.sw z
      · exact ap.sb z
      · exact ap.sc z
    exact q _ H' ((own3.sub1 x1).trans (x2.up.trans xe)) ⟨xe _ _ so ho2, ew, eb, ec⟩
theorem sp_give {s dx wd ba ca : Addr} {N a w : Nat} {rs : Rms} {gb gc : Nat → V} (ap : Apart s wd ba ca) (h : StoreR K H s dx wd ba ca N rs (row N gb) (row N gc)) (hN : N ≤ 100000) (hb : (a : Int) ∈ rs.map (·.1)) (hwid : widOf rs a = (w : Nat)) (hw0 : 0 < w) (hw : a + w ≤ N)
    (q : ∀ H2, Ext (own3 wd ba ca) H H2 → StoreR K H2 s dx wd ba ca N (rs.filter fun r => decide (r.1 ≠ a)) (row N (fill gb a w .non)) (row N (fill gc a w .non)) → Q .non H2) : lev K es (n + 4) ("Store", some "give") [.ref s, .int a] H Q E := by
  refine lev_in (en := e_Store_give) rfl rfl ?_
  dsimp only [e_Store_give, D_Store_give, cn0, Cn.blk]
  have ho := h.o
  walk_at "go"
  refine sp_want h hb (by rw [hwid]; omega) ?_
  walk_at "go"
  refine sp_clear ap h hN hb hwid hw fun v H2 x2 h2 => ?_
  walk_at "go"
  exact q H2 x2 h2
theorem sp_free {s dx wd ba ca : Addr} {N : Int} {rs : Rms} {bl cl : List V} (h : StoreR K H s dx wd ba ca N rs bl cl) (q : Q (.int (N - (rs.map (·.2)).sum)) H) : lev K es (n + 1) ("Store", some "free") [.ref s] H Q E := by
  refine lev_in (en := e_Store_free) rfl rfl ?_
  dsimp only [e_Store_free, D_Store_free, cn0, Cn.blk]
  obtain ⟨ho, hw, hb, hc⟩ := h
  walk_at "go"
  refine v_sumD ?_
  walk_at "go"
  refine ⟨wd, _, _, rfl, hw, kvs_vals, ?_⟩
  walk_at "go"
  exact q
theorem sp_is_place {s dx wd ba ca : Addr} {N p : Int} {rs : Rms} {bl cl : List V} (h : StoreR K H s dx wd ba ca N rs bl cl) (h0 : 0 ≤ p) (h1 : p < N) (q : Q (.bl true) H) : lev K es (n + 2) ("Store", some "is_place") [.ref s, .int p] H Q E := by
  refine lev_in (en := e_Store_is_place) rfl rfl ?_
  dsimp only [e_Store_is_place, D_Store_is_place, cn0, Cn.blk]
  have ho := h.o
  walk_at "go"
  refine sp_whole (M := noM) .int ?_
  dsimp only [isWhole]
  walk_at "go"
  refine i_dec (fun _ => ?_) fun z => absurd h0 z
  walk_at "go"
  rw [decide_eq_true h1]
  exact q
theorem sp_told {s dx wd ba ca : Addr} {N p : Nat} {rs : Rms} {bl : List V} {gc : Nat → V} (h : StoreR K H s dx wd ba ca N rs bl (row N gc)) (h1 : p < N) (q : Q (gc p) H) : lev K es (n + 3) ("Store", some "told") [.ref s, .int p] H Q E := by
  refine lev_in (en := e_Store_told) rfl rfl ?_
  dsimp only [e_Store_told, D_Store_told, cn0, Cn.blk]
  have ho := h.o
  walk_at "go"
  refine sp_is_place h (by omega) (by omega) ?_
  walk_at "go"
  refine v_ixL h.c (atN (row_at h1)) ?_
  exact q
theorem sp_put {s dx wd ba ca : Addr} {N p : Nat} {rs : Rms} {gb gc : Nat → V} {b : Int} {v : V} (ap : Apart s wd ba ca) (h : StoreR K H s dx wd ba ca N rs (row N gb) (row N gc)) (h1 : p < N) (hb : gb p = .int b) (kv : Kn K M H v) (hv : isCell H v = true)
    (q : ∀ H2, Ext (at1 ca) H H2 → StoreR K H2 s dx wd ba ca N rs (row N gb) (row N (put1 gc p v)) → Q .non H2) : lev K es (n + 4) ("Store", some "put") [.ref s, .int p, v] H Q E := by
  refine lev_in (en := e_Store_put) rfl rfl ?_
  dsimp only [e_Store_put, D_Store_put, cn0, Cn.blk]
  have ho := h.o
  walk_at "go"
  refine sp_is_place h (by omega) (by omega) ?_
  walk_at "go"
  refine v_ixL h.b (atN (row_at h1)) ?_
  rw [hb]
  walk_at "go"
  refine sp_cell kv ?_
  rw [hv]
  walk_at "go"
  refine x_putL (M := at1 ca) (j := p) rfl h.c (by rw [row_len]; exact ixN_nat h1) fun H2 x2 e2 => ?_
  rw [row_set] at e2
  walk_at "go"
  exact q H2 x2 ⟨x2 _ _ ap.sc h.o, x2 _ _ ap.wc h.w, x2 _ _ ap.bc h.b, e2⟩
theorem sp_len {s dx wd ba ca : Addr} {N : Int} {rs : Rms} {bl cl : List V} (h : StoreR K H s dx wd ba ca N rs bl cl) (q : Q (.int rs.length) H) : lev K es (n + 1) ("Store", some "__len__") [.ref s] H Q E := by
  refine lev_in (en := e_StoreU_lenU) rfl rfl ?_
  dsimp only [e_StoreU_lenU, D_StoreU_lenU, cn0, Cn.blk]
  obtain ⟨ho, hw, hb, hc⟩ := h
  walk_at "go"
  refine v_lenD hw ?_
  rw [kvs_len]
  exact q
end
end Hd

namespace Hd
open PySem PySem.Spec PyProof.Rows L2 Rw
section
variable {K : PySem.W.Frag} {M : Addr → Prop} {H : Hp} {Q : VK} {E : XK} {n : Nat}
/-- the pair of ints that stands at a value -/
def rowAt (H : Hp) : V → Int × Int
  | .ref t => (match H t with
    | some (.tup [.int a, .int b]) => (a, b)
    | _ => (0, 0))
  | _ => (0, 0)
theorem rowAt_of {t : Addr} {r : Int × Int} (e : H t = some (.tup [.int r.1, .int r.2])) : rowAt H (.ref t) = r := by
  simp only [rowAt, e]
theorem rows_map {l : Addr} {rs : Rms} {ys : List V} (h : Paired (PairAt l H) rs ys) : ys.map (rowAt H) = rs := by
  induction h with
  | nil => rfl
  | cons h _ ih =>
    obtain ⟨t, rfl, _, e⟩ := h
    rw [List.map_cons, ih, rowAt_of e]
theorem rows_mem {l : Addr} {rs : Rms} {ys : List V} (h : Paired (PairAt l H) rs ys) {x : V} (hx : x ∈ ys) : ∃ t, x = .ref t ∧ H t = some (.tup [.int (rowAt H x).1, .int (rowAt H x).2]) ∧ rowAt H x ∈ rs := by
  induction h with
  | nil => cases hx
  | cons h _ ih =>
    rcases List.mem_cons.mp hx with e | hx
    · subst e
      obtain ⟨t, rfl, _, e⟩ := h
      rw [rowAt_of e]
      exact ⟨t, rfl, e, List.mem_cons_self⟩
    · obtain ⟨t, h1, h2, h3⟩ := ih hx
      exact ⟨t, h1, h2, List.mem_cons_of_mem _ h3⟩
theorem rel_mem {α β : Type} {F : α → β → Prop} {as : List α} {bs : List β} (h : Paired F as bs) {y : β} (hy : y ∈ bs) : ∃ x ∈ as, F x y := by
  induction h with
  | nil => cases hy
  | cons h _ ih =>
    rcases List.mem_cons.mp hy with e | hy
    · rw [e]
      exact ⟨_, List.mem_cons_self, h⟩
    · obtain ⟨x, h1, h2⟩ := ih hy
      exact ⟨x, List.mem_cons_of_mem _ h1, h2⟩
/-- the room that's taken: the stretches of some rising order of the rooms have it -/
def Fits (N : Int) (rs : Rms) (b w : Int) : Prop := ∃ ss len, ss.Perm rs ∧ (ss.map (·.1)).Pairwise (· ≤ ·) ∧ (b, len) ∈ gaps 0 (ss ++ [(N, 0)]) ∧ w ≤ len
theorem sp_take {s dx wd ba ca : Addr} {N : Nat} {m : Int} {rs : Rms} {gb : Nat → V} {cl : List V} (hW : HasW K) (ap : Apart s wd ba ca) (h : StoreR K H s dx wd ba ca N rs (row N gb) cl) (ok : RoomsOk N rs) (hN : N ≤ 30000) (hz : rs.length ≤ 30000) (h1 : 1 ≤ m) (h2 : m ≤ 32)
    (hf : ∀ ss : Rms, ss.Perm rs → (ss.map (·.1)).Pairwise (· ≤ ·) → ∃ g ∈ gaps 0 (ss ++ [((N : Int), 0)]), wideOf m ≤ g.2)
    (q : ∀ (a w : Nat) H2, (w : Int) = wideOf m → Fits N rs a w → Ext (own3 wd ba ca) H H2 → StoreR K H2 s dx wd ba ca N (rs ++ [((a : Int), (w : Int))]) (row N (fill gb a w (.int a))) cl → Q (.int a) H2) : lev K es (n + 3) ("Store", some "take") [.ref s, .int m] H Q E := by
  refine lev_in (en := e_Store_take) rfl rfl ?_
  dsimp only [e_Store_take, D_Store_take, cn0, Cn.blk]
  have ho := h.o
  have sz : (200000 : Nat) < sizeLine := by decide
  obtain ⟨wm, wle⟩ := wideOf_mem h2
  have w0 : 2 ≤ wideOf m ∧ wideOf m ≤ 32 := by
    simp only [widesL, List.mem_cons, List.not_mem_nil, or_false] at wm
    omega
  walk_at "go"
  refine sp_wide hW h1 h2 fun H1 x1 => ?_
  have s1 := h.ext x1
  have ho1 := s1.o
  walk_at "go"
  refine i_seqL ?_
  walk_at "go"
  refine sp_stretches s1 ok.nodup (by omega) fun l H2 ss pm srt nl x2 ⟨ys, el, py⟩ => ?_
  have s2 := s1.ext x2
  have lny : ys.length ≤ 30001 := by
    have := gaps_len 0 (ss ++ [((N : Int), 0)])
    rw [← paired_len py]
    rw [List.length_append, pm.length_eq, List.length_singleton] at this
    omega
  refine j_ref el ?_
  refine lc_gen (fun x => [some (.ref s), some (.int m), some (.int (wideOf m)), none, some (.int (rowAt H2 x).2), none, some (.int (rowAt H2 x).1)]) (fun _ => true) (fun x => .int (rowAt H2 x).2) (fun P hP => tells_lst fun k H' p => .inl (.inl (hP k H' p _ _ noM_not el))) (by omega) ?_ (fun H' x R hx xe hR => ?_) ?_ (fun H' x R hx _ xe hR => ?_) fun d H3 nd x3 ed => ?_
  · exact fun _ _ => rfl
  · obtain ⟨t, rfl, et, _⟩ := rows_mem py hx
    refine x_tup (xe _ _ noM_not et) rfl ?_
    walk_at "go"
    exact hR
  · exact fun H' x R _ _ hR => hR
  · walk_at "go"
    exact hR
  have ems : ((ys.filter fun _ => true).map fun x => V.int (rowAt H2 x).2) = ((gaps 0 (ss ++ [((N : Int), 0)])).map (·.2)).map V.int := by
    rw [List.filter_eq_self.mpr fun _ _ => rfl, ← rows_map py, List.map_map, List.map_map]
    rfl
  rw [ems] at ed
  walk_at "go"
  obtain ⟨g0, hg0, wg0⟩ := hf ss pm srt
  refine v_maxD ed (fun z => ?_) fun mx hmx hmax => ?_
  · rw [List.map_eq_nil_iff.mp z] at hg0
    cases hg0
  have big := hmax g0.2 (List.mem_map_of_mem hg0)
  have s3 := s2.ext x3
  have ho3 := s3.o
  walk_at "go"
  refine i_dec (fun z => absurd z (by omega)) fun _ => ?_
  walk_at "go"
  refine i_seqL ?_
  walk_at "go"
  refine sp_stretches s3 ok.nodup (by omega) fun l4 H4 s4 pm4 srt4 nl4 x4 ⟨ys4, el4, py4⟩ => ?_
  have st4 := s3.ext x4
  have lny4 : ys4.length ≤ 30001 := by
    have := gaps_len 0 (s4 ++ [((N : Int), 0)])
    rw [← paired_len py4]
    rw [List.length_append, pm4.length_eq, List.length_singleton] at this
    omega
  refine j_ref el4 ?_
  refine lc_rel (fun x => [some (.ref s), some (.int m), some (.int (wideOf m)), some (.int mx), some (.int (rowAt H4 x).2), none, some (.int (rowAt H4 x).1)]) (fun x => decide (wideOf m ≤ (rowAt H4 x).2)) (fun d H' x y => PairAt d H' ((rowAt H4 x).2, (rowAt H4 x).1) y)
    (fun d H1 H2 x y x2 ⟨t, hy, ht, e⟩ => ⟨t, hy, ht, x2 _ _ ht e⟩) (fun P hP => tells_lst fun k H' p => .inl (.inl (hP k H' p _ _ noM_not el4))) (by omega) ?_ (fun H' x R hx xe hR => ?_) (fun H' x R _ _ hR => ?_) (fun d H' x R hx _ xe hd hR => ?_) fun d H5 zs nd5 x5 ed5 pz => ?_
  · exact fun _ _ => rfl
  · obtain ⟨t, rfl, et, _⟩ := rows_mem py4 hx
    refine x_tup (xe _ _ noM_not et) rfl ?_
    walk_at "go"
    exact hR
  · walk_at "go"
    exact hR
  · walk_at "go"
    intro t H6 nt x6 et
    exact hR _ _ x6 ⟨t, rfl, fun z => hd (by rw [← z]; exact nt), et⟩
  walk_at "go"
  obtain ⟨g4, hg4, wg4⟩ := hf s4 pm4 srt4
  have ne : zs ≠ [] := fun z => by
    subst z
    rw [← rows_map py4] at hg4
    obtain ⟨x, hx, ex⟩ := List.mem_map.mp hg4
    have hx2 : x ∈ ys4.filter fun x => decide (wideOf m ≤ (rowAt H4 x).2) := List.mem_filter.mpr ⟨hx, by rw [ex]; exact decide_eq_true wg4⟩
    have l0 := paired_len pz
    rw [List.length_eq_zero_iff.mp l0] at hx2
    cases hx2
  refine .inr ⟨d, zs, rowAt H5, rfl, .inl (.inl ed5), ne, fun x hx => ?_, fun mn hmn _ => ?_⟩
  · obtain ⟨y, _, t, ht, _, et⟩ := rel_mem pz hx
    subst ht
    exact ⟨t, rfl, by rw [rowAt_of et]; exact et⟩
  · obtain ⟨y, hy, t, ht, _, et⟩ := rel_mem pz hmn
    subst ht
    obtain ⟨hy1, hy2⟩ := List.mem_filter.mp hy
    have hy2 := of_decide_eq_true hy2
    obtain ⟨t4, rfl, et4, hin⟩ := rows_mem py4 hy1
    generalize hr : rowAt H4 (.ref t4) = r at *
    refine x_tup et rfl ?_
    walk_at "go"
    have st5 := st4.ext x5
    have ho5 := st5.o
    have rise := rising_of (N := N) (b := 0) (ok.perm pm4) srt4 (fun r hr => ((ok.perm pm4).pos r hr).1) (Int.natCast_nonneg N)
    obtain ⟨i1, i2, i3, i4⟩ := gaps_in rise (fun r hr => ((ok.perm pm4).pos r hr).2.1) hin
    obtain ⟨a, ha⟩ := Int.eq_ofNat_of_zero_le i1
    obtain ⟨w, hw⟩ := Int.eq_ofNat_of_zero_le (show 0 ≤ wideOf m by omega)
    walk_at "go"
    rw [ha, hw]
    refine sp_lay ap st5 (by omega) (by omega) (fun z => ?_) (by omega) fun H6 x6 s6 => ?_
    · obtain ⟨r', hr', e⟩ := List.mem_map.mp z
      have d := i4 r' (pm4.mem_iff.mpr hr')
      have p := ok.pos r' hr'
      omega
    walk_at "go"
    refine q a w H6 hw.symm ⟨s4, r.2, pm4, srt4, ?_, by omega⟩ ((((x1.trans x2).trans (x3.trans x4)).trans x5).up.trans x6) s6
    rw [← ha]
    exact hin
end
end Hd

namespace Hd
open PySem PySem.Spec PyProof.Rows L2 Rw
section
variable {K : PySem.W.Frag} {M : Addr → Prop} {H : Hp} {Q : VK} {E : XK} {n : Nat}
def SizeOk (N : Nat) : Prop := (16 ≤ N ∧ N ≤ 512) ∨ N = 20000
theorem none_of {H H2 : Hp} {M : Addr → Prop} {b : Addr} (x : Ext M H H2) (m : ¬ M b) (z : H2 b = none) : H b = none := by
  cases hh : H b with
  | none => rfl
  | some o => rw [x _ _ m hh] at z; cases z
theorem sp_init {d dx : Addr} {N : Nat} (hd : H d = some (.ins (He.ga K "Store") dx [])) (hN : SizeOk N)
    (q : ∀ wd ba ca H2, H wd = none → H ba = none → H ca = none → Apart d wd ba ca → Ext (at1 d) H H2 → StoreR K H2 d dx wd ba ca N [] (row N fun _ => .non) (row N fun _ => .non) → Q .non H2) : lev K es (n + 2) ("Store", some "__init__") [.ref d, .int (N : Nat)] H Q E := by
  refine lev_in (en := e_StoreU_initU) rfl rfl ?_
  dsimp only [e_StoreU_initU, D_StoreU_initU, cn0, Cn.blk]
  have fin : ∀ {σ : L2.St} {D : Ends}, σ = [some (.ref d), some (.int (N : Nat))] → (∀ σ H, D.nx σ H = Q .non H) → tSeq (sAttr K fa (tVar 0) (tVar 1) "many_places") (tSeq (sAttr K fa (tVar 0) tDNewK "wide_by_begin") (tSeq (sAttr K fa (tVar 0) (tOp rMulU (tLst (tCons (tC .non) tNil)) (tVar 1)) "begin_at") (tSeq (sAttr K fa (tVar 0) (tOp rMulU (tLst (tCons (tC .non) tNil)) (tVar 1)) "cell_at") tNext))) D σ H := by
    rintro σ D rfl hD
    have hn : N ≤ 1000000 := by rcases hN with z | z <;> omega
    walk_at "go"
    refine a_put hd rfl rfl (Nat.le_of_ble_eq_true rfl) fun H1 x1 e1 => ?_
    walk_at "go"
    refine e_dnew fun wd H2 nw x2 ew => ?_
    have e2 := x2 _ _ noM_not e1
    walk_at "go"
    refine a_put e2 rfl rfl (Nat.le_of_ble_eq_true rfl) fun H3 x3 e3 => ?_
    have wn : ¬ at1 d wd := fun z => by rw [show wd = d from z, e1] at nw; cases nw
    have ew3 := x3 _ _ wn ew
    walk_at "go"
    intro l1 H4 n1 x4 el1
    walk_at "go"
    refine v_rep el1 hn fun ba H5 nb x5 eb => ?_
    have e5 := x5 _ _ noM_not (x4 _ _ noM_not e3)
    have ew5 := x5 _ _ noM_not (x4 _ _ noM_not ew3)
    have x45 := x4.trans x5
    walk_at "go"
    refine a_put e5 rfl rfl (Nat.le_of_ble_eq_true rfl) fun H6 x6 e6 => ?_
    have bn : ¬ at1 d ba := fun z => by rw [show ba = d from z, x4 _ _ noM_not e3] at nb; cases nb
    have bw : ba ≠ wd := fun z => by rw [z, x4 _ _ noM_not ew3] at nb; cases nb
    have eb6 := x6 _ _ bn eb
    have ew6 := x6 _ _ wn ew5
    walk_at "go"
    intro l2 H7 n2 x7 el2
    walk_at "go"
    refine v_rep el2 hn fun ca H8 nc x8 ec => ?_
    have e8 := x8 _ _ noM_not (x7 _ _ noM_not e6)
    have eb8 := x8 _ _ noM_not (x7 _ _ noM_not eb6)
    have ew8 := x8 _ _ noM_not (x7 _ _ noM_not ew6)
    have cn : ¬ at1 d ca := fun z => by rw [show ca = d from z, x7 _ _ noM_not e6] at nc; cases nc
    have cw : ca ≠ wd := fun z => by rw [z, x7 _ _ noM_not ew6] at nc; cases nc
    have cb : ca ≠ ba := fun z => by rw [z, x7 _ _ noM_not eb6] at nc; cases nc
    walk_at "go"
    refine a_put e8 rfl rfl (Nat.le_of_ble_eq_true rfl) fun H9 x9 e9 => ?_
    walk_at "go"
    rw [hD]
    have y4 : Ext (at1 d) H H4 := (x1.trans x2.up).trans (x3.trans x4.up)
    have y7 : Ext (at1 d) H H7 := (y4.trans x5.up).trans (x6.trans x7.up)
    exact q wd ba ca H9 (none_of x1 wn nw) (none_of y4 bn nb) (none_of y7 cn nc) ⟨fun z => wn z.symm, fun z => bn z.symm, fun z => cn z.symm, bw.symm, cw.symm, cb.symm⟩ ((y7.trans x8.up).trans x9) ⟨e9, x9 _ _ wn ew8, x9 _ _ bn eb8, x9 _ _ cn ec⟩
  walk_at "go"
  refine sp_whole (M := noM) .int ?_
  dsimp only [isWhole]
  walk_at "go"
  refine i_dec (fun h1 => ?_) fun h1 => ?_
  · walk_at "go"
    refine i_ndec (fun h2 => ?_) fun h2 => ?_
    · walk_at "go"
      refine i_ndec (fun h3 => ?_) fun h3 => ?_
      · rcases hN with z | z <;> omega
      · exact fin rfl fun _ _ => rfl
    · exact fin rfl fun _ _ => rfl
  · walk_at "go"
    rcases hN with z | z <;> omega
end
end Hd

namespace Hd
open PySem PySem.Spec PyProof.Rows L2 Rw
section
variable {K : PySem.W.Frag} {M : Addr → Prop} {H : Hp} {Q : VK} {E : XK} {n : Nat}
theorem sorted_uniq : ∀ {as bs : Rms}, as.Perm bs → as.Pairwise (fun r t => r.1 < t.1) → bs.Pairwise (fun r t => r.1 < t.1) → as = bs
  | [], bs, p, _, _ => (List.Perm.eq_nil p.symm).symm
  | a :: as, [], p, _, _ => absurd p.length_eq (by simp)
  | a :: as, b :: bs, p, ha, hb => by
    have ha' := List.pairwise_cons.mp ha
    have hb' := List.pairwise_cons.mp hb
    have e : a = b := by
      rcases List.mem_cons.mp (p.mem_iff.mp (List.mem_cons_self (a := a) (l := as))) with e | h1
      · exact e
      · rcases List.mem_cons.mp (p.mem_iff.mpr (List.mem_cons_self (a := b) (l := bs))) with e | h2
        · exact e.symm
        · have := ha'.1 b h2
          have := hb'.1 a h1
          omega
    subst e
    rw [sorted_uniq p.cons_inv ha'.2 hb'.2]
theorem strict_of {N : Int} {rs ss : Rms} (ok : RoomsOk N rs) (p : ss.Perm rs) (s : (ss.map (·.1)).Pairwise (· ≤ ·)) : ss.Pairwise fun r t => r.1 < t.1 := by
  have nd := (ok.perm p).nodup
  have s1 := List.pairwise_map.mp s
  have n1 := List.pairwise_map.mp nd
  exact (s1.and n1).imp fun {r t} ⟨h1, h2⟩ => by omega
theorem order_uniq {N : Int} {rs ss tt : Rms} (ok : RoomsOk N rs) (p : ss.Perm rs) (s : (ss.map (·.1)).Pairwise (· ≤ ·)) (p2 : tt.Perm rs) (s2 : (tt.map (·.1)).Pairwise (· ≤ ·)) : ss = tt := sorted_uniq (p.trans p2.symm) (strict_of ok p s) (strict_of ok p2 s2)
/-! ### the law's helpers -/
def Pot (H : Hp) (p : Addr) : Prop := ∃ a b : Int, H p = some (.lst [.int a, .int b]) ∧ 0 ≤ b ∧ b < 2 ^ 33
theorem Pot.ne {p d : Addr} (h : Pot H p) (hd : H d = none) : ¬ at1 p d := fun e => by
  obtain ⟨a, b, e2, _⟩ := h
  have e : d = p := e
  rw [e, e2] at hd
  cases hd
theorem Pot.ext {p : Addr} {H2 : Hp} {M : Addr → Prop} (h : Pot H p) (m : ¬ M p) (x : Ext M H H2) : Pot H2 p := by
  obtain ⟨a, b, e, r⟩ := h
  exact ⟨a, b, x p _ m e, r⟩
theorem Pot.new {p : Addr} {H2 : Hp} (h : Pot H p) (x : Ext noM H H2) : Pot H2 p := h.ext noM_not x
theorem sp_lcell {a : Addr} {ns : List Int} {k : Nat} (hs : SqL K H a (ns.map V.int)) (q : ∀ i, Q (.int i) H) : lev K es (n + 1) ("_law_cell", none) [.ref a, .int (k : Nat)] H Q E := by
  refine lev_in (en := e__law_cell) rfl rfl ?_
  dsimp only [e__law_cell, D__law_cell, cn0, Cn.blk]
  walk_at "go"
  refine v_lenQ hs ?_
  walk_at "go"
  rw [List.length_map]
  refine i_dec (fun h => ?_) fun h => ?_
  · walk_at "go"
    have hk : k < ns.length := by omega
    have e : (ns.map V.int)[k]? = some (.int ns[k]) := by rw [List.getElem?_map, List.getElem?_eq_getElem hk]; rfl
    refine v_ixQ hs (atN e) ?_
    exact q _
  · walk_at "go"
    exact q 0
theorem sp_pot {i : Int} (q : ∀ p H2, H p = none → Ext noM H H2 → Pot H2 p → Q (.ref p) H2) : lev K es (n + 1) ("_law_pot", none) [.int i] H Q E := by
  refine lev_in (en := e__law_pot) rfl rfl ?_
  dsimp only [e__law_pot, D__law_pot, cn0, Cn.blk]
  walk_at "go"
  refine v_pow ⟨by decide, by decide, by decide⟩ ?_
  walk_at "go"
  refine v_mod (by decide) ?_
  walk_at "go"
  intro p H2 np x e
  have g1 := Int.emod_nonneg (if i < 0 then -i else i) (b := 2147483629) (by decide)
  have g2 := Int.emod_lt_of_pos (if i < 0 then -i else i) (b := 2147483629) (by decide)
  exact q _ _ np x ⟨_, _, e, by omega, by omega⟩
theorem sp_draw {p : Addr} {m : Int} (h : Pot H p) (hm : 0 < m) (hl : m.natAbs.log2 < 9000) (q : ∀ d H2, 0 ≤ d → d < m → Ext (at1 p) H H2 → Pot H2 p → Q (.int d) H2) : lev K es (n + 1) ("_law_draw", none) [.ref p, .int m] H Q E := by
  refine lev_in (en := e__law_draw) rfl rfl ?_
  dsimp only [e__law_draw, D__law_draw, cn0]
  obtain ⟨a, b, e, hb, hb2⟩ := h
  have mp : at1 p p := rfl
  walk_at "go"
  refine i_dec (fun h => ?_) fun h => ?_ <;> walk_at "go"
  · refine v_divmod ⟨hm, hl⟩ fun t H2 ht x2 et => ?_
    have e2 := x2 p _ noM_not e
    walk_at "go"
    refine x_putL mp e2 (j := 0) rfl fun H3 x3 e3 => ?_
    walk_at "go"
    exact q _ _ (Int.emod_nonneg _ (by omega)) (Int.emod_lt_of_pos _ hm) (x2.up.trans x3) ⟨_, _, e3, hb, hb2⟩
  · refine v_mul (.inl (by constructor <;> omega)) ?_
    walk_at "go"
    refine v_mod (by decide) ?_
    walk_at "go"
    refine x_putL mp e (j := 1) rfl fun H3 x3 e3 => ?_
    have g1 := Int.emod_nonneg (b * 48271 + 11) (b := 2147483647) (by decide)
    have g2 := Int.emod_lt_of_pos (b * 48271 + 11) (b := 2147483647) (by decide)
    walk_at "go"
    refine v_mul (.inl (by constructor <;> omega)) ?_
    walk_at "go"
    refine v_mod (by decide) ?_
    walk_at "go"
    refine v_div ⟨by decide, by decide⟩ ?_
    walk_at "go"
    refine v_mod hm ?_
    walk_at "go"
    exact q _ _ (Int.emod_nonneg _ (by omega)) (Int.emod_lt_of_pos _ hm) x3 ⟨_, _, e3, g1, by omega⟩
theorem sp_lwide {m : Int} (h2 : m ≤ 32) (q : ∀ H2, Ext noM H H2 → Q (.int (wideOf m)) H2) : lev K es (n + 1) ("_law_wide", none) [.int m] H Q E := by
  refine lev_in (en := e__law_wide) rfl rfl ?_
  dsimp only [e__law_wide, D__law_wide, cn0, Cn.blk]
  walk_at "go"
  refine i_seqL ?_
  walk_at "go"
  intro l H1 nl x1 el
  refine j_ref el ?_
  refine lc_gen (xs := widesL.map V.int) (fun x => [some (.int m), some x]) (fun x => match x with | .int w => decide (m ≤ w) | _ => false) id (fun P hP => tells_lst fun k H' p => .inl (.inl (hP k H' p _ _ noM_not el))) (by decide) ?_ ?_ (fun H' x R hx _ hR => ?_) (fun H' x R _ _ _ hR => ?_) fun d H' hd x' e => ?_
  · exact fun _ _ => rfl
  · exact fun H' x R _ _ hR => hR
  · obtain ⟨w, hw, rfl⟩ := List.mem_map.mp hx
    walk_at "go"
    exact hR
  · walk_at "go"
    exact hR
  · walk_at "go"
    obtain ⟨r, er⟩ := wides_some h2
    have e2 : (((widesL.map V.int).filter fun x => match x with | .int w => decide (m ≤ w) | _ => false).map id) = .int (wideOf m) :: r.map V.int := by
      rw [List.map_id, List.filter_map]
      show ((widesL.filter fun w => decide (m ≤ w)).map V.int) = _
      rw [er]
      rfl
    rw [e2] at e
    refine v_ixL e at0 ?_
    exact q _ (x1.trans x')
theorem sp_held {d : Addr} {rs : Rms} (hw : H d = some (.dK (kvsOf rs))) (nd : (rs.map (·.1)).Nodup) (hz : rs.length < sizeLine)
    (q : ∀ l H2 ss, ss.Perm rs → (ss.map (·.1)).Pairwise (· ≤ ·) → H l = none → Ext noM H H2 → RowsAt H2 l ss → Q (.ref l) H2) : lev K es (n + 1) ("_law_held_rows", none) [.ref d] H Q E := by
  refine lev_in (en := e__law_held_rows) rfl rfl ?_
  dsimp only [e__law_held_rows, D__law_held_rows, cn0, Cn.blk]
  walk_at "go"
  refine i_seqL ?_
  walk_at "go"
  refine v_sortU (.inl hw) kvs_keys fun ys p H1 hp hs np x1 e1 => ?_
  refine j_ref e1 ?_
  refine lc_rel (fun x => [some (.ref d), some x]) (fun _ => true) (fun d H' x y => ∃ i, x = .int i ∧ PairAt d H' (i, widOf rs i) y) (fun d H1 H2 x y x2 ⟨i, hx, t, hy, ht, e⟩ => ⟨i, hx, t, hy, ht, x2 _ _ ht e⟩) (fun P hP => tells_lst fun k H' p => .inl (.inl (hP k H' p _ _ noM_not e1))) ?_ ?_ ?_ ?_ (fun d H' x R hx _ xe hd hR => ?_) fun d' H' zs hd x' e pz => ?_
  · rw [List.length_map, hp.length_eq, List.length_map]
    exact hz
  · exact fun _ _ => rfl
  · exact fun H' x R _ _ hR => hR
  · exact fun H' x R hx _ hR => hR
  · obtain ⟨i, hi, rfl⟩ := List.mem_map.mp hx
    have hw' := xe _ _ noM_not (x1 _ _ noM_not hw)
    walk_at "go"
    refine v_ixD (k := .inl i) hw' (kvs_val (hp.mem_iff.mp hi)) ?_
    walk_at "go"
    intro t H2 nt x2 et
    refine hR _ _ x2 ⟨i, rfl, t, rfl, fun z => hd (by rw [← z]; exact nt), et⟩
  · refine q d' H' (ys.map fun b => (b, widOf rs b)) (sort_rows nd hp) (by rw [sort_keys]; exact hs) (none_of x1 noM_not hd) (x1.trans x') ⟨zs, e, ?_⟩
    rw [List.filter_eq_self.mpr fun _ _ => rfl] at pz
    clear e hs hp e1
    induction ys generalizing zs with
    | nil =>
      cases pz
      exact .nil
    | cons y ys ih =>
      cases pz with
      | cons h1 h2 =>
        obtain ⟨i, hi, h1⟩ := h1
        cases hi
        exact .cons h1 (ih _ h2)
end
end Hd

namespace Hd
open PySem PySem.Spec PyProof.Rows L2 Rw
section
variable {K : PySem.W.Frag} {M : Addr → Prop} {H : Hp} {Q : VK} {E : XK} {n : Nat}
theorem sp_gaps {d : Addr} {N : Int} {rs : Rms} (hw : H d = some (.dK (kvsOf rs))) (nd : (rs.map (·.1)).Nodup) (hz : rs.length < 100000)
    (q : ∀ l H2 ss, ss.Perm rs → (ss.map (·.1)).Pairwise (· ≤ ·) → H l = none → Ext noM H H2 → RowsAt H2 l (gaps 0 (ss ++ [(N, 0)])) → Q (.ref l) H2) : lev K es (n + 2) ("_law_gaps", none) [.ref d, .int N] H Q E := by
  refine lev_in (en := e__law_gaps) rfl rfl ?_
  dsimp only [e__law_gaps, D__law_gaps, cn0, Cn.blk]
  have sz : (200000 : Nat) < sizeLine := by decide
  walk_at "go"
  intro f H1 nf x1 ef
  have hw1 := x1 _ _ noM_not hw
  walk_at "go"
  refine i_seqL ?_
  walk_at "go"
  refine sp_held hw1 nd (Nat.lt_trans hz (by decide)) fun l H2 ss pm srt nl x2 rl => ?_
  obtain ⟨ys, el, py⟩ := rl
  walk_at "go"
  intro t0 H3 nt0 x3 et0
  walk_at "go"
  intro l2 H4 nl2 x4 el2
  refine v_addL (x4 _ _ noM_not (x3 _ _ noM_not el)) el2 ?_ fun p H5 np x5 e5 => ?_
  · rw [← paired_len py, pm.length_eq]
    show _ + 1 ≤ _
    omega
  refine j_ref e5 ?_
  have x25 : Ext noM H2 H5 := x3.trans (x4.trans x5)
  have ef5 : H5 f = some (.lst []) := x25 _ _ noM_not (x2 _ _ noM_not ef)
  have rows : Paired (fun (r : Int × Int) (y : V) => ∃ t, y = .ref t ∧ H5 t = some (.tup [.int r.1, .int r.2])) (ss ++ [(N, 0)]) (ys ++ [.ref t0]) :=
    Paired.snoc (paired_map py fun r y ⟨t, ht, _, et⟩ => ⟨t, ht, x25 _ _ noM_not et⟩) ⟨t0, rfl, x5 _ _ noM_not (x4 _ _ noM_not et0)⟩
  have len : (ys ++ [V.ref t0]).length = rs.length + 1 := by rw [← paired_len rows, List.length_append, pm.length_eq]; rfl
  refine for_go (fun k σ H' => Ext (at1 f) H5 H' ∧ RowsAt H' f (((ss ++ [(N, 0)]).take k).foldl gstep ([], 0)).1 ∧ ∃ v3 v4 : Option V, σ = [some (.ref d), some (.int N), some (.ref f), some (.int (((ss ++ [(N, 0)]).take k).foldl gstep ([], 0)).2), v3, v4])
    (tells_lst fun k H' ⟨σ, hx, _⟩ => .inl (.inl (hx _ _ (ne_of e5 ef5 (by intro z; injection z with z; simp at z)) e5))) ⟨Ext.rfl, ⟨[], ef5, .nil⟩, _, _, rfl⟩ (fun k σ H' x hP hx => ?_) fun σ H' hP => ?_
  · obtain ⟨xe, ⟨zs, ez, pz⟩, v3, v4, rfl⟩ := hP
    obtain ⟨r, er, t, rfl, et⟩ := paired_at rows hx
    have nt : t ≠ f := ne_of et ef5 (by intro z; injection z)
    have et' := xe _ _ nt et
    have hk : k < rs.length + 1 := by
      have := (List.getElem?_eq_some_iff.mp hx).1
      omega
    have hg := gfold_take er (st := ([], 0))
    have hgl : zs.length ≤ k := by
      rw [← paired_len pz]
      have z := gfold_len ((ss ++ [(N, 0)]).take k) ([], 0)
      have z2 := List.length_take_le k (ss ++ [(N, 0)])
      simp only [List.length_nil] at z
      omega
    refine x_tup et' rfl ?_
    walk_at "go"
    rw [hg]
    generalize ((ss ++ [(N, 0)]).take k).foldl gstep ([], 0) = st at pz hg
    refine i_dec (fun hd => ?_) fun hd => ?_ <;> walk_at "go"
    · intro u H6 nu x6 eu
      walk_at "go"
      refine v_app (x6 _ _ noM_not ez) (by omega) fun H7 _ x7 e7 => ?_
      walk_at "go"
      refine ⟨(xe.trans x6.up).trans (x7 _ rfl), ?_, _, _, rfl⟩
      have nuf : u ≠ f := fun z => by rw [z, ez] at nu; cases nu
      have gs : (gstep st r).1 = st.1 ++ [(st.2, r.1 - st.2)] := if_pos hd
      rw [gs]
      refine ⟨_, e7, Paired.snoc (paired_map pz fun a y ⟨t, ht, hn, et⟩ => ⟨t, ht, hn, x7 (at1 f) rfl _ _ hn (x6 _ _ noM_not et)⟩) ⟨u, rfl, nuf, x7 (at1 f) rfl _ _ nuf eu⟩⟩
    · have gs : (gstep st r).1 = st.1 := if_neg hd
      refine ⟨xe, ?_, _, _, rfl⟩
      rw [gs]
      exact ⟨zs, ez, pz⟩
  · obtain ⟨xe, rw_, v3, v4, rfl⟩ := hP
    rw [len, ← pm.length_eq, List.take_of_length_le (by rw [List.length_append]; exact Nat.le_refl _), gfold, List.nil_append] at rw_
    walk_at "go"
    exact q f H' ss pm srt nf ((((x1.trans x2).trans x25).up.trans xe).drop (p := f) fun q z => by rw [show q = f from z]; exact nf) rw_
theorem sp_longest {s dx wd ba ca : Addr} {N : Int} {rs : Rms} {bl cl : List V} (h : StoreR K H s dx wd ba ca N rs bl cl) (nd : (rs.map (·.1)).Nodup) (hz : rs.length < 50000)
    (q : ∀ L H2 ss, ss.Perm rs → (ss.map (·.1)).Pairwise (· ≤ ·) → (0 < L → ∃ g ∈ gaps 0 (ss ++ [(N, 0)]), g.2 = L) → Ext noM H H2 → Q (.int L) H2) : lev K es (n + 3) ("_law_longest", none) [.ref s] H Q E := by
  refine lev_in (en := e__law_longest) rfl rfl ?_
  dsimp only [e__law_longest, D__law_longest, cn0, Cn.blk]
  have sz : (200000 : Nat) < sizeLine := by decide
  have ho := h.o
  walk_at "go"
  intro l0 H1 n0 x1 e0
  have s1 := h.ext x1
  have ho1 := s1.o
  walk_at "go"
  refine i_seqL ?_
  walk_at "go"
  refine sp_stretches s1 nd (by omega) fun l H2 ss pm srt nl x2 ⟨ys, el, py⟩ => ?_
  have lny : ys.length ≤ 50001 := by
    have := gaps_len 0 (ss ++ [(N, 0)])
    rw [← paired_len py]
    rw [List.length_append, pm.length_eq, List.length_singleton] at this
    omega
  refine j_ref el ?_
  refine lc_gen (fun x => [some (.ref s), some (.int (rowAt H2 x).1), some (.int (rowAt H2 x).2)]) (fun _ => true) (fun x => .int (rowAt H2 x).2) (fun P hP => tells_lst fun k H' p => .inl (.inl (hP k H' p _ _ noM_not el))) (by omega) ?_ (fun H' x R hx xe hR => ?_) ?_ (fun H' x R hx _ xe hR => ?_) fun d H3 nd3 x3 ed => ?_
  · exact fun _ _ => rfl
  · obtain ⟨t, rfl, et, _⟩ := rows_mem py hx
    refine x_tup (xe _ _ noM_not et) rfl ?_
    walk_at "go"
    exact hR
  · exact fun H' x R _ _ hR => hR
  · walk_at "go"
    exact hR
  have ems : ((ys.filter fun _ => true).map fun x => V.int (rowAt H2 x).2) = ((gaps 0 (ss ++ [(N, 0)])).map (·.2)).map V.int := by
    rw [List.filter_eq_self.mpr fun _ _ => rfl, ← rows_map py, List.map_map, List.map_map]
    rfl
  rw [ems] at ed
  have gl : (gaps 0 (ss ++ [(N, 0)])).length ≤ 50001 := by rw [paired_len py]; exact lny
  refine v_addL (x3 _ _ noM_not (x2 _ _ noM_not e0)) ed ?_ fun p H4 np x4 e4 => ?_
  · rw [List.length_map, List.length_map]
    show 1 + _ ≤ _
    omega
  walk_at "go"
  have e4 : H4 p = some (.lst ((0 :: (gaps 0 (ss ++ [(N, 0)])).map (·.2)).map V.int)) := e4
  refine ⟨p, _, rfl, .inl (.inl e4), by simp, fun m hm _ => ?_⟩
  refine q m H4 ss pm srt (fun h0 => ?_) (x1.trans (x2.trans (x3.trans x4)))
  rcases List.mem_cons.mp hm with e | hm
  · omega
  · obtain ⟨g, hg, e⟩ := List.mem_map.mp hm
    exact ⟨g, hg, e⟩
theorem sp_lspoilt {l : Addr} {xs : List V} (e : H l = some (.lst xs)) (hz : xs.length < 100000) (q : ∀ H2, Ext (at1 l) H H2 → Q .non H2) : lev K es (n + 1) ("_law_spoilt", none) [.ref l] H Q E := by
  refine lev_in (en := e__law_spoilt) rfl rfl ?_
  dsimp only [e__law_spoilt, D__law_spoilt, cn0, Cn.blk]
  have sz : (200000 : Nat) < sizeLine := by decide
  walk_at "go"
  refine v_app e (by omega) fun H1 _ x1 e1 => ?_
  walk_at "go"
  intro t H2 nt x2 et
  walk_at "go"
  refine x_putL (M := at1 l) (j := 0) rfl (x2 _ _ noM_not e1) ?_ fun H3 x3 e3 => ?_
  · rw [List.length_append]
    exact ixN_nat (k := 0) (by simp)
  walk_at "go"
  exact q H3 (((x1 (at1 l) rfl).trans x2.up).trans x3)
end
end Hd

namespace Hd
open PySem PySem.Spec PyProof.Rows L2 Rw
section
variable {K : PySem.W.Frag} {M : Addr → Prop} {H H2 : Hp} {Q : VK} {E : XK} {n : Nat}
/-! ### what is shown -/
def IntOk (i : Int) : Prop := i.natAbs < 10 ^ 12
theorem int_show {i : Int} (h : IntOk i) : (PyData.int i).showable = true ∧ (PyData.int i).leavesShort 13 = true ∧ (PyData.int i).weight ≤ 41 := by
  have hl : i.natAbs.log2 < 40 ∨ i.natAbs = 0 := by
    by_cases h0 : i.natAbs = 0
    · exact .inr h0
    · left
      exact (Nat.log2_lt h0).mpr (Nat.lt_of_lt_of_le h (by decide))
  refine ⟨?_, ?_, ?_⟩
  · simp only [PyData.showable, decide_eq_true_eq]
    rcases hl with z | z
    · omega
    · rw [z]; decide
  · simp only [PyData.leavesShort, decide_eq_true_eq]
    show (Str.ofString (toString i)).length ≤ 13
    rw [PySem.ofString_length]
    exact int_text_length_le10 (k := 12) (by decide) h
  · simp only [PyData.weight]
    split
    · omega
    · rcases hl with z | z
      · omega
      · rw [z]; decide
/-- of few signs: repr may be asked for it -/
structure Shw (d : PyData) (w : Nat) : Prop where
  s : d.showable = true
  l : d.leavesShort 13 = true
  w : d.weight ≤ w
  d : d.depth ≤ 3
theorem Shw.fits {d : PyData} {w : Nat} (h : Shw d w) (hw : w ≤ 1000000) : d.shown.length ≤ sizeLine := PyData.shown_fits (B := 13) (by decide) (by decide) h.l (Nat.le_trans h.w (Nat.le_trans hw (by decide)))
def rowD (r : Int × Int) : PyData := .tuple [.int r.1, .int r.2]
def rowsD (rs : Rms) : PyData := .list (rs.map rowD)
def RmsI (rs : Rms) : Prop := ∀ r ∈ rs, IntOk r.1 ∧ IntOk r.2
theorem row_shw {r : Int × Int} (h : IntOk r.1 ∧ IntOk r.2) : (rowD r).showable = true ∧ (rowD r).leavesShort 13 = true ∧ (rowD r).weight ≤ 84 ∧ (rowD r).depth ≤ 1 := by
  obtain ⟨a1, a2, a3⟩ := int_show h.1
  obtain ⟨b1, b2, b3⟩ := int_show h.2
  refine ⟨?_, ?_, ?_, ?_⟩
  · simp only [rowD, PyData.showable, PyData.showableAll] at *
    simp only [a1, b1, Bool.and_self]
  · simp only [rowD, PyData.leavesShort, PyData.leavesShortAll] at *
    simp only [a2, b2, Bool.and_self]
  · simp only [rowD, PyData.weight, PyData.weightAll] at *
    omega
  · simp [rowD, PyData.depth, PyData.depthAll]
theorem rows_shw : ∀ {rs : Rms}, RmsI rs → PyData.showableAll (rs.map rowD) = true ∧ PyData.leavesShortAll 13 (rs.map rowD) = true ∧ PyData.weightAll (rs.map rowD) ≤ 85 * rs.length ∧ PyData.depthAll (rs.map rowD) ≤ 1
  | [], _ => ⟨by simp [PyData.showableAll], by simp [PyData.leavesShortAll], by simp [PyData.weightAll], by simp [PyData.depthAll]⟩
  | r :: rs, h => by
    obtain ⟨a1, a2, a3, a4⟩ := row_shw (h r List.mem_cons_self)
    obtain ⟨b1, b2, b3, b4⟩ := rows_shw (rs := rs) fun r hr => h r (List.mem_cons_of_mem _ hr)
    rw [List.map_cons]
    refine ⟨by simp only [PyData.showableAll, a1, b1, Bool.and_self], by simp only [PyData.leavesShortAll, a2, b2, Bool.and_self], ?_, ?_⟩
    · simp only [PyData.weightAll, List.length_cons]
      omega
    · simp only [PyData.depthAll]
      omega
theorem rowsD_shw {rs : Rms} (h : RmsI rs) : Shw (rowsD rs) (85 * rs.length) := by
  obtain ⟨b1, b2, b3, b4⟩ := rows_shw h
  exact ⟨by simpa only [rowsD, PyData.showable] using b1, by simpa only [rowsD, PyData.leavesShort] using b2, by simpa only [rowsD, PyData.weight] using b3, by simp only [rowsD, PyData.depth]; omega⟩
theorem rows_dp {l : Addr} {rs : Rms} (h : RowsAt H l rs) : Dp K H (.ref l) (rowsD rs) := by
  obtain ⟨ys, e, p⟩ := h
  refine .lst (.inl (.inl e)) ?_
  clear e
  induction p with
  | nil => exact .nil
  | cons h _ ih =>
    obtain ⟨t, rfl, _, et⟩ := h
    exact .cons (.tup (.inl (.inl et)) (.cons (.int _) (.cons (.int _) .nil))) ih
/-! ### cells -/
inductive CellV (M : Addr → Prop) (H : Hp) : V → Prop
  | non : CellV M H .non
  | int {i : Int} (h0 : 0 ≤ i) (h1 : i ≤ 999999999999) : CellV M H (.int i)
  | to {t : Addr} {i : Int} (m : ¬ M t) (e : H t = some (.tup [.str "to", .int i])) (h0 : 0 ≤ i) (h1 : i ≤ 999999999999) : CellV M H (.ref t)
  | thing {t : Addr} {i j : Int} (m : ¬ M t) (e : H t = some (.tup [.str "thing", .int i, .int j])) (h0 : 1 ≤ i) (h1 : i ≤ 999999999999) (h2 : 0 ≤ j) (h3 : j ≤ 30) : CellV M H (.ref t)
theorem CellV.ext {v : V} (h : CellV M H v) (x : Ext M H H2) : CellV M H2 v := by
  cases h with
  | non => exact .non
  | int h0 h1 => exact .int h0 h1
  | to m e h0 h1 => exact .to m (x _ _ m e) h0 h1
  | thing m e h0 h1 h2 h3 => exact .thing m (x _ _ m e) h0 h1 h2 h3
theorem CellV.kn {v : V} (h : CellV M H v) : Kn K M H v := by
  cases h with
  | non => exact .non
  | int h0 h1 => exact .int
  | to m e h0 h1 =>
    refine .tup m e ?_
    simp only [List.mem_cons, List.not_mem_nil, or_false]
    rintro x (rfl | rfl)
    · exact .str (by decide +kernel)
    · exact .int
  | thing m e h0 h1 h2 h3 =>
    refine .tup m e ?_
    simp only [List.mem_cons, List.not_mem_nil, or_false]
    rintro x (rfl | rfl | rfl)
    · exact .str (by decide +kernel)
    · exact .int
    · exact .int
theorem CellV.cell {v : V} (h : CellV M H v) : isCell H v = true := by
  cases h with
  | non => rfl
  | int h0 h1 => simp [isCell, isNum, h0, h1]
  | to m e h0 h1 => simp [isCell, e, isNum, h0, h1]
  | @thing t i j m e h0 h1 h2 h3 =>
    have : 0 ≤ i := by omega
    have n0 : i ≠ 0 := by omega
    simp [isCell, e, isNum, nz, few, h1, h2, h3, this, n0]
theorem CellV.dp {v : V} (h : CellV M H v) : ∃ d, Dp K H v d ∧ Shw d 200 := by
  have ok : ∀ {i : Int}, 0 ≤ i → i ≤ 999999999999 → IntOk i := fun {i} a b => by
    unfold IntOk
    omega
  cases h with
  | non => exact ⟨_, .non, rfl, rfl, by simp [PyData.weight], by simp [PyData.depth]⟩
  | int h0 h1 =>
    obtain ⟨a1, a2, a3⟩ := int_show (ok h0 h1)
    exact ⟨_, .int _, a1, a2, by omega, by simp [PyData.depth]⟩
  | @to t i m e h0 h1 =>
    obtain ⟨a1, a2, a3⟩ := int_show (ok h0 h1)
    refine ⟨_, .tup (.inl (.inl e)) (.cons (.str _) (.cons (.int _) .nil)), ?_, ?_, ?_, ?_⟩
    · simp only [PyData.showable, PyData.showableAll] at *
      simp only [a1, Bool.and_self]
    · have s1 : (PyData.str "to").leavesShort 13 = true := by decide +kernel
      simp only [PyData.leavesShort, PyData.leavesShortAll] at *
      simp only [a2, s1, Bool.and_self]
    · have s1 : (PyData.str "to").weight ≤ 10 := by decide +kernel
      simp only [PyData.weight, PyData.weightAll] at *
      omega
    · simp [PyData.depth, PyData.depthAll]
  | @thing t i j m e h0 h1 h2 h3 =>
    obtain ⟨a1, a2, a3⟩ := int_show (ok (by omega) h1)
    obtain ⟨b1, b2, b3⟩ := int_show (ok h2 (by omega))
    refine ⟨_, .tup (.inl (.inl e)) (.cons (.str _) (.cons (.int _) (.cons (.int _) .nil))), ?_, ?_, ?_, ?_⟩
    · simp only [PyData.showable, PyData.showableAll] at *
      simp only [a1, b1, Bool.and_self]
    · have s1 : (PyData.str "thing").leavesShort 13 = true := by decide +kernel
      simp only [PyData.leavesShort, PyData.leavesShortAll] at *
      simp only [a2, b2, s1, Bool.and_self]
    · have s1 : (PyData.str "thing").weight ≤ 10 := by decide +kernel
      simp only [PyData.weight, PyData.weightAll] at *
      omega
    · simp [PyData.depth, PyData.depthAll]
end
end Hd

namespace Hd
open PySem PySem.Spec PyProof.Rows L2 Rw
section
variable {K : PySem.W.Frag} {M : Addr → Prop} {H H2 : Hp} {Q : VK} {E : XK} {n : Nat}
theorem at_mem {xs : List V} {d : Int} (h0 : 0 ≤ d) (h1 : d < xs.length) : ∃ v, atI xs d = some v ∧ v ∈ xs := by
  have e : d = (d.toNat : Nat) := by omega
  have hd : d.toNat < xs.length := by omega
  have z := atN (List.getElem?_eq_getElem hd)
  rw [← e] at z
  exact ⟨_, z, List.getElem_mem hd⟩
theorem sp_any {p : Addr} (h : Pot H p) (mp : M p) (mf : ∀ b, M b → H b ≠ none) (q : ∀ v H2, CellV M H2 v → Ext (at1 p) H H2 → Pot H2 p → Q v H2) : lev K es (n + 2) ("_law_any_cell", none) [.ref p] H Q E := by
  refine lev_in (en := e__law_any_cell) rfl rfl ?_
  dsimp only [e__law_any_cell, D__law_any_cell, cn0, Cn.blk]
  have fresh : ∀ {H1 : Hp} {b : Addr}, Ext (at1 p) H H1 → Pot H1 p → H1 b = none → ¬ M b := fun {H1 b} x h1 z m => by
    cases e : H b with
    | none => exact mf b m e
    | some o =>
      by_cases hb : b = p
      · obtain ⟨a1, a2, e1, _⟩ := h1
        rw [hb, e1] at z
        cases z
      · rw [x b o hb e] at z
        cases z
  walk_at "go"
  refine sp_draw h (by decide) (by decide) fun d H1 d0 d1 x1 h1 => ?_
  walk_at "go"
  refine sp_draw h1 (by decide) (by decide) fun f H2 f0 f1 x2 h2 => ?_
  walk_at "go"
  intro l H3 nl x3 el
  walk_at "go"
  refine sp_draw (h2.new x3) (by decide) (by decide) fun g H4 g0 g1 x4 h4 => ?_
  obtain ⟨v, ev, hv⟩ := at_mem (xs := [V.int 0, V.int 1, V.int f, V.int 999999999999]) g0 g1
  have e4 := x4 _ _ (h2.ne nl) el
  refine v_ixL e4 ev ?_
  have fi : ∃ far, v = .int far ∧ 0 ≤ far ∧ far ≤ 999999999999 := by
    simp only [List.mem_cons, List.not_mem_nil, or_false] at hv
    rcases hv with rfl | rfl | rfl | rfl
    · exact ⟨_, rfl, by decide, by decide⟩
    · exact ⟨_, rfl, by decide, by decide⟩
    · exact ⟨_, rfl, f0, by omega⟩
    · exact ⟨_, rfl, by decide, by decide⟩
  obtain ⟨far, rfl, fa0, fa1⟩ := fi
  have x : Ext (at1 p) H H4 := (x1.trans x2).trans (x3.up.trans x4)
  walk_at "go"
  refine i_dec (fun _ => ?_) fun _ => ?_
  · walk_at "go"
    exact q _ _ .non x h4
  walk_at "go"
  refine i_dec (fun _ => ?_) fun _ => ?_
  · walk_at "go"
    exact q _ _ (.int fa0 fa1) x h4
  walk_at "go"
  refine i_dec (fun _ => ?_) fun _ => ?_
  · walk_at "go"
    intro t H5 nt x5 et
    exact q _ _ (.to (fresh x h4 nt) et fa0 fa1) (x.trans x5.up) (h4.new x5)
  walk_at "go"
  refine sp_draw h4 (by decide) (by decide) fun j H5 j0 j1 x5 h5 => ?_
  walk_at "go"
  intro l2 H6 nl2 x6 el2
  walk_at "go"
  refine sp_draw (h5.new x6) (by decide) (by decide) fun k H7 k0 k1 x7 h7 => ?_
  obtain ⟨w, ew, hw⟩ := at_mem (xs := [V.int 0, V.int 1, V.int j, V.int 30]) k0 k1
  have e7 := x7 _ _ (h5.ne nl2) el2
  refine v_ixL e7 ew ?_
  have wi : ∃ c, w = .int c ∧ 0 ≤ c ∧ c ≤ 30 := by
    simp only [List.mem_cons, List.not_mem_nil, or_false] at hw
    rcases hw with rfl | rfl | rfl | rfl
    · exact ⟨_, rfl, by decide, by decide⟩
    · exact ⟨_, rfl, by decide, by decide⟩
    · exact ⟨_, rfl, j0, by omega⟩
    · exact ⟨_, rfl, by decide, by decide⟩
  obtain ⟨c, rfl, c0, c1⟩ := wi
  have x' : Ext (at1 p) H H7 := x.trans (x5.trans (x6.up.trans x7))
  walk_at "go"
  intro t H8 nt x8 et
  refine q _ _ (.thing (fresh x' h7 nt) et ?_ ?_ c0 c1) (x'.trans x8.up) (h7.new x8)
  · split <;> omega
  · split <;> omega
end
end Hd

namespace Hd
open PySem PySem.Spec PyProof.Rows L2 Rw
section
variable {K : PySem.W.Frag} {M : Addr → Prop} {H H2 : Hp} {Q : VK} {E : XK} {n : Nat}
def inRoom (rs : Rms) (j : Nat) : Prop := ∃ r ∈ rs, r.1 ≤ (j : Int) ∧ (j : Int) < r.1 + r.2
def Own7 (p s wd ba ca rd cd : Addr) : Addr → Prop := fun q => q ∈ [p, s, wd, ba, ca, rd, cd]
structure Far (p s wd ba ca rd cd : Addr) : Prop where
  ap : Apart s wd ba ca
  pn : ∀ q ∈ [s, wd, ba, ca, rd, cd], p ≠ q
  rn : ∀ q ∈ [s, wd, ba, ca, cd], rd ≠ q
  cn : ∀ q ∈ [s, wd, ba, ca], cd ≠ q
/-- the law's world: a pot, a store, the law's two dicts -/
structure W4 (K : PySem.W.Frag) (H : Hp) (p s dx wd ba ca rd cd : Addr) (N : Nat) (rs : Rms) (gb gc : Nat → V) (ks : List (Key × V)) : Prop where
  pot : Pot H p
  st : StoreR K H s dx wd ba ca N rs (row N gb) (row N gc)
  rd : H rd = some (.dK (kvsOf rs))
  cd : H cd = some (.dK ks)
structure P4 (M : Addr → Prop) (H : Hp) (N : Nat) (rs : Rms) (gb gc : Nat → V) (ks : List (Key × V)) : Prop where
  ok : RoomsOk N rs
  gb : ∀ r ∈ rs, ∀ j : Nat, r.1 ≤ (j : Int) → (j : Int) < r.1 + r.2 → gb j = .int r.1
  free : ∀ j : Nat, j < N → ¬ inRoom rs j → gc j = .non
  cell : ∀ j : Nat, j < N → CellV M H (gc j)
  keys : ∀ k ∈ ks, ∃ j : Nat, k.1 = .inl (j : Int) ∧ j < N ∧ inRoom rs j ∧ k.2 = gc j
  has : ∀ j : Nat, inRoom rs j → valV ks (.inl (j : Int)) = some (gc j)
variable {p s dx wd ba ca rd cd : Addr} {N : Nat} {rs : Rms} {gb gc : Nat → V} {ks : List (Key × V)}
theorem P4.ext (h : P4 M H N rs gb gc ks) (x : Ext M H H2) : P4 M H2 N rs gb gc ks := ⟨h.ok, h.gb, h.free, fun j hj => (h.cell j hj).ext x, h.keys, h.has⟩
theorem W4.new (h : W4 K H p s dx wd ba ca rd cd N rs gb gc ks) (x : Ext noM H H2) : W4 K H2 p s dx wd ba ca rd cd N rs gb gc ks := ⟨h.pot.new x, h.st.ext x, x _ _ noM_not h.rd, x _ _ noM_not h.cd⟩
theorem W4.draw (h : W4 K H p s dx wd ba ca rd cd N rs gb gc ks) (f : Far p s wd ba ca rd cd) (x : Ext (at1 p) H H2) (hp : Pot H2 p) : W4 K H2 p s dx wd ba ca rd cd N rs gb gc ks := by
  have ne : ∀ q ∈ [s, wd, ba, ca, rd, cd], ¬ at1 p q := fun q hq z => f.pn q hq (show q = p from z).symm
  refine ⟨hp, ⟨x _ _ (ne s (by simp)) h.st.o, x _ _ (ne wd (by simp)) h.st.w, x _ _ (ne ba (by simp)) h.st.b, x _ _ (ne ca (by simp)) h.st.c⟩, x _ _ (ne rd (by simp)) h.rd, x _ _ (ne cd (by simp)) h.cd⟩
/-- behind a deed of the store -/
theorem W4.store {rs' : Rms} {gb' gc' : Nat → V} (h : W4 K H p s dx wd ba ca rd cd N rs gb gc ks) (f : Far p s wd ba ca rd cd) (x : Ext (own3 wd ba ca) H H2) (hs : StoreR K H2 s dx wd ba ca N rs' (row N gb') (row N gc')) :
    Pot H2 p ∧ H2 rd = some (.dK (kvsOf rs)) ∧ H2 cd = some (.dK ks) := by
  have no : ∀ {q : Addr}, q ≠ wd → q ≠ ba → q ≠ ca → ¬ own3 wd ba ca q := fun {q} h1 h2 h3 z => by
    rcases z with z | z | z
    · exact h1 z
    · exact h2 z
    · exact h3 z
  exact ⟨h.pot.ext (no (f.pn _ (by simp)) (f.pn _ (by simp)) (f.pn _ (by simp))) x, x _ _ (no (f.rn _ (by simp)) (f.rn _ (by simp)) (f.rn _ (by simp))) h.rd, x _ _ (no (f.cn _ (by simp)) (f.cn _ (by simp)) (f.cn _ (by simp))) h.cd⟩
theorem own3_7 : ∀ q, own3 wd ba ca q → Own7 p s wd ba ca rd cd q := fun q z => by
  rcases z with z | z | z <;> (rw [z]; simp [Own7])
theorem at1_7p : ∀ q, at1 p q → Own7 p s wd ba ca rd cd q := fun q z => by rw [show q = p from z]; simp [Own7]
theorem at1_7r : ∀ q, at1 rd q → Own7 p s wd ba ca rd cd q := fun q z => by rw [show q = rd from z]; simp [Own7]
theorem at1_7c : ∀ q, at1 cd q → Own7 p s wd ba ca rd cd q := fun q z => by rw [show q = cd from z]; simp [Own7]
theorem at1_7a : ∀ q, at1 ca q → Own7 p s wd ba ca rd cd q := fun q z => by rw [show q = ca from z]; simp [Own7]
theorem W4.there (h : W4 K H p s dx wd ba ca rd cd N rs gb gc ks) : ∀ b, Own7 p s wd ba ca rd cd b → H b ≠ none := fun b hb z => by
  obtain ⟨a1, a2, e, _⟩ := h.pot
  simp only [Own7, List.mem_cons, List.not_mem_nil, or_false] at hb
  rcases hb with rfl | rfl | rfl | rfl | rfl | rfl | rfl
  · rw [e] at z; cases z
  · rw [h.st.o] at z; cases z
  · rw [h.st.w] at z; cases z
  · rw [h.st.b] at z; cases z
  · rw [h.st.c] at z; cases z
  · rw [h.rd] at z; cases z
  · rw [h.cd] at z; cases z
end
end Hd

namespace Hd
open PySem PySem.Spec PyProof.Rows L2 Rw
section
variable {K : PySem.W.Frag} {M : Addr → Prop} {H H2 : Hp} {Q : VK} {E : XK} {n : Nat} {N : Nat} {rs : Rms} {gb gc : Nat → V} {ks ks' : List (Key × V)}
/-- k keys from a on are new, with None -/
structure Added (ks : List (Key × V)) (a k : Nat) (ks' : List (Key × V)) : Prop where
  val : ∀ j : Nat, valV ks' (.inl (j : Int)) = if a ≤ j ∧ j < a + k then some .non else valV ks (.inl (j : Int))
  mem : ∀ z ∈ ks', z ∈ ks ∨ ∃ j : Nat, a ≤ j ∧ j < a + k ∧ z = (.inl (j : Int), .non)
  len : ks'.length ≤ ks.length + k
theorem Added.zero {a : Nat} : Added ks a 0 ks := ⟨fun j => by rw [if_neg (by omega)], fun z hz => .inl hz, Nat.le_refl _⟩
theorem Added.step {a k : Nat} (h : Added ks a k ks') (hn : valV ks (.inl ((a + k : Nat) : Int)) = none) : Added ks a (k + 1) (putK ks' (.inl ((a + k : Nat) : Int)) .non) := by
  have e : valV ks' (.inl ((a + k : Nat) : Int)) = none := by rw [h.val, if_neg (by omega)]; exact hn
  rw [putK_new _ e]
  refine ⟨fun j => ?_, fun z hz => ?_, ?_⟩
  · rw [valV_snoc _ _ _ _ e, h.val]
    by_cases c : j = a + k
    · subst c
      rw [if_pos rfl, if_pos (by omega)]
    · rw [if_neg (fun z => c (by have := Sum.inl.inj z; omega))]
      by_cases c2 : a ≤ j ∧ j < a + k
      · rw [if_pos c2, if_pos (by omega)]
      · rw [if_neg c2, if_neg (by omega)]
  · rcases List.mem_append.mp hz with m | m
    · rcases h.mem z m with m | ⟨j, h1, h2, h3⟩
      · exact .inl m
      · exact .inr ⟨j, h1, by omega, h3⟩
    · exact .inr ⟨a + k, by omega, by omega, List.mem_singleton.mp m⟩
  · have := h.len
    rw [List.length_append, List.length_singleton]
    omega
theorem fits_facts {a w : Nat} (ok : RoomsOk N rs) (f : Fits N rs a w) (w0 : 0 < w) : a + w ≤ N ∧ ∀ r ∈ rs, r.1 + r.2 ≤ (a : Int) ∨ (a : Int) + w ≤ r.1 := by
  obtain ⟨ss, len, pm, srt, hin, hw⟩ := f
  have rise := rising_of (N := N) (b := 0) (ok.perm pm) srt (fun r hr => ((ok.perm pm).pos r hr).1) (Int.natCast_nonneg N)
  obtain ⟨i1, i2, i3, i4⟩ := gaps_in rise (fun r hr => ((ok.perm pm).pos r hr).2.1) hin
  refine ⟨by omega, fun r hr => ?_⟩
  have := i4 r (pm.mem_iff.mpr hr)
  omega
theorem in_add {a w j : Nat} : inRoom (rs ++ [((a : Int), (w : Int))]) j ↔ inRoom rs j ∨ (a ≤ j ∧ j < a + w) := by
  constructor
  · rintro ⟨r, hr, h1, h2⟩
    rcases List.mem_append.mp hr with m | m
    · exact .inl ⟨r, m, h1, h2⟩
    · obtain rfl := List.mem_singleton.mp m
      right
      dsimp only at h1 h2
      omega
  · rintro (⟨r, hr, h1, h2⟩ | ⟨h1, h2⟩)
    · exact ⟨r, List.mem_append_left _ hr, h1, h2⟩
    · exact ⟨_, List.mem_append_right _ List.mem_cons_self, by dsimp only; omega, by dsimp only; omega⟩
theorem P4.add {a w : Nat} (h : P4 M H N rs gb gc ks) (f : Fits N rs a w) (w0 : 0 < w) (ad : Added ks a w ks') : P4 M H N (rs ++ [((a : Int), (w : Int))]) (fill gb a w (.int a)) gc ks' := by
  obtain ⟨h1, h2⟩ := fits_facts h.ok f w0
  have out : ∀ j, a ≤ j → j < a + w → ¬ inRoom rs j := by
    rintro j j1 j2 ⟨r, hr, r1, r2⟩
    have := h2 r hr
    omega
  refine ⟨⟨fun r hr => ?_, ?_⟩, fun r hr j j1 j2 => ?_, fun j hj hn => ?_, h.cell, fun k hk => ?_, fun j hj => ?_⟩
  · rcases List.mem_append.mp hr with m | m
    · exact h.ok.pos r m
    · obtain rfl := List.mem_singleton.mp m
      dsimp only
      omega
  · rw [List.pairwise_append]
    refine ⟨h.ok.dis, List.pairwise_singleton _ _, fun r hr t ht => ?_⟩
    obtain rfl := List.mem_singleton.mp ht
    exact h2 r hr
  · unfold fill
    rcases List.mem_append.mp hr with m | m
    · have := h2 r m
      rw [if_neg (by omega)]
      exact h.gb r m j j1 j2
    · obtain rfl := List.mem_singleton.mp m
      dsimp only at j1 j2
      rw [if_pos (by omega)]
  · exact h.free j hj fun z => hn (in_add.mpr (.inl z))
  · rcases ad.mem k hk with m | ⟨j, j1, j2, rfl⟩
    · obtain ⟨j, e1, e2, e3, e4⟩ := h.keys k m
      exact ⟨j, e1, e2, in_add.mpr (.inl e3), e4⟩
    · exact ⟨j, rfl, by omega, in_add.mpr (.inr ⟨j1, j2⟩), (h.free j (by omega) (out j j1 j2)).symm⟩
  · rw [ad.val]
    by_cases c : a ≤ j ∧ j < a + w
    · rw [if_pos c, h.free j (by omega) (out j c.1 c.2)]
    · rw [if_neg c]
      rcases in_add.mp hj with z | z
      · exact h.has j z
      · exact absurd z c
/-- a cell put at a place of a room -/
theorem P4.put {j : Nat} {v : V} (h : P4 M H N rs gb gc ks) (hj : inRoom rs j) (hv : CellV M H v) : P4 M H N rs gb (put1 gc j v) (putK ks (.inl (j : Int)) v) := by
  have some_ : (valV ks (.inl (j : Int))).isSome = true := by rw [h.has j hj]; rfl
  have any_ : (ks.any fun kv => decide (kv.1 = .inl (j : Int))) = true := by rw [valV_any]; exact some_
  have eq : putK ks (.inl (j : Int)) v = ks.map fun kv => if kv.1 = .inl (j : Int) then (kv.1, v) else kv := by
    unfold putK
    rw [if_pos any_]
  refine ⟨h.ok, h.gb, fun i hi hn => ?_, fun i hi => ?_, fun k hk => ?_, fun i hi => ?_⟩
  · unfold put1
    rw [if_neg (fun e => hn (by rw [e]; exact hj))]
    exact h.free i hi hn
  · unfold put1
    split
    · exact hv
    · exact h.cell i hi
  · rw [eq] at hk
    obtain ⟨z, hz, e⟩ := List.mem_map.mp hk
    obtain ⟨i, e1, e2, e3, e4⟩ := h.keys z hz
    subst e
    by_cases c : z.1 = .inl (j : Int)
    · rw [if_pos c]
      rw [c] at e1
      have e5 := Sum.inl.inj e1
      have e6 : j = i := by omega
      subst e6
      exact ⟨j, c, e2, e3, (if_pos rfl).symm⟩
    · rw [if_neg c]
      have ne : i ≠ j := fun e => c (by rw [e1, e])
      refine ⟨i, e1, e2, e3, ?_⟩
      unfold put1
      rw [if_neg ne]
      exact e4
  · rw [valV_put]
    unfold put1
    by_cases c : i = j
    · rw [if_pos (by rw [c]), if_pos c]
    · rw [if_neg (fun z => c (by have := Sum.inl.inj z; omega)), if_neg c]
      exact h.has i hi
end
end Hd

namespace Hd
open PySem PySem.Spec PyProof.Rows L2 Rw
section
variable {K : PySem.W.Frag} {H H2 : Hp} {Q : VK} {E : XK} {n : Nat} {p s dx wd ba ca rd cd : Addr} {N : Nat} {rs : Rms} {gb gc : Nat → V} {ks : List (Key × V)}
abbrev W4' (K : PySem.W.Frag) (H : Hp) (p s dx wd ba ca rd cd : Addr) (N : Nat) (rs : Rms) (gb gc : Nat → V) (ks : List (Key × V)) : Prop := W4 K H p s dx wd ba ca rd cd N rs gb gc ks ∧ P4 (Own7 p s wd ba ca rd cd) H N rs gb gc ks
theorem W4.draw' (h : W4' K H p s dx wd ba ca rd cd N rs gb gc ks) (f : Far p s wd ba ca rd cd) (x : Ext (at1 p) H H2) (hp : Pot H2 p) : W4' K H2 p s dx wd ba ca rd cd N rs gb gc ks := ⟨h.1.draw f x hp, h.2.ext (x.sub at1_7p)⟩
theorem W4.new' (h : W4' K H p s dx wd ba ca rd cd N rs gb gc ks) (x : Ext noM H H2) : W4' K H2 p s dx wd ba ca rd cd N rs gb gc ks := ⟨h.1.new x, h.2.ext x.up⟩
theorem put_len (c : List (Key × V)) (k : Key) (x : V) : (putK c k x).length ≤ c.length + 1 := by
  unfold putK
  split
  · rw [List.length_map]
    omega
  · rw [List.length_append, List.length_singleton]
    omega
theorem sp_taken (hW : HasW K) (f : Far p s wd ba ca rd cd) (h : W4' K H p s dx wd ba ca rd cd N rs gb gc ks) (hN : N ≤ 30000) (hz : rs.length ≤ 1000) (hk : ks.length ≤ 100000)
    (q : ∀ rs' gb' gc' ks' H2, W4' K H2 p s dx wd ba ca rd cd N rs' gb' gc' ks' → rs'.length ≤ rs.length + 1 → ks'.length ≤ ks.length + 40 → Ext (Own7 p s wd ba ca rd cd) H H2 → Q .non H2) : lev K es (n + 5) ("_law_taken", none) [.ref p, .ref s, .ref rd, .ref cd] H Q E := by
  refine lev_in (en := e__law_taken) rfl rfl ?_
  dsimp only [e__law_taken, D__law_taken, cn0, Cn.blk]
  have sz : (200000 : Nat) < sizeLine := by decide
  walk_at "go"
  refine sp_draw h.1.pot (by decide) (by decide) fun d H1 d0 d1 x1 p1 => ?_
  have h1 := W4.draw' h f x1 p1
  obtain ⟨wm, wle⟩ := wideOf_mem (m := 1 + d) (by omega)
  have w0 : 2 ≤ wideOf (1 + d) ∧ wideOf (1 + d) ≤ 32 := by
    simp only [widesL, List.mem_cons, List.not_mem_nil, or_false] at wm
    omega
  walk_at "go"
  refine sp_longest h1.1.st h1.2.ok.nodup (by omega) fun L H2 ss pm srt hL x2 => ?_
  have h2 := W4.new' h1 x2
  walk_at "go"
  refine sp_lwide (by omega) fun H3 x3 => ?_
  have h3 := W4.new' h2 x3
  have X3 : Ext (Own7 p s wd ba ca rd cd) H H3 := (x1.sub at1_7p).trans (x2.up.trans x3.up)
  walk_at "go"
  refine i_dec (fun hl => ?_) fun hl => ?_
  · walk_at "go"
    exact q _ _ _ _ H3 h3 (by omega) (by omega) X3
  obtain ⟨g, hg, eg⟩ := hL (by omega)
  have ho3 := h3.1.st.o
  walk_at "go"
  refine sp_take hW f.ap h3.1.st h3.2.ok hN (by omega) (by omega) (by omega) (fun tt pt st => ?_) fun a w H4 ew fit x4 s4 => ?_
  · rw [order_uniq h3.2.ok pt st pm srt]
    exact ⟨g, hg, by omega⟩
  obtain ⟨pot4, rd4, cd4⟩ := h3.1.store f x4 s4
  have wpos : 0 < w := by omega
  obtain ⟨ff1, ff2⟩ := fits_facts h3.2.ok fit wpos
  have nokey : (a : Int) ∉ rs.map (·.1) := fun z => by
    obtain ⟨r, hr, e⟩ := List.mem_map.mp z
    have := ff2 r hr
    have := h3.2.ok.pos r hr
    omega
  walk_at "go"
  refine sp_lwide (by omega) fun H5 x5 => ?_
  walk_at "go"
  refine x_putD (.inl (a : Int)) (x5 _ _ noM_not rd4) (by rw [kvs_len]; omega) fun H6 x6 e6 => ?_
  rw [putK_new _ (kvs_no nokey), ← ew] at e6
  have e6 : H6 rd = some (.dK (kvsOf (rs ++ [((a : Int), (w : Int))]))) := by
    rw [e6]
    unfold kvsOf
    rw [List.map_append]
    rfl
  have st5 := s4.ext x5
  have rn : ∀ q ∈ [s, wd, ba, ca, cd], ¬ at1 rd q := fun q hq z => f.rn q hq (show q = rd from z).symm
  have st6 : StoreR K H6 s dx wd ba ca N (rs ++ [((a : Int), (w : Int))]) (row N (fill gb a w (.int a))) (row N gc) := ⟨x6 _ _ (rn s (by simp)) st5.o, x6 _ _ (rn wd (by simp)) st5.w, x6 _ _ (rn ba (by simp)) st5.b, x6 _ _ (rn ca (by simp)) st5.c⟩
  have pot6 : Pot H6 p := (pot4.new x5).ext (fun z => f.pn rd (by simp) (show p = rd from z)) x6
  have cd6 : H6 cd = some (.dK ks) := x6 _ _ (rn cd (by simp)) (x5 _ _ noM_not cd4)
  have X6 : Ext (Own7 p s wd ba ca rd cd) H3 H6 := (x4.sub own3_7).trans (x5.up.trans (x6.sub at1_7r))
  walk_at "go"
  refine sp_lwide (by omega) fun H7 x7 => ?_
  rw [← ew]
  walk_at "go"
  refine j_rng1 (by omega) (by omega) ?_
  rw [Int.toNat_natCast]
  have nokeys : ∀ k, k < w → valV ks (.inl ((a + k : Nat) : Int)) = none := fun k hkw => by
    cases e : valV ks (.inl ((a + k : Nat) : Int)) with
    | none => rfl
    | some v =>
      have e1 := valV_in e
      obtain ⟨z, hz1, hz2⟩ := List.mem_map.mp e1
      obtain ⟨j, j1, _, ⟨r, hr, r1, r2⟩, _⟩ := h3.2.keys z hz1
      rw [hz2] at j1
      have := Sum.inl.inj j1
      have := ff2 r hr
      omega
  refine for_go (fun k σ H' => k ≤ w ∧ Ext (at1 cd) H7 H' ∧ (∃ ks', H' cd = some (.dK ks') ∧ Added ks a k ks') ∧ ∃ v6 v7 v8 : Option V, σ = [some (.ref p), some (.ref s), some (.ref rd), some (.ref cd), some (.int (1 + d)), some (.int (a : Nat)), v6, v7, v8]) tells_rng ⟨Nat.zero_le _, Ext.rfl, ⟨ks, x7 _ _ noM_not cd6, Added.zero⟩, _, _, _, rfl⟩ (fun k σ H' x hP hx => ?_) fun σ H8 hP => ?_
  · obtain ⟨hk1, xe, ⟨ks', ek, ad⟩, v6, v7, v8, rfl⟩ := hP
    obtain ⟨hk2, rfl⟩ := rngL_at hx
    walk_at "go"
    rw [show (a : Int) + (0 + (k : Int)) = ((a + k : Nat) : Int) by omega]
    have := ad.len
    refine x_putD (.inl ((a + k : Nat) : Int)) ek (by omega) fun H9 x9 e9 => ?_
    walk_at "go"
    exact ⟨hk2, xe.trans x9, ⟨_, e9, ad.step (nokeys k hk2)⟩, _, _, _, rfl⟩
  obtain ⟨_, xe, ⟨ks', ek, ad⟩, v6, v7, v8, rfl⟩ := hP
  rw [rngL_len] at ad
  have cn : ∀ q ∈ [s, wd, ba, ca], ¬ at1 cd q := fun q hq z => f.cn q hq (show q = cd from z).symm
  have st7 := st6.ext x7
  have cr : ¬ at1 cd rd := fun z => f.rn cd (by simp) (show rd = cd from z)
  have w8 : W4 K H8 p s dx wd ba ca rd cd N (rs ++ [((a : Int), (w : Int))]) (fill gb a w (.int a)) gc ks' :=
    ⟨(pot6.new x7).ext (fun z => f.pn cd (by simp) (show p = cd from z)) xe, ⟨xe _ _ (cn s (by simp)) st7.o, xe _ _ (cn wd (by simp)) st7.w, xe _ _ (cn ba (by simp)) st7.b, xe _ _ (cn ca (by simp)) st7.c⟩, xe _ _ cr (x7 _ _ noM_not e6), ek⟩
  have X8 : Ext (Own7 p s wd ba ca rd cd) H3 H8 := X6.trans (x7.up.trans (xe.sub at1_7c))
  have p8 := (h3.2.add fit wpos ad).ext X8
  have len8 := ad.len
  walk_at "go"
  refine sp_draw w8.pot (by decide) (by decide) fun T H9 T0 T1 x9 p9 => ?_
  have h9 := W4.draw' ⟨w8, p8⟩ f x9 p9
  walk_at "go"
  refine j_rng1 (by omega) (by omega) ?_
  refine for_go (fun k σ H' => k ≤ 4 ∧ Ext (Own7 p s wd ba ca rd cd) H9 H' ∧ (∃ gc' ks2, W4' K H' p s dx wd ba ca rd cd N (rs ++ [((a : Int), (w : Int))]) (fill gb a w (.int a)) gc' ks2 ∧ ks2.length ≤ ks'.length + k) ∧ ∃ v6 v7 v8 : Option V, σ = [some (.ref p), some (.ref s), some (.ref rd), some (.ref cd), some (.int (1 + d)), some (.int (a : Nat)), v6, v7, v8])
    tells_rng ⟨Nat.zero_le _, Ext.rfl, ⟨gc, ks', h9, Nat.le_refl _⟩, _, _, _, rfl⟩ (fun k σ H' x hP hx => ?_) fun σ H10 hP => ?_
  · obtain ⟨hk1, xe, ⟨gc', ks2, hh, l2⟩, v6, v7, v8, rfl⟩ := hP
    obtain ⟨hk2, rfl⟩ := rngL_at hx
    walk_at "go"
    refine sp_lwide (by omega) fun H11 x11 => ?_
    have h11 := W4.new' hh x11
    walk_at "go"
    rw [← ew]
    refine sp_draw h11.1.pot (by omega) (by
      have : ((w : Nat) : Int).natAbs.log2 ≤ ((w : Nat) : Int).natAbs := Nat.log2_le_self _
      omega) fun o H12 o0 o1 x12 p12 => ?_
    have h12 := W4.draw' h11 f x12 p12
    obtain ⟨o, rfl⟩ := Int.eq_ofNat_of_zero_le o0
    walk_at "go"
    refine sp_any h12.1.pot (M := Own7 p s wd ba ca rd cd) (by simp [Own7]) h12.1.there fun v H13 hv x13 p13 => ?_
    have h13 := W4.draw' h12 f x13 p13
    rw [show (a : Int) + (o : Int) = ((a + o : Nat) : Int) by omega]
    have inr : inRoom (rs ++ [((a : Int), (w : Int))]) (a + o) := in_add.mpr (.inr ⟨by omega, by omega⟩)
    walk_at "go"
    refine x_putD (.inl ((a + o : Nat) : Int)) h13.1.cd (by omega) fun H14 x14 e14 => ?_
    have st14 : StoreR K H14 s dx wd ba ca N (rs ++ [((a : Int), (w : Int))]) (row N (fill gb a w (.int a))) (row N gc') := ⟨x14 _ _ (cn s (by simp)) h13.1.st.o, x14 _ _ (cn wd (by simp)) h13.1.st.w, x14 _ _ (cn ba (by simp)) h13.1.st.b, x14 _ _ (cn ca (by simp)) h13.1.st.c⟩
    have ho14 := st14.o
    have hv14 : CellV (Own7 p s wd ba ca rd cd) H14 v := hv.ext (x14.sub at1_7c)
    walk_at "go"
    refine v_ixD (k := .inl ((a + o : Nat) : Int)) e14 (v := v) (by rw [valV_put, if_pos rfl]) ?_
    walk_at "go"
    refine sp_put f.ap st14 (b := a) (by omega) (by unfold fill; rw [if_pos (by omega)]) hv14.kn hv14.cell fun H15 x15 s15 => ?_
    walk_at "go"
    have an : ∀ {q : Addr}, ca ≠ q → ¬ at1 ca q := fun {q} h z => h (show q = ca from z).symm
    have X15 : Ext (Own7 p s wd ba ca rd cd) H' H15 := (x11.up.trans (x12.sub at1_7p)).trans ((x13.sub at1_7p).trans ((x14.sub at1_7c).trans (x15.sub at1_7a)))
    refine ⟨by omega, xe.trans X15, ⟨put1 gc' (a + o) v, _, ⟨⟨?_, s15, ?_, ?_⟩, ((h13.2.put inr hv).ext ((x14.sub at1_7c).trans (x15.sub at1_7a)))⟩, ?_⟩, _, _, _, rfl⟩
    · exact (h13.1.pot.ext (fun z => f.pn cd (by simp) (show p = cd from z)) x14).ext (fun z => f.pn ca (by simp) (show p = ca from z)) x15
    · exact x15 _ _ (fun z => f.rn ca (by simp) (show rd = ca from z)) (x14 _ _ cr h13.1.rd)
    · exact x15 _ _ (fun z => f.cn ca (by simp) (show cd = ca from z)) e14
    · have := put_len ks2 (.inl ((a + o : Nat) : Int)) v
      omega
  · obtain ⟨hk1, xe, ⟨gc', ks2, hh, l2⟩, v6, v7, v8, rfl⟩ := hP
    walk_at "go"
    refine q _ _ _ _ H10 hh (by simp) (by omega) (X3.trans (X8.trans ((x9.sub at1_7p).trans xe)))
end
end Hd

namespace Hd
open PySem PySem.Spec PyProof.Rows L2 Rw
section
variable {K : PySem.W.Frag} {M : Addr → Prop} {H H2 : Hp} {Q : VK} {E : XK} {n : Nat} {p s dx wd ba ca rd cd : Addr} {N : Nat} {rs : Rms} {gb gc : Nat → V} {ks ks' : List (Key × V)}
/-- k keys from a on are gone -/
structure Taken (ks : List (Key × V)) (a k : Nat) (ks' : List (Key × V)) : Prop where
  val : ∀ j : Nat, ¬ (a ≤ j ∧ j < a + k) → valV ks' (.inl (j : Int)) = valV ks (.inl (j : Int))
  mem : ∀ z ∈ ks', z ∈ ks ∧ ∀ j : Nat, a ≤ j → j < a + k → z.1 ≠ .inl (j : Int)
  len : ks'.length ≤ ks.length
theorem Taken.zero {a : Nat} : Taken ks a 0 ks := ⟨fun j _ => rfl, fun z hz => ⟨hz, fun j h1 h2 => by omega⟩, Nat.le_refl _⟩
theorem val_drop {c : List (Key × V)} {k j : Key} (h : j ≠ k) : valV (dropK c k) j = valV c j := by
  induction c with
  | nil => rfl
  | cons x c ih =>
    by_cases e : x.1 = k
    · rw [dropK_pos e, ih, valV_neg (fun z => h (z.symm.trans e))]
    · rw [dropK_neg e]
      by_cases e2 : x.1 = j
      · rw [valV_pos e2, valV_pos e2]
      · rw [valV_neg e2, valV_neg e2, ih]
theorem Taken.step {a k : Nat} (h : Taken ks a k ks') : Taken ks a (k + 1) (dropK ks' (.inl ((a + k : Nat) : Int))) := by
  refine ⟨fun j hj => ?_, fun z hz => ?_, Nat.le_trans (dropK_le _ _) h.len⟩
  · rw [val_drop (fun e => hj (by have := Sum.inl.inj e; omega)), h.val j (by omega)]
  · obtain ⟨m1, m2⟩ := h.mem z (dropK_mem hz)
    refine ⟨m1, fun j h1 h2 e => ?_⟩
    by_cases c : j = a + k
    · subst c
      have := (List.mem_filter.mp hz).2
      exact of_decide_eq_true this e
    · exact m2 j h1 (by omega) e
theorem wid_filter_len {b : Int} : (rs.filter fun r => decide (r.1 ≠ b)).length ≤ rs.length := List.length_filter_le _ _
theorem pw_mem {α : Type} {R : α → α → Prop} (sy : ∀ x y, R x y → R y x) : ∀ {l : List α}, l.Pairwise R → ∀ {x y : α}, x ∈ l → y ∈ l → x ≠ y → R x y
  | [], _, x, _, hx, _, _ => (List.not_mem_nil hx).elim
  | z :: l, h, x, y, hx, hy, ne => by
    obtain ⟨h1, h2⟩ := List.pairwise_cons.mp h
    rcases List.mem_cons.mp hx with e | hx
    · rcases List.mem_cons.mp hy with e2 | hy
      · exact absurd (e.trans e2.symm) ne
      · rw [e]
        exact h1 y hy
    · rcases List.mem_cons.mp hy with e2 | hy
      · rw [e2]
        exact sy _ _ (h1 x hx)
      · exact pw_mem sy h2 hx hy ne
theorem P4.drop {a w : Nat} (h : P4 M H N rs gb gc ks) (hr : ((a : Int), (w : Int)) ∈ rs) (tk : Taken ks a w ks') : P4 M H N (rs.filter fun r => decide (r.1 ≠ (a : Int))) (fill gb a w .non) (fill gc a w .non) ks' := by
  have nd := h.ok.nodup
  have pr := h.ok.pos _ hr
  have far : ∀ r ∈ rs, r.1 ≠ (a : Int) → r.1 + r.2 ≤ (a : Int) ∨ (a : Int) + w ≤ r.1 := fun r hr' ne => by
    have d := pw_mem (R := fun (r t : Int × Int) => r.1 + r.2 ≤ t.1 ∨ t.1 + t.2 ≤ r.1) (fun x y z => z.symm) h.ok.dis hr' hr (fun e => ne (by rw [e]))
    exact d
  have same : ∀ r ∈ rs, r.1 = (a : Int) → r.2 = (w : Int) := fun r hr' e => by
    have e1 := wid_of nd hr'
    have e2 := wid_of nd hr
    rw [e] at e1
    exact e1.symm.trans e2
  have inr : ∀ j, inRoom rs j → ¬ (a ≤ j ∧ j < a + w) → inRoom (rs.filter fun r => decide (r.1 ≠ (a : Int))) j := by
    rintro j ⟨r, hr', r1, r2⟩ no
    refine ⟨r, List.mem_filter.mpr ⟨hr', decide_eq_true fun e => no ?_⟩, r1, r2⟩
    have := same r hr' e
    omega
  have out : ∀ j, inRoom (rs.filter fun r => decide (r.1 ≠ (a : Int))) j → inRoom rs j ∧ ¬ (a ≤ j ∧ j < a + w) := by
    rintro j ⟨r, hr', r1, r2⟩
    obtain ⟨m1, m2⟩ := List.mem_filter.mp hr'
    have := far r m1 (of_decide_eq_true m2)
    exact ⟨⟨r, m1, r1, r2⟩, by omega⟩
  refine ⟨⟨fun r hr' => h.ok.pos r (List.mem_filter.mp hr').1, h.ok.dis.filter _⟩, fun r hr' j j1 j2 => ?_, fun j hj hn => ?_, fun j hj => ?_, fun k hk => ?_, fun j hj => ?_⟩
  · obtain ⟨m1, m2⟩ := List.mem_filter.mp hr'
    have := far r m1 (of_decide_eq_true m2)
    unfold fill
    rw [if_neg (by omega)]
    exact h.gb r m1 j j1 j2
  · unfold fill
    split
    · rfl
    · rename_i c
      exact h.free j hj fun z => hn (inr j z c)
  · unfold fill
    split
    · exact .non
    · exact h.cell j hj
  · obtain ⟨m1, m2⟩ := tk.mem k hk
    obtain ⟨j, e1, e2, e3, e4⟩ := h.keys k m1
    have no : ¬ (a ≤ j ∧ j < a + w) := fun z => m2 j z.1 z.2 e1
    refine ⟨j, e1, e2, inr j e3 no, ?_⟩
    unfold fill
    rw [if_neg no]
    exact e4
  · obtain ⟨o1, o2⟩ := out j hj
    unfold fill
    rw [if_neg o2, tk.val j o2]
    exact h.has j o1
theorem at_last {xs : List V} (h : xs ≠ []) : ∃ v, atI xs (-1) = some v ∧ v ∈ xs := by
  have pos := List.length_pos_iff.mpr h
  have hk : xs.length - 1 < xs.length := by omega
  refine ⟨xs[xs.length - 1], ?_, List.getElem_mem hk⟩
  unfold atI ixN
  rw [if_neg (by decide), if_pos (by omega)]
  have e : ((xs.length : Int) + -1).toNat = xs.length - 1 := by omega
  first
    | (rw [show (-1 + (xs.length : Int)).toNat = xs.length - 1 by omega]; exact List.getElem?_eq_getElem hk)
    | (rw [e]; exact List.getElem?_eq_getElem hk)
    | (show xs[_]? = _; rw [show ((-1 : Int) + (xs.length : Int)).toNat = xs.length - 1 by omega]; exact List.getElem?_eq_getElem hk)
end
end Hd

namespace Hd
open PySem PySem.Spec PyProof.Rows L2 Rw
section
variable {K : PySem.W.Frag} {H H2 : Hp} {Q : VK} {E : XK} {n : Nat} {p s dx wd ba ca rd cd : Addr} {N : Nat} {rs : Rms} {gb gc : Nat → V} {ks : List (Key × V)}
theorem sp_given (f : Far p s wd ba ca rd cd) (h : W4' K H p s dx wd ba ca rd cd N rs gb gc ks) (hN : N ≤ 30000) (hz : rs.length ≤ 1000) (hne : rs ≠ [])
    (q : ∀ rs' gb' gc' ks' H2, W4' K H2 p s dx wd ba ca rd cd N rs' gb' gc' ks' → rs'.length < rs.length → ks'.length ≤ ks.length → Ext (Own7 p s wd ba ca rd cd) H H2 → Q .non H2) : lev K es (n + 5) ("_law_given", none) [.ref p, .ref s, .ref rd, .ref cd] H Q E := by
  refine lev_in (en := e__law_given) rfl rfl ?_
  dsimp only [e__law_given, D__law_given, cn0, Cn.blk]
  have sz : (200000 : Nat) < sizeLine := by decide
  walk_at "go"
  refine v_sortU (.inl h.1.rd) kvs_keys fun ys l H1 hp _ nl x1 e1 => ?_
  have h1 := W4.new' h x1
  have ly : ys.length = rs.length := by rw [hp.length_eq, List.length_map]
  have yne : ys.map V.int ≠ [] := fun z => hne (List.length_eq_zero_iff.mp (by rw [← ly, List.map_eq_nil_iff.mp z]; rfl))
  have ypos : 0 < ys.length := by rw [ly]; exact List.length_pos_iff.mpr hne
  walk_at "go"
  obtain ⟨v0, ev0, m0⟩ := at_mem (xs := ys.map V.int) (d := 0) (Int.le_refl 0) (by rw [List.length_map]; omega)
  refine v_ixL e1 ev0 ?_
  walk_at "go"
  obtain ⟨v1, ev1, m1⟩ := at_last yne
  refine v_ixL e1 ev1 ?_
  walk_at "go"
  refine v_lenLn (n := ys.length) e1 (List.length_map ..) ?_
  walk_at "go"
  refine sp_draw h1.1.pot (by omega) (by
    have : ((ys.length : Nat) : Int).natAbs.log2 ≤ ((ys.length : Nat) : Int).natAbs := Nat.log2_le_self _
    omega) fun d H2 d0 d1 x2 p2 => ?_
  have h2 := W4.draw' h1 f x2 p2
  have nlp : ¬ at1 p l := h.1.pot.ne nl
  have e2 := x2 _ _ nlp e1
  obtain ⟨v2, ev2, m2⟩ := at_mem (xs := ys.map V.int) d0 (by rw [List.length_map]; exact d1)
  refine v_ixL e2 ev2 ?_
  walk_at "go"
  intro l3 H3 nl3 x3 el3
  walk_at "go"
  refine sp_draw (h2.1.pot.new x3) (by decide) (by decide) fun g H4 g0 g1 x4 p4 => ?_
  have h4 := W4.draw' (W4.new' h2 x3) f x4 p4
  have e4 := x4 _ _ (h2.1.pot.ne nl3) el3
  obtain ⟨v, ev, mv⟩ := at_mem (xs := [v0, v1, v2]) g0 g1
  refine v_ixL e4 ev ?_
  have my : v ∈ ys.map V.int := by
    simp only [List.mem_cons, List.not_mem_nil, or_false] at mv
    rcases mv with rfl | rfl | rfl <;> assumption
  obtain ⟨b, hb, rfl⟩ := List.mem_map.mp my
  have hb := hp.mem_iff.mp hb
  obtain ⟨r, hr, er⟩ := List.mem_map.mp hb
  have pr := h.2.ok.pos r hr
  obtain ⟨a, ha⟩ := Int.eq_ofNat_of_zero_le pr.1
  obtain ⟨w, hw⟩ := Int.eq_ofNat_of_zero_le (show 0 ≤ r.2 by omega)
  have ea : b = (a : Int) := by omega
  subst ea
  have wid : widOf rs a = (w : Nat) := by
    have z := wid_of h.2.ok.nodup hr
    rw [er] at z
    rw [z]
    exact hw
  have hr2 : ((a : Int), (w : Int)) ∈ rs := by
    have z : r = ((a : Int), (w : Int)) := Prod.ext ha hw
    rw [← z]
    exact hr
  have X4 : Ext (Own7 p s wd ba ca rd cd) H H4 := (x1.up.trans (x2.sub at1_7p)).trans (x3.up.trans (x4.sub at1_7p))
  have aw : a + w ≤ N := by omega
  walk_at "go"
  refine e_altL ?_
  walk_at "go"
  refine y_dK h4.1.rd ?_
  walk_at "go"
  refine v_popD (.inl (a : Int)) h4.1.rd (kvs_val hb) fun H5 x5 e5 => ?_
  rw [kvs_drop] at e5
  rw [wid]
  have rn : ∀ q ∈ [s, wd, ba, ca, cd], ¬ at1 rd q := fun q hq z => f.rn q hq (show q = rd from z).symm
  have cn : ∀ q ∈ [s, wd, ba, ca], ¬ at1 cd q := fun q hq z => f.cn q hq (show q = cd from z).symm
  have cr : ¬ at1 cd rd := fun z => f.rn cd (by simp) (show rd = cd from z)
  have st5 : StoreR K H5 s dx wd ba ca N rs (row N gb) (row N gc) := ⟨x5 _ _ (rn s (by simp)) h4.1.st.o, x5 _ _ (rn wd (by simp)) h4.1.st.w, x5 _ _ (rn ba (by simp)) h4.1.st.b, x5 _ _ (rn ca (by simp)) h4.1.st.c⟩
  have pot5 : Pot H5 p := h4.1.pot.ext (fun z => f.pn rd (by simp) (show p = rd from z)) x5
  have cd5 := x5 _ _ (rn cd (by simp)) h4.1.cd
  walk_at "go"
  refine j_rng1 (by omega) (by omega) ?_
  rw [Int.toNat_natCast]
  refine for_go (fun k σ H' => k ≤ w ∧ Ext (at1 cd) H5 H' ∧ (∃ ks', H' cd = some (.dK ks') ∧ Taken ks a k ks') ∧ ∃ v6 : Option V, σ = [some (.ref p), some (.ref s), some (.ref rd), some (.ref cd), some (.ref l), some (.int (a : Nat)), v6]) tells_rng ⟨Nat.zero_le _, Ext.rfl, ⟨ks, cd5, Taken.zero⟩, _, rfl⟩ (fun k σ H' x hP hx => ?_) fun σ H6 hP => ?_
  · obtain ⟨hk1, xe, ⟨ks', ek, tk⟩, v6, rfl⟩ := hP
    obtain ⟨hk2, rfl⟩ := rngL_at hx
    walk_at "go"
    refine e_altL ?_
    walk_at "go"
    rw [show (a : Int) + (0 + (k : Int)) = ((a + k : Nat) : Int) by omega]
    have val : valV ks' (.inl ((a + k : Nat) : Int)) = some (gc (a + k)) := by
      rw [tk.val _ (by omega)]
      exact h.2.has _ ⟨_, hr2, by dsimp only; omega, by dsimp only; omega⟩
    refine v_popD (.inl ((a + k : Nat) : Int)) ek val fun H7 x7 e7 => ?_
    walk_at "go"
    exact ⟨hk2, xe.trans x7, ⟨_, e7, tk.step⟩, _, rfl⟩
  obtain ⟨_, xe, ⟨ks', ek, tk⟩, v6, rfl⟩ := hP
  rw [rngL_len] at tk
  have st6 : StoreR K H6 s dx wd ba ca N rs (row N gb) (row N gc) := ⟨xe _ _ (cn s (by simp)) st5.o, xe _ _ (cn wd (by simp)) st5.w, xe _ _ (cn ba (by simp)) st5.b, xe _ _ (cn ca (by simp)) st5.c⟩
  have pot6 : Pot H6 p := pot5.ext (fun z => f.pn cd (by simp) (show p = cd from z)) xe
  have rd6 := xe _ _ cr e5
  walk_at "go"
  refine sp_draw pot6 (by decide) (by decide) fun z H7 z0 z1 x7 p7 => ?_
  have ne : ∀ q ∈ [s, wd, ba, ca, rd, cd], ¬ at1 p q := fun q hq z => f.pn q hq (show q = p from z).symm
  have st7 : StoreR K H7 s dx wd ba ca N rs (row N gb) (row N gc) := ⟨x7 _ _ (ne s (by simp)) st6.o, x7 _ _ (ne wd (by simp)) st6.w, x7 _ _ (ne ba (by simp)) st6.b, x7 _ _ (ne ca (by simp)) st6.c⟩
  have rd7 := x7 _ _ (ne rd (by simp)) rd6
  have cd7 := x7 _ _ (ne cd (by simp)) ek
  have ho7 := st7.o
  have X7 : Ext (Own7 p s wd ba ca rd cd) H4 H7 := ((x5.sub at1_7r).trans (xe.sub at1_7c)).trans (x7.sub at1_7p)
  have fin : ∀ H8, Ext (own3 wd ba ca) H7 H8 → StoreR K H8 s dx wd ba ca N (rs.filter fun r => decide (r.1 ≠ a)) (row N (fill gb a w .non)) (row N (fill gc a w .non)) → Q .non H8 := fun H8 x8 s8 => by
    have no : ∀ {q : Addr}, q ≠ wd → q ≠ ba → q ≠ ca → ¬ own3 wd ba ca q := fun {q} h1 h2 h3 z => by
      rcases z with z | z | z
      · exact h1 z
      · exact h2 z
      · exact h3 z
    refine q _ _ _ ks' H8 ⟨⟨p7.ext (no (f.pn _ (by simp)) (f.pn _ (by simp)) (f.pn _ (by simp))) x8, s8, x8 _ _ (no (f.rn _ (by simp)) (f.rn _ (by simp)) (f.rn _ (by simp))) rd7, x8 _ _ (no (f.cn _ (by simp)) (f.cn _ (by simp)) (f.cn _ (by simp))) cd7⟩,
      (h4.2.drop hr2 tk).ext (X7.trans (x8.sub own3_7))⟩ ?_ tk.len (X4.trans (X7.trans (x8.sub own3_7)))
    have lt := List.length_filter_lt_length_iff_exists (p := fun r : Int × Int => decide (r.1 ≠ (a : Int))) (l := rs)
    exact lt.mpr ⟨_, hr2, by simp⟩
  walk_at "go"
  refine i_dec (fun _ => ?_) fun _ => ?_
  · walk_at "go"
    exact sp_give f.ap st7 (by omega) hb wid (by omega) aw fin
  · walk_at "go"
    exact sp_give f.ap st7 (by omega) hb wid (by omega) aw fin
end
end Hd

namespace Hd
open PySem PySem.Spec PyProof.Rows L2 Rw
section
variable {K : PySem.W.Frag} {M : Addr → Prop} {H H2 : Hp} {Q : VK} {E : XK} {n : Nat} {p s dx wd ba ca rd cd : Addr} {N : Nat} {rs : Rms} {gb gc : Nat → V} {ks : List (Key × V)}
theorem perm_sum {as bs : List Int} (h : as.Perm bs) : as.sum = bs.sum := by
  induction h with
  | nil => rfl
  | cons x _ ih => rw [List.sum_cons, List.sum_cons, ih]
  | swap x y l =>
    simp only [List.sum_cons]
    omega
  | trans _ _ i1 i2 => exact i1.trans i2
theorem rms_int {ss : Rms} (ok : RoomsOk N rs) (pm : ss.Perm rs) (hN : N ≤ 30000) : RmsI ss := fun r hr => by
  have := (ok.perm pm).pos r hr
  unfold IntOk
  omega
theorem gaps_int {ss : Rms} (ok : RoomsOk N rs) (pm : ss.Perm rs) (st : (ss.map (·.1)).Pairwise (· ≤ ·)) (hN : N ≤ 30000) : RmsI (gaps 0 (ss ++ [((N : Int), 0)])) := fun g hg => by
  have rise := rising_of (N := N) (b := 0) (ok.perm pm) st (fun r hr => ((ok.perm pm).pos r hr).1) (Int.natCast_nonneg N)
  obtain ⟨i1, i2, i3, _⟩ := gaps_in rise (fun r hr => ((ok.perm pm).pos r hr).2.1) hg
  unfold IntOk
  omega
/-- repr of a row of pairs -/
theorem v_rows {l : Addr} {rs : Rms} (h : RowsAt H l rs) (hi : RmsI rs) (hz : rs.length ≤ 10000) (q : Q (.str (rowsD rs).shown) H) : rRepr K [.ref l] H Q := by
  have z := rowsD_shw hi
  exact v_repr (rowsD rs) (rows_dp h) z.s (Nat.le_trans z.d (by decide)) (z.fits (by omega)) q
theorem v_sumL {a : Addr} {ns : List Int} (e : H a = some (.lst (ns.map V.int))) (h : Q (.int ns.sum) H) : rSum K [.ref a] H Q := ⟨a, ns, rfl, .inl (.inl e), h⟩
end
end Hd

namespace Hd
open PySem PySem.Spec PyProof.Rows L2 Rw
section
variable {K : PySem.W.Frag} {M : Addr → Prop} {H H2 : Hp} {Q : VK} {E : XK} {n : Nat} {p s dx wd ba ca rd cd : Addr} {N : Nat} {rs : Rms} {gb gc : Nat → V} {ks : List (Key × V)}
theorem i_keysV {i : Nat} {σ : L2.St} {d : Addr} {o : Obj} {kvs : List (Key × V)} {R : It → Hp → Prop} (e : σ[i]? = some (some (.ref d))) (e2 : H d = some (.frz o (.dK kvs))) (h : R (Itk d o kvs) H) : iAny K (tVar i) σ H R :=
  .inr (.inr ⟨_, e, d, o, rfl, .inl ⟨kvs, e2, h⟩⟩)
theorem tells_keys {d : Addr} {o : Obj} {kvs : List (Key × V)} {P : Nat → Hp → Prop} (h : ∀ k H, P k H → H d = some (.frz o (.dK kvs))) : Tells (Itk d o kvs) (kvs.map fun z => kV z.1) P := fun k H p => by
  have e := h k H p
  refine ⟨fun x hx => ?_, fun l => ⟨e, by rw [List.length_map] at l; exact l⟩⟩
  rw [List.getElem?_map] at hx
  obtain ⟨z, hz, rfl⟩ := Option.map_eq_some_iff.mp hx
  refine ⟨⟨e, (List.getElem?_eq_some_iff.mp hz).1⟩, fun x' H' y => ⟨y.1, ?_⟩⟩
  obtain ⟨k', v, e1, e2⟩ := y.2
  rw [hz] at e1
  cases e1
  exact e2
theorem v_ixDR {d : Addr} {kvs : List (Key × V)} {k : Key} {v : V} (e : Rd H d (.dK kvs)) (l : valV kvs k = some v) (h : Q v H) : rSubU' K (.ref d) (kV k) H Q := .inr ⟨d, v, rfl, .inl ⟨kvs, k, e, rfl, l.symm⟩, h⟩
theorem three_shape : SeqAt.shaped (PyData.list [.none, .none, .none]) = true := by decide +kernel
theorem three_eq : PyData.eqv (PyData.list [.none, .none, .none]) (PyData.list [.none, .none, .none]) = true := by decide +kernel
theorem three_dp {a : Addr} (e : H a = some (.lst [.non, .non, .non])) : Dp K H (.ref a) (PyData.list [.none, .none, .none]) := .lst (.inl (.inl e)) (.cons .non (.cons .non (.cons .non .nil)))
theorem sp_lright (f : Far p s wd ba ca rd cd) (h : W4' K H p s dx wd ba ca rd cd N rs gb gc ks) (hN : N ≤ 30000) (hz : rs.length ≤ 1000)
    (q : ∀ H2, Ext noM H H2 → Q (.bl true) H2) : lev K es (n + 4) ("_law_right", none) [.ref s, .ref rd, .ref cd, .int N] H Q E := by
  refine lev_in (en := e__law_right) rfl rfl ?_
  dsimp only [e__law_right, D__law_right, cn0, Cn.blk]
  have sz : (200000 : Nat) < sizeLine := by decide
  have nd := h.2.ok.nodup
  have ok := h.2.ok
  walk_at "go"
  refine sp_held h.1.rd nd (by omega) fun l1 H1 s1 pm1 st1 nl1 x1 r1 => ?_
  have h1 := W4.new' h x1
  walk_at "go"
  refine sp_gaps h1.1.rd nd (by omega) fun l2 H2 s2 pm2 st2 nl2 x2 r2 => ?_
  have h2 := W4.new' h1 x2
  obtain rfl := order_uniq ok pm1 st1 pm2 st2
  have i1 := rms_int ok pm1 hN
  have i2 := gaps_int ok pm1 st1 hN
  have gl : (gaps 0 (s1 ++ [((N : Int), 0)])).length ≤ 1001 := by
    have z := gaps_len 0 (s1 ++ [((N : Int), 0)])
    rw [List.length_append, pm1.length_eq, List.length_singleton] at z
    omega
  have sl : s1.length ≤ 1000 := by rw [pm1.length_eq]; exact hz
  have ho2 := h2.1.st.o
  walk_at "go"
  refine ⟨_, _, rfl, ?_⟩
  walk_at "go"
  refine sp_rooms h2.1.st nd (by omega) fun l3 H3 s3 pm3 st3 nl3 x3 r3 => ?_
  obtain rfl := order_uniq ok pm1 st1 pm3 st3
  have h3 := W4.new' h2 x3
  have ho3 := h3.1.st.o
  walk_at "go"
  refine v_rows r3 i1 (by omega) ?_
  walk_at "go"
  refine v_rows (rows_new r1 (x2.trans x3)) i1 (by omega) ?_
  walk_at "go"
  refine i_ndec (fun z => absurd rfl z) fun _ => ?_
  walk_at "go"
  refine sp_stretches h3.1.st nd (by omega) fun l4 H4 s4 pm4 st4 nl4 x4 r4 => ?_
  obtain rfl := order_uniq ok pm1 st1 pm4 st4
  have h4 := W4.new' h3 x4
  have ho4 := h4.1.st.o
  walk_at "go"
  refine v_rows r4 i2 (by omega) ?_
  walk_at "go"
  have r2' := rows_new r2 (x3.trans x4)
  refine v_rows r2' i2 (by omega) ?_
  walk_at "go"
  refine i_ndec (fun z => absurd rfl z) fun _ => ?_
  walk_at "go"
  refine sp_free h4.1.st ?_
  walk_at "go"
  refine i_seqL ?_
  walk_at "go"
  obtain ⟨ys, el, py⟩ := r2'
  refine j_ref el ?_
  have lny : ys.length ≤ 1001 := by rw [← paired_len py]; exact gl
  refine lc_gen (fun x => [some (.ref s), some (.ref rd), some (.ref cd), some (.int N), some (.ref l1), some (.ref l2), none, some (.int (rowAt H4 x).1), some (.int (rowAt H4 x).2), none]) (fun _ => true) (fun x => .int (rowAt H4 x).2) (fun P hP => tells_lst fun k H' p => .inl (.inl (hP k H' p _ _ noM_not el))) (by omega) ?_ (fun H' x R hx xe hR => ?_) ?_ (fun H' x R hx _ xe hR => ?_) fun d5 H5 nd5 x5 ed => ?_
  · exact fun _ _ => rfl
  · obtain ⟨t, rfl, et, _⟩ := rows_mem py hx
    refine x_tup (xe _ _ noM_not et) rfl ?_
    walk_at "go"
    exact hR
  · exact fun H' x R _ _ hR => hR
  · walk_at "go"
    exact hR
  have ems : ((ys.filter fun _ => true).map fun x => V.int (rowAt H4 x).2) = ((gaps 0 (s1 ++ [((N : Int), 0)])).map (·.2)).map V.int := by
    rw [List.filter_eq_self.mpr fun _ _ => rfl, ← rows_map py, List.map_map, List.map_map]
    rfl
  rw [ems] at ed
  have h5 := W4.new' h4 x5
  have ho5 := h5.1.st.o
  walk_at "go"
  refine v_sumL ed ?_
  walk_at "go"
  have total : (N : Int) - (rs.map (·.2)).sum = ((gaps 0 (s1 ++ [((N : Int), 0)])).map (·.2)).sum := by
    have rise := rising_of (N := N) (b := 0) (ok.perm pm1) st1 (fun r hr => ((ok.perm pm1).pos r hr).1) (Int.natCast_nonneg N)
    have z := gaps_sum rise
    have z2 := perm_sum (pm1.map (·.2))
    omega
  refine i_ndec (fun z => absurd total z) fun _ => ?_
  walk_at "go"
  refine sp_free h5.1.st ?_
  walk_at "go"
  refine sp_rooms h5.1.st nd (by omega) fun l6 H6 s6 pm6 st6 nl6 x6 ⟨y6, e6, p6⟩ => ?_
  walk_at "go"
  refine sp_lspoilt e6 (by rw [← paired_len p6, pm6.length_eq]; omega) fun H7 x7 => ?_
  have x57 : Ext noM H5 H7 := (x6.up.trans x7).drop (p := l6) fun q z => by rw [show q = l6 from z]; exact nl6
  have h7 := W4.new' h5 x57
  have ho7 := h7.1.st.o
  walk_at "go"
  refine sp_stretches h7.1.st nd (by omega) fun l8 H8 s8 pm8 st8 nl8 x8 ⟨y8, e8, p8⟩ => ?_
  walk_at "go"
  refine sp_lspoilt e8 (by
    have z := gaps_len 0 (s8 ++ [((N : Int), 0)])
    rw [List.length_append, pm8.length_eq, List.length_singleton] at z
    rw [← paired_len p8]
    omega) fun H9 x9 => ?_
  have x79 : Ext noM H7 H9 := (x8.up.trans x9).drop (p := l8) fun q z => by rw [show q = l8 from z]; exact nl8
  have h9 := W4.new' h7 x79
  have x49 : Ext noM H4 H9 := x5.trans (x57.trans x79)
  walk_at "go"
  refine ⟨cd, .dK ks, h9.1.cd, by first | exact True.intro | trivial, fun od => ?_⟩
  have xf : Ext (at1 cd) H9 (upd H9 cd (.frz od (.dK ks))) := Ext.set rfl
  have cdf : upd H9 cd (.frz od (.dK ks)) cd = some (.frz od (.dK ks)) := upd_same
  generalize upd H9 cd (.frz od (.dK ks)) = Hf at xf cdf
  have cn : ∀ q ∈ [s, wd, ba, ca], ¬ at1 cd q := fun q hq z => f.cn q hq (show q = cd from z).symm
  have stf : StoreR K Hf s dx wd ba ca N rs (row N gb) (row N gc) := ⟨xf _ _ (cn s (by simp)) h9.1.st.o, xf _ _ (cn wd (by simp)) h9.1.st.w, xf _ _ (cn ba (by simp)) h9.1.st.b, xf _ _ (cn ca (by simp)) h9.1.st.c⟩
  walk_at "go"
  refine i_keysV rfl cdf ?_
  refine for_go (fun k σ H' => Ext noM Hf H' ∧ ∃ v6 : Option V, σ = [some (.ref s), some (.ref rd), some (.ref cd), some (.int N), some (.ref l1), some (.ref l2), v6, none, none, none]) (tells_keys fun k H' ⟨σ, hx, _⟩ => hx _ _ noM_not cdf) ⟨Ext.rfl, _, rfl⟩ (fun k σ H' x hP hx => ?_) fun σ H' hP => ?_
  · obtain ⟨xe, v6, rfl⟩ := hP
    rw [List.getElem?_map] at hx
    obtain ⟨z, hz1, rfl⟩ := Option.map_eq_some_iff.mp hx
    obtain ⟨j, e1, e2, e3, e4⟩ := h9.2.keys z (List.mem_of_getElem? hz1)
    rw [e1]
    have st' := stf.ext xe
    have ho' := st'.o
    show gName 6 (V.int (j : Int)) _ _ _
    walk_at "go"
    refine sp_told st' e2 ?_
    obtain ⟨dd, dp, sh⟩ := ((h9.2.cell j e2).ext ((xf.sub at1_7c).trans xe.up)).dp (K := K)
    walk_at "go"
    refine v_repr dd dp sh.s (Nat.le_trans sh.d (by decide)) (sh.fits (by decide)) ?_
    walk_at "go"
    refine v_ixDR (k := .inl (j : Int)) (.inr ⟨od, xe _ _ noM_not cdf⟩) (h9.2.has j e3) ?_
    walk_at "go"
    refine v_repr dd dp sh.s (Nat.le_trans sh.d (by decide)) (sh.fits (by decide)) ?_
    walk_at "go"
    refine i_ndec (fun z => absurd rfl z) fun _ => ?_
    walk_at "go"
    exact ⟨xe, _, rfl⟩
  obtain ⟨xe, v6, rfl⟩ := hP
  refine ⟨xe _ _ noM_not cdf, ?_⟩
  have x10 : Ext noM H9 (upd H' cd (.dK ks)) := fun q o _ e => by
    by_cases c : q = cd
    · subst c
      rw [upd_same]
      rw [h9.1.cd] at e
      exact e
    · rw [upd_ne c]
      exact xe _ _ noM_not (xf _ _ c e)
  generalize upd H' cd (.dK ks) = H10 at x10
  have h10 := W4.new' h9 x10
  have el10 := x10 _ _ noM_not (x49 _ _ noM_not el)
  walk_at "go"
  refine i_seqL ?_
  walk_at "go"
  refine j_ref el10 ?_
  refine for_go (fun k σ H' => Ext noM H10 H' ∧ ∃ v6 v7 v8 v9 : Option V, σ = [some (.ref s), some (.ref rd), some (.ref cd), some (.int N), some (.ref l1), some (.ref l2), v6, v7, v8, v9]) (tells_lst fun k H' ⟨σ, hx, _⟩ => .inl (.inl (hx _ _ noM_not el10))) ⟨Ext.rfl, _, _, _, _, rfl⟩ (fun k σ H' x hP hx => ?_) fun σ H11 hP => ?_
  · obtain ⟨xe, v6, v7, v8, v9, rfl⟩ := hP
    obtain ⟨t, rfl, et, hin⟩ := rows_mem py (List.mem_of_getElem? hx)
    have et' := xe _ _ noM_not (x10 _ _ noM_not (x49 _ _ noM_not et))
    generalize rowAt H4 (.ref t) = r at et' hin
    have rise := rising_of (N := N) (b := 0) (ok.perm pm1) st1 (fun r hr => ((ok.perm pm1).pos r hr).1) (Int.natCast_nonneg N)
    obtain ⟨g1, g2, g3, g4⟩ := gaps_in rise (fun r hr => ((ok.perm pm1).pos r hr).2.1) hin
    have fr : ∀ j : Nat, r.1 ≤ (j : Int) → (j : Int) < r.1 + r.2 → j < N ∧ gc j = .non := fun j j1 j2 => by
      have jn : j < N := by omega
      refine ⟨jn, h.2.free j jn ?_⟩
      rintro ⟨t', ht', t1, t2⟩
      have := g4 t' (pm1.mem_iff.mpr ht')
      omega
    refine x_tup et' rfl ?_
    walk_at "go"
    refine v_div ⟨by decide, by decide⟩ ?_
    walk_at "go"
    intro l12 H12 nl12 x12 el12
    walk_at "go"
    refine i_seqL ?_
    walk_at "go"
    refine j_ref el12 ?_
    have st12 : StoreR K H12 s dx wd ba ca N rs (row N gb) (row N gc) := h10.1.st.ext (xe.trans x12)
    refine lc_gen (fun x => [some (.ref s), some (.ref rd), some (.ref cd), some (.int N), some (.ref l1), some (.ref l2), some x, some (.int r.1), some (.int r.2), some (.ref l12)]) (fun _ => true) (fun _ => .non) (fun P hP => tells_lst fun k H' p => .inl (.inl (hP k H' p _ _ noM_not el12))) (by show 3 < sizeLine; decide) ?_ ?_ ?_ (fun H13 x R hx _ xe13 hR => ?_) fun d13 H13 nd13 x13 ed13 => ?_
    · exact fun _ _ => rfl
    · exact fun H' x R _ _ hR => hR
    · exact fun H' x R _ _ hR => hR
    · have st13 := st12.ext xe13
      have ho13 := st13.o
      have jx : ∃ j : Nat, x = .int (j : Int) ∧ r.1 ≤ (j : Int) ∧ (j : Int) < r.1 + r.2 := by
        have mk : ∀ i : Int, r.1 ≤ i → i < r.1 + r.2 → ∃ j : Nat, V.int i = .int (j : Int) ∧ r.1 ≤ (j : Int) ∧ (j : Int) < r.1 + r.2 := fun i a b => ⟨i.toNat, by rw [Int.toNat_of_nonneg (by omega)], by omega, by omega⟩
        simp only [List.mem_cons, List.not_mem_nil, or_false] at hx
        rcases hx with rfl | rfl | rfl
        · exact mk _ (by omega) (by omega)
        · exact mk _ (by omega) (by omega)
        · exact mk _ (by omega) (by omega)
      obtain ⟨j, rfl, j1, j2⟩ := jx
      obtain ⟨jn, jg⟩ := fr j j1 j2
      walk_at "go"
      refine sp_told st13 jn ?_
      rw [jg]
      exact hR
    walk_at "go"
    intro l14 H14 nl14 x14 el14
    walk_at "go"
    refine v_rep (N := 3) el14 (by decide) fun l15 H15 nl15 x15 el15 => ?_
    refine v_neDat _ _ (three_dp (x15 _ _ noM_not (x14 _ _ noM_not ed13))) (three_dp el15) three_shape three_shape ?_
    rw [three_eq]
    walk_at "go"
    exact ⟨xe.trans (x12.trans (x13.trans (x14.trans x15))), _, _, _, _, rfl⟩
  obtain ⟨xe, v6, v7, v8, v9, rfl⟩ := hP
  have h11 := W4.new' h10 xe
  have ho11 := h11.1.st.o
  have x411 : Ext noM H4 H11 := x49.trans (x10.trans xe)
  walk_at "go"
  refine sp_rooms h11.1.st nd (by omega) fun l16 H16 s16 pm16 st16 nl16 x16 r16 => ?_
  obtain rfl := order_uniq ok pm1 st1 pm16 st16
  have h16 := W4.new' h11 x16
  have ho16 := h16.1.st.o
  walk_at "go"
  refine v_rows r16 i1 (by omega) ?_
  walk_at "go"
  refine v_rows (rows_new r1 ((x2.trans (x3.trans x4)).trans (x411.trans x16))) i1 (by omega) ?_
  walk_at "go"
  refine i_dec (fun _ => ?_) fun z => absurd rfl z
  walk_at "go"
  refine sp_stretches h16.1.st nd (by omega) fun l17 H17 s17 pm17 st17 nl17 x17 r17 => ?_
  obtain rfl := order_uniq ok pm1 st1 pm17 st17
  walk_at "go"
  refine v_rows r17 i2 (by omega) ?_
  walk_at "go"
  refine v_rows (rows_new r2 ((x3.trans x4).trans (x411.trans (x16.trans x17)))) i2 (by omega) ?_
  walk_at "go"
  rw [decide_eq_true rfl]
  exact q H17 (((x1.trans x2).trans (x3.trans x4)).trans (x411.trans (x16.trans x17)))
end
end Hd

namespace Hd
open PySem PySem.Spec PyProof.Rows L2 Rw
section
variable {K : PySem.W.Frag} {M : Addr → Prop} {H H2 : Hp} {Q : VK} {E : XK} {n : Nat} {p s dx wd ba ca rd cd : Addr} {N : Nat} {rs : Rms} {gb gc : Nat → V} {ks : List (Key × V)}
theorem s_cut {ta tb : TS} {D : Ends} {σ : L2.St} (P : L2.St → Hp → Prop) (h2 : ∀ N : L2.St → Hp → Prop, (∀ σ' H', P σ' H' → N σ' H') → ta { D with nx := N } σ H) (h1 : ∀ σ' H', P σ' H' → tb D σ' H') : tSeq ta tb D σ H := h2 _ h1
theorem e_mk {c : Cn} {x : Str} {na : Nat} {ks : List Str} {tA tK : TA} {σ : L2.St} (sp : Shp) (hm : hasF (isMkr x) c.fa = true) (hs : shpOf c.sh (x, some ("__init__" : Str)) (na + 1) ks = some sp)
    (h : tA σ H fun vs H1 => tK σ H1 fun zs H2 => vs.length = na ∧ zs.length = ks.length ∧ ∀ d dx, H2 d = none → H2 dx = none → dx ≠ d → c.Ph sp.key (plug c.K sp.plan (.ref d :: vs) zs) (upd (upd H2 dx (.own d)) d (.ins (He.ga c.K x) dx [])) (fun v H3 => v = .non ∧ Q (.ref d) H3) (WE c.W σ)) : tMk c x na ks tA tK σ H Q := ⟨hm, sp, hs, h⟩
theorem x_par3 {i j l : Nat} {tA : TA} {D : Ends} {σ : L2.St} (h : tA σ H fun vs H1 => ∃ a b c, vs = [a, b, c] ∧ D.nx (((σ.set i (some a)).set j (some b)).set l (some c)) H1) : tPar3 i j l tA D σ H := h
theorem two_dp {l l1 l2 : Addr} {r1 r2 : Rms} (e : H l = some (.lst [.ref l1, .ref l2])) (h1 : RowsAt H l1 r1) (h2 : RowsAt H l2 r2) : Dp K H (.ref l) (.list [rowsD r1, rowsD r2]) := .lst (.inl (.inl e)) (.cons (rows_dp h1) (.cons (rows_dp h2) .nil))
theorem two_shw {r1 r2 : Rms} (h1 : RmsI r1) (h2 : RmsI r2) (l1 : r1.length ≤ 3000) (l2 : r2.length ≤ 3000) : (PyData.list [rowsD r1, rowsD r2]).showable = true ∧ (PyData.list [rowsD r1, rowsD r2]).depth ≤ 100 ∧ (PyData.list [rowsD r1, rowsD r2]).shown.length ≤ sizeLine := by
  have a := rowsD_shw h1
  have b := rowsD_shw h2
  have al := a.l
  have bl := b.l
  have aw := a.w
  have bw := b.w
  have ad := a.d
  have bd := b.d
  refine ⟨by simp only [PyData.showable, PyData.showableAll, a.s, b.s, Bool.and_self], by simp only [PyData.depth, PyData.depthAll]; omega, ?_⟩
  refine PyData.shown_fits (B := 13) (by decide) (by decide) (by simp only [PyData.leavesShort, PyData.leavesShortAll, al, bl, Bool.and_self]) (Nat.le_trans (m := 1000000) ?_ (by decide))
  simp only [PyData.weight, PyData.weightAll]
  omega
theorem W4.notup (h : W4 K H p s dx wd ba ca rd cd N rs gb gc ks) {t : Addr} {xs : List V} (e : H t = some (.tup xs)) : ¬ Own7 p s wd ba ca rd cd t := fun hb => by
  obtain ⟨a1, a2, e', _⟩ := h.pot
  simp only [Own7, List.mem_cons, List.not_mem_nil, or_false] at hb
  rcases hb with rfl | rfl | rfl | rfl | rfl | rfl | rfl
  · rw [e] at e'; cases e'
  · have z := h.st.o; rw [e] at z; cases z
  · have z := h.st.w; rw [e] at z; cases z
  · have z := h.st.b; rw [e] at z; cases z
  · have z := h.st.c; rw [e] at z; cases z
  · have z := h.rd; rw [e] at z; cases z
  · have z := h.cd; rw [e] at z; cases z
theorem rows_keep {l : Addr} {qs : Rms} (h : RowsAt H l qs) (x : Ext M H H2) (hl : ¬ M l) (ht : ∀ t xs, H t = some (.tup xs) → ¬ M t) : RowsAt H2 l qs := by
  obtain ⟨ys, e, p⟩ := h
  exact ⟨ys, x _ _ hl e, paired_map p fun r y ⟨t, h1, hn, et⟩ => ⟨t, h1, hn, x _ _ (ht _ _ et) et⟩⟩
abbrev lastD : PyData := .tuple [.int 0, rowsD [((0 : Int), (32 : Int))]]
theorem last_shape : SeqAt.shaped lastD = true := by decide +kernel
theorem last_eq : PyData.eqv lastD lastD = true := by decide +kernel
theorem wide32 : wideOf 32 = 32 := by decide
theorem kvs_nil : (kvsOf rs = []) ↔ rs = [] := by
  unfold kvsOf
  exact List.map_eq_nil_iff
theorem gaps_one (hN : 0 < N) : gaps 0 (([] : Rms) ++ [((N : Int), 0)]) = [((0 : Int), (N : Int))] := by
  simp [gaps, hN]
theorem one_shape {N : Int} : SeqAt.shaped (rowsD [((0 : Int), N)]) = true := by
  simp [rowsD, rowD, SeqAt.shaped, PyData.canLay0, PyData.canLayAll0, PyData.depth, PyData.depthAll]
theorem one_eq {N : Int} : PyData.eqv (rowsD [((0 : Int), N)]) (rowsD [((0 : Int), N)]) = true := by
  simp [rowsD, rowD, PyData.eqv, PyData.eqvAll]
end
end Hd

namespace Hd
open PySem PySem.Spec PyProof.Rows L2 Rw
section
variable {K : PySem.W.Frag} {M : Addr → Prop} {H H2 : Hp} {Q : VK} {E : XK} {n : Nat}
theorem pure_law (K : PySem.W.Frag) (H : Hp) (a : Addr) (ns : List Int) (hf : ∀ f ∈ fa, f.ok K = true) (hx : ∀ f ∈ xa, f.ok K = true) (hn : ns.length ≤ 63) (h2 : Only H) (hs : SqL K H a (ns.map V.int)) : lev K es (20 + 1) ("law", none) [.ref a] H (fun v _ => v = .bl true) fun _ _ _ => False := by
  have hW : HasW K := fun H => He.tupB_ok (hx _ (List.mem_singleton.mpr rfl)) H
  refine lev_in (en := e_law) rfl rfl ?_
  dsimp only [e_law, D_law, cn0, Cn.blk]
  have sz : (200000 : Nat) < sizeLine := by decide
  walk_at "go"
  refine v_lenQ hs ?_
  walk_at "go"
  generalize hj : (if (if ((ns.map V.int).length : Int) < 6 then ((ns.map V.int).length : Int) else 6) > 1 then (if ((ns.map V.int).length : Int) < 6 then ((ns.map V.int).length : Int) else 6) else 1) = j
  have hj2 : 0 ≤ j ∧ j ≤ 6 := by
    rw [← hj]
    split <;> split <;> omega
  refine j_rng1 (by omega) (by omega) ?_
  refine for_go (fun _ σ H' => Ext noM H H' ∧ ∃ v1 v2 v3 v4 v5 v6 v7 v8 v9 : Option V, σ = [some (.ref a), v1, v2, v3, v4, v5, v6, v7, v8, v9]) tells_rng ⟨Ext.rfl, _, _, _, _, _, _, _, _, _, rfl⟩ (fun k σ H1 x hP hx => ?_) fun σ H' hP => ?_
  · obtain ⟨x1, v1, v2, v3, v4, v5, v6, v7, v8, v9, rfl⟩ := hP
    obtain ⟨hk, rfl⟩ := rngL_at hx
    rw [Int.zero_add]
    have hs1 := sql_ext hs x1 fun _ => noM_not
    walk_at "go"
    refine sp_lcell hs1 fun i => ?_
    walk_at "go"
    refine sp_pot fun p H2 np x2 pot2 => ?_
    walk_at "go"
    intro l3 H3 nl3 x3 el3
    walk_at "go"
    refine sp_draw (pot2.new x3) (by decide) (by decide) fun d H4 d0 d1 x4 pot4 => ?_
    have el4 := x4 _ _ ((pot2.new Ext.rfl).ne nl3) el3
    obtain ⟨v, ev, mv⟩ := at_mem (xs := [V.int 16, V.int 17, V.int 40, V.int 64, V.int 130, V.int 512, V.int 20000]) d0 d1
    refine v_ixL el4 ev ?_
    have hv : ∃ N : Nat, v = .int (N : Nat) ∧ SizeOk N := by
      simp only [List.mem_cons, List.not_mem_nil, or_false] at mv
      rcases mv with rfl | rfl | rfl | rfl | rfl | rfl | rfl
      · exact ⟨16, rfl, .inl (by omega)⟩
      · exact ⟨17, rfl, .inl (by omega)⟩
      · exact ⟨40, rfl, .inl (by omega)⟩
      · exact ⟨64, rfl, .inl (by omega)⟩
      · exact ⟨130, rfl, .inl (by omega)⟩
      · exact ⟨512, rfl, .inl (by omega)⟩
      · exact ⟨20000, rfl, .inr rfl⟩
    obtain ⟨N, rfl, hN⟩ := hv
    walk_at "go"
    refine x_par3 ?_
    walk_at "go"
    refine e_mk _ rfl rfl ?_
    walk_at "go"
    refine ⟨rfl, rfl, fun s dx ns nx ne => ?_⟩
    dsimp only [plug, List.map, List.nil_append, List.cons_append, nth]
    have xo : Ext noM H4 (upd (upd H4 dx (.own s)) s (.ins (He.ga K "Store") dx [])) := (Ext.new nx).trans (Ext.new (by rw [upd_ne ne.symm]; exact ns))
    refine sp_init upd_same hN fun wd ba ca H5 nw nb nc ap x5 st5 => ?_
    refine ⟨rfl, ?_⟩
    walk_at "go"
    refine e_dnew fun rd H6 nr x6 er => ?_
    walk_at "go"
    refine e_dnew fun cd H7 ncd x7 ec => ?_
    walk_at "go"
    refine ⟨_, _, _, rfl, ?_⟩
    have hNN : 16 ≤ N ∧ N ≤ 20000 := by rcases hN with z | z <;> omega
    have nep : ¬ at1 p s := pot4.ne ns
    have pos5 : Pot H5 p := (pot4.new xo).ext (fun z => nep (show s = p from (show p = s from z).symm)) x5
    have fr4 : ∀ b, H4 b = none → H1 b = none := fun b z => by
      have z3 := none_of x4 (pot4.ne z) z
      exact none_of x2 noM_not (none_of x3 noM_not z3)
    have fr5 : ∀ b, H5 b = none → H4 b = none := fun b z => none_of xo noM_not (none_of x5 (fun e => by rw [show b = s from e, st5.o] at z; cases z) z)
    have fro : ∀ b, upd (upd H4 dx (.own s)) s (.ins (He.ga K "Store") dx []) b = none → H4 b = none := fun b z => none_of xo noM_not z
    have fr6 : ∀ b, H6 b = none → H5 b = none := fun b z => none_of x6 noM_not z
    have nee : ∀ {H' : Hp} {q r : Addr} {o : HO}, H' q = some o → H' r = none → r ≠ q := fun {H' q r o} e z c => by rw [c, e] at z; cases z
    have st6 := st5.ext x6
    have st7 := st6.ext x7
    have pos6 := pos5.new x6
    have pos7 := pos6.new x7
    have er7 := x7 _ _ noM_not er
    have f : Far p s wd ba ca rd cd := by
      refine ⟨ap, ?_, ?_, ?_⟩
      · simp only [List.mem_cons, List.not_mem_nil, or_false]
        rintro q (rfl | rfl | rfl | rfl | rfl | rfl)
        · exact fun z => nep z.symm
        · exact fun z => pot4.ne (fro _ nw) z.symm
        · exact fun z => pot4.ne (fro _ nb) z.symm
        · exact fun z => pot4.ne (fro _ nc) z.symm
        · exact fun z => pos5.ne nr z.symm
        · exact fun z => pos6.ne ncd z.symm
      · simp only [List.mem_cons, List.not_mem_nil, or_false]
        rintro q (rfl | rfl | rfl | rfl | rfl)
        · exact nee st5.o nr
        · exact nee st5.w nr
        · exact nee st5.b nr
        · exact nee st5.c nr
        · exact (nee er ncd).symm
      · simp only [List.mem_cons, List.not_mem_nil, or_false]
        rintro q (rfl | rfl | rfl | rfl)
        · exact nee st6.o ncd
        · exact nee st6.w ncd
        · exact nee st6.b ncd
        · exact nee st6.c ncd
    have h7 : W4' K H7 p s dx wd ba ca rd cd N [] (fun _ => .non) (fun _ => .non) [] :=
      ⟨⟨pos7, st7, er7, ec⟩, ⟨⟨fun r hr => (List.not_mem_nil hr).elim, List.Pairwise.nil⟩, fun r hr => (List.not_mem_nil hr).elim, fun _ _ _ => rfl, fun _ _ => .non, fun k hk => (List.not_mem_nil hk).elim, fun j ⟨r, hr, _⟩ => (List.not_mem_nil hr).elim⟩⟩
    have at7s : ∀ q, at1 s q → Own7 p s wd ba ca rd cd q := fun q z => by rw [show q = s from z]; simp [Own7]
    have X7 : Ext (Own7 p s wd ba ca rd cd) H1 H7 := (x2.up.trans (x3.up.trans (x4.sub at1_7p))).trans ((xo.up.trans (x5.sub at7s)).trans (x6.up.trans x7.up))
    have fresh : ∀ q, Own7 p s wd ba ca rd cd q → H1 q = none := fun q hq => by
      simp only [Own7, List.mem_cons, List.not_mem_nil, or_false] at hq
      rcases hq with rfl | rfl | rfl | rfl | rfl | rfl | rfl
      · exact np
      · exact fr4 _ ns
      · exact fr4 _ (fro _ nw)
      · exact fr4 _ (fro _ nb)
      · exact fr4 _ (fro _ nc)
      · exact fr4 _ (fr5 _ nr)
      · exact fr4 _ (fr5 _ (fr6 _ ncd))
    have fin : ∀ H', Ext (Own7 p s wd ba ca rd cd) H7 H' → Ext noM H1 H' := fun H' x' => (X7.trans x').drop (p := p) fresh
    walk_at "go"
    refine sp_draw pos7 (by decide) (by decide) fun T H8 T0 T1 x8 pot8 => ?_
    have h8 := W4.draw' h7 f x8 pot8
    have X8 : Ext (Own7 p s wd ba ca rd cd) H7 H8 := x8.sub at1_7p
    walk_at "go"
    refine j_rng1 (by omega) (by omega) ?_
    refine for_go (fun k2 σ H' => k2 ≤ 61 ∧ Ext (Own7 p s wd ba ca rd cd) H8 H' ∧ (∃ rs gb gc ks, W4' K H' p s dx wd ba ca rd cd N rs gb gc ks ∧ rs.length ≤ k2 ∧ ks.length ≤ 40 * k2) ∧ ∃ v7 v8 v9 : Option V, σ = [some (.ref a), some (.int k), some (.ref p), some (.int N), some (.ref s), some (.ref rd), some (.ref cd), v7, v8, v9])
      tells_rng ⟨by omega, Ext.rfl, ⟨_, _, _, _, h8, Nat.le_refl _, Nat.le_refl _⟩, _, _, _, rfl⟩ (fun k2 σ H9 x hP hx => ?_) fun σ H9 hP => ?_
    · obtain ⟨hk1, xe, ⟨rs, gb, gc, ks, hh, l1, l2⟩, v7, v8, v9, rfl⟩ := hP
      obtain ⟨hk3, rfl⟩ := rngL_at hx
      have hk4 : k2 + 1 ≤ 61 := by omega
      have ok := hh.2.ok
      have ho := hh.1.st.o
      walk_at "go"
      refine sp_rooms hh.1.st ok.nodup (by omega) fun la H10 s1 pm1 st1 nla x10 ra => ?_
      have h10 := W4.new' hh x10
      have ho10 := h10.1.st.o
      walk_at "go"
      refine sp_stretches h10.1.st ok.nodup (by omega) fun lb H11 s2 pm2 st2 nlb x11 rb => ?_
      obtain rfl := order_uniq ok pm1 st1 pm2 st2
      have h11 := W4.new' h10 x11
      walk_at "go"
      intro lc H12 nlc x12 elc
      have h12 := W4.new' h11 x12
      have i1 := rms_int ok pm1 (by omega)
      have i2 := gaps_int ok pm1 st1 (by omega)
      have sl : s1.length ≤ 61 := by rw [pm1.length_eq]; omega
      have gl := gaps_len 0 (s1 ++ [((N : Int), 0)])
      rw [List.length_append, List.length_singleton] at gl
      obtain ⟨o1, o2, o3⟩ := two_shw i1 i2 (by omega) (by omega)
      have ra12 := rows_new ra (x11.trans x12)
      have rb12 := rows_new rb x12
      walk_at "go"
      refine v_repr _ (two_dp elc ra12 rb12) o1 o2 o3 ?_
      have there := h12.1.there
      refine x_name ?_
      dsimp only
      refine s_cut (fun σ' H' => Ext (Own7 p s wd ba ca rd cd) H12 H' ∧ (∃ rs gb gc ks, W4' K H' p s dx wd ba ca rd cd N rs gb gc ks ∧ rs.length ≤ k2 + 1 ∧ ks.length ≤ 40 * (k2 + 1)) ∧ σ' = [some (.ref a), some (.int k), some (.ref p), some (.int N), some (.ref s), some (.ref rd), some (.ref cd), some (.int (0 + (k2 : Int))), some (.ref lc), some (.str (PyData.list [rowsD s1, rowsD (gaps 0 (s1 ++ [((N : Int), 0)]))]).shown)]) (fun N' hN' => ?_) fun σ' H' hq => ?_
      · walk_at "go"
        refine sp_draw h12.1.pot (by decide) (by decide) fun d5 H13 e0 e1 x13 p13 => ?_
        have h13 := W4.draw' h12 f x13 p13
        have X13 : Ext (Own7 p s wd ba ca rd cd) H12 H13 := x13.sub at1_7p
        walk_at "go"
        refine i_dec (fun hd => ?_) fun hd => ?_
        · walk_at "go"
          refine sp_taken hW f h13 (by omega) (by omega) (by omega) fun rs' gb' gc' ks' H14 w14 lr lk x14 => ?_
          walk_at "go"
          exact hN' _ _ ⟨X13.trans x14, ⟨_, _, _, _, w14, by omega, by omega⟩, rfl⟩
        · walk_at "go"
          refine e_dnew fun z H14 nz x14 ez => ?_
          have h14 := W4.new' h13 x14
          walk_at "go"
          refine v_eqD0 h14.1.rd ez ?_
          walk_at "go"
          refine i_dec (fun he => ?_) fun he => ?_
          · walk_at "go"
            refine sp_taken hW f h14 (by omega) (by omega) (by omega) fun rs' gb' gc' ks' H15 w15 lr lk x15 => ?_
            walk_at "go"
            exact hN' _ _ ⟨X13.trans (x14.up.trans x15), ⟨_, _, _, _, w15, by omega, by omega⟩, rfl⟩
          · walk_at "go"
            refine sp_given f h14 (by omega) (by omega) (fun c => he (kvs_nil.mpr c)) fun rs' gb' gc' ks' H15 w15 lr lk x15 => ?_
            walk_at "go"
            exact hN' _ _ ⟨X13.trans (x14.up.trans x15), ⟨_, _, _, _, w15, by omega, by omega⟩, rfl⟩
      · obtain ⟨x13, ⟨rs', gb', gc', ks', h13, l1', l2'⟩, rfl⟩ := hq
        walk_at "go"
        refine sp_lright f h13 (by omega) (by omega) fun H14 x14 => ?_
        have h14 := W4.new' h13 x14
        walk_at "go"
        have nol : ∀ {q : Addr}, Own7 p s wd ba ca rd cd q → q ≠ lc := fun {q} hq z => by
          subst z
          exact h11.1.there _ hq nlc
        have elc14 : H14 lc = some (.lst [.ref la, .ref lb]) := x14 _ _ noM_not (x13 _ _ (fun z => nol z rfl) elc)
        have notup : ∀ t xs, H12 t = some (.tup xs) → ¬ Own7 p s wd ba ca rd cd t := fun t xs e => h12.1.notup e
        have ra14 := rows_new (rows_keep ra12 x13 (fun z => hh.1.there _ z nla) notup) x14
        have rb14 := rows_new (rows_keep rb12 x13 (fun z => h10.1.there _ z nlb) notup) x14
        refine v_repr _ (two_dp elc14 ra14 rb14) o1 o2 o3 ?_
        walk_at "go"
        refine i_ndec (fun z => absurd rfl z) fun _ => ?_
        walk_at "go"
        exact ⟨by omega, xe.trans ((x10.up.trans (x11.up.trans x12.up)).trans (x13.trans x14.up)), ⟨_, _, _, _, h14, by omega, by omega⟩, _, _, _, rfl⟩
    · obtain ⟨_, xe, ⟨rs, gb, gc, ks, hh, l1, l2⟩, v7, v8, v9, rfl⟩ := hP
      rw [rngL_len] at l1 l2
      walk_at "go"
      refine s_while ⟨fun m σ H' => Ext (Own7 p s wd ba ca rd cd) H8 H' ∧ (∃ rs gb gc ks, W4' K H' p s dx wd ba ca rd cd N rs gb gc ks ∧ rs.length = m ∧ rs.length ≤ 61) ∧ ∃ v7 v8 v9 : Option V, σ = [some (.ref a), some (.int k), some (.ref p), some (.int N), some (.ref s), some (.ref rd), some (.ref cd), v7, v8, v9], ⟨rs.length, xe, ⟨_, _, _, _, hh, rfl, by omega⟩, _, _, _, rfl⟩, fun m σ H10 hP => ?_⟩
      obtain ⟨xe, ⟨rs, gb, gc, ks, hh, l1, l2⟩, v7, v8, v9, rfl⟩ := hP
      walk_at "go"
      refine e_dnew fun z H11 nz x11 ez => ?_
      have h11 := W4.new' hh x11
      walk_at "go"
      refine v_neD0 h11.1.rd ez ?_
      walk_at "go"
      refine i_ndec (fun he => ?_) fun he => ?_
      · refine ⟨fun σ' H' => Ext (Own7 p s wd ba ca rd cd) H8 H' ∧ (∃ rs' gb gc ks, W4' K H' p s dx wd ba ca rd cd N rs' gb gc ks ∧ rs'.length < m ∧ rs'.length ≤ 61) ∧ ∃ v7 v8 v9 : Option V, σ' = [some (.ref a), some (.int k), some (.ref p), some (.int N), some (.ref s), some (.ref rd), some (.ref cd), v7, v8, v9], fun σ' H' ⟨x', ⟨rs', gb', gc', ks', w', lt, le⟩, r⟩ => ⟨rs'.length, lt, x', ⟨_, _, _, _, w', rfl, le⟩, r⟩, ?_⟩
        walk_at "go"
        refine sp_given f h11 (by omega) (by omega) (fun c => he (kvs_nil.mpr c)) fun rs' gb' gc' ks' H12 w12 lr lk x12 => ?_
        walk_at "go"
        refine sp_lright f w12 (by omega) (by omega) fun H13 x13 => ?_
        walk_at "go"
        exact ⟨xe.trans (x11.up.trans (x12.trans x13.up)), ⟨_, _, _, _, W4.new' w12 x13, by omega, by omega⟩, _, _, _, rfl⟩
      · obtain rfl := kvs_nil.mp he
        have ho11 := h11.1.st.o
        have XE : Ext (Own7 p s wd ba ca rd cd) H8 H11 := xe.trans x11.up
        walk_at "go"
        refine sp_stretches h11.1.st (by simp) (by simp) fun l12 H12 ss pm st nl x12 r12 => ?_
        obtain rfl := List.perm_nil.mp pm
        rw [gaps_one (by omega)] at r12
        have h12 := W4.new' h11 x12
        walk_at "go"
        intro t H13 nt x13 et
        walk_at "go"
        intro l14 H14 nl14 x14 e14
        have h14 := W4.new' (W4.new' h12 x13) x14
        walk_at "go"
        refine v_neDat (rowsD [((0 : Int), (N : Int))]) (rowsD [((0 : Int), (N : Int))]) (rows_dp (rows_new r12 (x13.trans x14))) (.lst (.inl (.inl e14)) (.cons (.tup (.inl (.inl (x14 _ _ noM_not et))) (.cons (.int _) (.cons (.int _) .nil))) .nil)) one_shape one_shape ?_
        rw [one_eq]
        have ho14 := h14.1.st.o
        walk_at "go"
        refine ⟨_, _, _, _, _, rfl, ho14, rfl, rfl, ?_⟩
        refine sp_len h14.1.st ?_
        refine ⟨_, rfl, by simp, ?_⟩
        walk_at "go"
        refine i_ndec (fun z => absurd rfl z) fun _ => ?_
        walk_at "go"
        have X14 : Ext (Own7 p s wd ba ca rd cd) H7 H14 := X8.trans (XE.trans ((x12.trans x13).trans x14).up)
        refine i_dec (fun hl => ?_) fun hl => ?_
        · walk_at "go"
          refine sp_take hW f.ap h14.1.st h14.2.ok (by omega) (by simp) (by decide) (by decide) (fun tt pt st => ?_) fun a' w H15 ew fit x15 s15 => ?_
          · obtain rfl := List.perm_nil.mp pt
            rw [gaps_one (by omega), wide32]
            exact ⟨_, List.mem_singleton.mpr rfl, by dsimp only; omega⟩
          obtain ⟨tt, len, pt, _, mem, _⟩ := fit
          obtain rfl := List.perm_nil.mp pt
          rw [gaps_one (by omega)] at mem
          have ea := (Prod.mk.inj (List.mem_singleton.mp mem)).1
          rw [wide32] at ew
          rw [ew, ea] at s15
          rw [ea]
          have ho15 := s15.o
          have X15 : Ext (Own7 p s wd ba ca rd cd) H7 H15 := X14.trans (x15.sub own3_7)
          walk_at "go"
          refine sp_rooms s15 (by simp) (by show 1 < sizeLine; decide) fun l16 H16 s16 pm16 st16 nl16 x16 r16 => ?_
          obtain rfl := List.perm_singleton.mp pm16
          walk_at "go"
          intro t17 H17 nt17 x17 et17
          walk_at "go"
          intro t18 H18 nt18 x18 et18
          walk_at "go"
          intro l19 H19 nl19 x19 el19
          walk_at "go"
          intro t20 H20 nt20 x20 et20
          have r20 := rows_new r16 ((x17.trans x18).trans (x19.trans x20))
          have a17 := (x18.trans (x19.trans x20)) _ _ noM_not et17
          have a18 := (x19.trans x20) _ _ noM_not et18
          have a19 := x20 _ _ noM_not el19
          walk_at "go"
          refine v_neDat lastD lastD (.tup (.inl (.inl a17)) (.cons (.int _) (.cons (rows_dp r20) .nil))) (.tup (.inl (.inl et20)) (.cons (.int _) (.cons (.lst (.inl (.inl a19)) (.cons (.tup (.inl (.inl a18)) (.cons (.int _) (.cons (.int _) .nil))) .nil)) .nil))) last_shape last_shape ?_
          rw [last_eq]
          walk_at "go"
          exact ⟨x1.trans (fin _ (X15.trans ((x16.trans x17).trans ((x18.trans x19).trans x20)).up)), _, _, _, _, _, _, _, _, _, rfl⟩
        · walk_at "go"
          exact ⟨x1.trans (fin _ X14), _, _, _, _, _, _, _, _, _, rfl⟩
  · obtain ⟨x1, v1, v2, v3, v4, v5, v6, v7, v8, v9, rfl⟩ := hP
    walk_at "go"
    exact rfl
end
end Hd

open PySem PySem.W PySem.Calls PyProof.Rows
theorem PySem.Challenge.cw_roomwhole_k14_given_back_holds : PySem.Challenge.rw_roomwhole_k14_given_back.Holds := by
  w_on; o_law
  refine HandSHeadRun.head_any (r := OpenLaw.row PySem.Challenge.rw_roomwhole_k14_given_back) (q := view (OpenLaw.row PySem.Challenge.rw_roomwhole_k14_given_back).prog [37]) (H := Hd.hk) (ob := Hd.ob) (M := 20000) (loose := Hd.lo) (d := HandSHeadRun.topDef (OpenLaw.row PySem.Challenge.rw_roomwhole_k14_given_back).prog 37) (kwd := []) Hd.ob_eq
    (by kernel_rfl) (fun s => by kernel_rfl) Hd.run (by kernel_rfl) (by kernel_rfl) (by kernel_rfl) (by rfl) (by first | assumption | decide +kernel) (by decide +kernel) ⟨rfl, rfl, rfl, rfl, rfl, by decide +kernel⟩ ?hw ?hc
  case hw => w_witness2
  case hc =>
    exact Rw.walk_es (l := PySem.Challenge.rw_roomwhole_k14_given_back) (m := 63) (n := 20) (enL := Hd.e_law) rfl (by decide) (by kernel_rfl) (by kernel_rfl) (by decide) rfl Hd.es_ok Hd.sc_ok Hd.sh_ok rfl rfl rfl (fun _ _ _ _ _ _ _ => rfl) rfl Hd.pure_law

