import PyProof.Rows.All
import Wide.All
import OpenK.AllK
import Wide.FinOn
import KE.KStateDown
import Lean
import HandS.ForMost
import HandS.Exc
import HandS.ExcOwn
import HandS.ExcInit
import HandS.ExcField
import HandS.ExcIs
import HandS.TryMany
import KE.KExcIs
import HandS.TryOnly
import HandS.Defaults
import HandS.IsInst
import HandS.FStr
import HandS.DictComp
import HandS.Flow
import HandS.Small
import HandS.HeadHook2
import HandS.HeadEnd
import HandS.WideBits
import HandS.Deep
import HandS.SortRule
import HandS.SortInts
import HandS.SortKw
import HandS.Style
import HandS.More
import KE.KMinBuiltin
import OpenK.KOps
import HandS.Head0
import HandS.Head1
import HandS.Head2
import HandS.HeadHook1
import PySem.Challenge.RW_roomwhole_k21_laid
set_option Elab.async false
set_option linter.all false
set_option maxRecDepth 100000
set_option maxHeartbeats 4000000
namespace Rw
open PySem PySem.Spec PyProof.Rows L2

/-! ### what a body may lean on -/
abbrev Ky := Str × Option Str
inductive Src where
  | pos (i : Nat) | kw (j : Nat) | dfl (v : He.Dv)
structure Shp where
  key : Ky
  n : Nat
  ks : List Str
  plan : List Src
def nth : List V → Nat → V
  | [], _ => .non
  | x :: _, 0 => x
  | _ :: l, n + 1 => nth l n
theorem nth_at : ∀ (l : List V) (n : Nat), nth l n = l.getD n .non
  | [], n => by cases n <;> rfl
  | _ :: _, 0 => rfl
  | _ :: l, n + 1 => nth_at l n
def plug (K : PySem.W.Frag) (plan : List Src) (vs zs : List V) : List V := plan.map fun s => match s with
  | .pos i => nth vs i
  | .kw j => nth zs j
  | .dfl v => v.v K
def noW : WX := fun _ _ _ _ => False
/-- more facts of what is written: x a tuple; x a class of exceptions; .. under y or not; .. under a built-in one or not; x has no f; x's own __init__; m of the class x is a def; x's __init__ is ValueError's -/
inductive Ex where
  | tup (x : Str) (vs : List He.Dv) | exn (x : Str) | sub (x y : Str) (b : Bool) | ty (x : Str) (n : String) (b : Bool) | no (x f : Str) | ini (x : Str) | cfn (x m y : Str) | cve (x : Str)
/-- a class over ValueError whose instances have a dict -/
def exiC (K : PySem.W.Frag) (C : Addr) : Bool := match K.lookup C with
  | some ⟨.type "type", _, .cls cd, sl⟩ => (match cd.mro, sl.toList with
    | .ref D :: bm, [_, _, _, _, some (.builtin n), _] => decide (D = C) && (decide (n = "ValueError.__new__") && (!cd.hasDel && (cd.hasDict && PySem.HandSPX.refsVE bm)))
    | _, _ => false)
  | _ => false
def exiB (K : PySem.W.Frag) (C : Addr) : Bool := exiC K C && (decide (PySem.W.findIn K (.ref C) "__setattr__" = some (some (.builtin "object.__setattr__"))) && (decide (PySem.W.subIn K (.ref C) (.type "BaseException") = some true) &&
  (decide (PySem.W.typeIn K (.ref C) = some (.type "type")) && PySem.W.keepIn K (.ref C))))
theorem exiB_ok {K : PySem.W.Frag} {C : Addr} (h : exiB K C = true) : OexC K C := by
  obtain ⟨h0, h⟩ := He.ba h
  obtain ⟨h1, h⟩ := He.ba h
  obtain ⟨h2, h⟩ := He.ba h
  obtain ⟨h3, h4⟩ := He.ba h
  refine ⟨?_, of_decide_eq_true h1, of_decide_eq_true h2, of_decide_eq_true h3, h4⟩
  unfold exiC at h0
  split at h0
  · rename_i dd cd sl ho
    split at h0
    · rename_i D bm k0 k1 k2 k3 n k5 hm hs
      simp only [Bool.and_eq_true, decide_eq_true_eq, Bool.not_eq_true'] at h0
      obtain ⟨rfl, rfl, hdel, hdct, hv⟩ := h0
      obtain ⟨nm, bs, mro, ns, qn, hd, sn, sub, ab, col, del⟩ := cd
      dsimp only at hm hdel hdct
      subst hm hdel hdct
      obtain ⟨l⟩ := sl
      simp only at hs
      subst hs
      exact ⟨nm, qn, ns, bs, bm, sn, sub, ab, col, dd, k0, k1, k2, k3, k5, ho, hv⟩
    · cases h0
  · cases h0
def isVal (o : Option PySem.W.CFound) (v : Value) : Bool := match o with
  | some (.val u) => decide (u = v)
  | _ => false
theorem isVal_ok {o : Option PySem.W.CFound} {v : Value} (h : isVal o v = true) : o = some (.val v) := by
  unfold isVal at h
  split at h
  · rw [of_decide_eq_true h]
  · cases h
def Ex.ok (K : PySem.W.Frag) : Ex → Bool
  | .tup x vs => He.tupB K x vs
  | .exn x => (PySem.W.clsIn K (He.ga K x)).isSome && (xfB K (He.ga K x) && (decide (PySem.W.findIn K (.ref (He.ga K x)) "__class__" = some (some (.builtin "object.__class__"))) &&
      (decide (PySem.W.specialIn K (.builtin "object.__class__") "__get__" = some (some (.builtin "getset_descriptor.__get__"))) && (decide (PySem.W.takesIn K (.builtin "object.__class__") = some true) && decide (PySem.W.mroIn K (He.ga K x) (.type "object") = some true)))))
  | .sub x y b => decide (PySem.W.exmOne K (.ref (He.ga K x)) (.ref (He.ga K y)) = some b) && decide (PySem.W.kitOne K (.ref (He.ga K x)) (.ref (He.ga K y)) = some b)
  | .ty x n b => decide (PySem.W.kitOne K (.ref (He.ga K x)) (.type n) = some b)
  | .no x f => decide (PySem.W.findIn K (.ref (He.ga K x)) f = some none)
  | .ini x => exiB K (He.ga K x) && (decide (PySem.W.findIn K (.ref (He.ga K x)) "__init__" = some (some (.ref (He.ma K (He.ga K x) "__init__")))) && decide (PySem.W.typeIn K (.ref (He.ma K (He.ga K x) "__init__")) = some (.type "function")))
  | .cfn x m y => PySem.W.readsIn K (He.ga K x) (.type "type") && (decide (PySem.W.specialIn K (.ref (He.ga K x)) "__getattribute__" = some (some (.builtin "type.__getattribute__"))) &&
      (isVal (PySem.W.findCls K (.ref (He.ga K x)) (.type "type") m) (.ref (He.fAd K (y, some m))) && PySem.W.handedIn (.ref (He.fAd K (y, some m)))))
  | .cve x => PySem.W.readsIn K (He.ga K x) (.type "type") && (decide (PySem.W.specialIn K (.ref (He.ga K x)) "__getattribute__" = some (some (.builtin "type.__getattribute__"))) &&
      isVal (PySem.W.findCls K (.ref (He.ga K x)) (.type "type") "__init__") (.builtin "ValueError.__init__"))

/-- a def that stands behind the top keeps a promise, where no text is being shown -/
structure FnG (P : Program) (w : World) (K : PySem.W.Frag) (mg : Str → Option Value) (base : Heap) (k : Nat) (f : Addr) (fd : FuncData) (ps : List Str) (sp : Sp) : Prop where
  len : ∀ vs H Q E, sp vs H Q E → vs.length = ps.length
  run : ∀ (A : Around) (outer : List Env) (s : Shared) (H : Hp) (args : Args) (us : List Value) (vs : List V) (Q : VK) (E : XK), Room k A → A.guards = some [] →
    Env0 P w K mg base A outer s H → BindsTo s fd args (ps.zip us) → Vals vs us → sp vs H Q E → codeAny (model P w) A (.call (.ref f) args) (CR (L2.CX P w) outer P w H s Q E) s

/-- what the rules know: hot: within an except suite; top: in a def's own frame -/
structure Cn where
  hot : Bool
  top : Bool
  K : PySem.W.Frag
  fa : List He.Fa
  sh : List Shp
  Ph : Ky → Sp
  N : List Str
  sc : Scope
  fnn : Str → Bool
  W : WX
  xa : List Ex
  cx : Option (Addr × Value × Option Addr)
structure CalleeP (P : Program) (w : World) (L : PySem.W.Frag) (mg : Str → Option Value) (base : Heap) (K : PySem.W.Frag) (k : Nat) (s : Shp) (sp : Sp) : Prop where
  ex : ∃ (fd : FuncData) (ps : List Str) (g : List Value → List Value → List Value), FnG P w L mg base k (He.fAd K s.key) fd ps sp ∧ KBn L fd ps s.n s.ks g (plug K s.plan)
  kp : PySem.W.keepIn K (.ref (He.fAd K s.key)) = true
abbrev Callee (X : Cx) (K : PySem.W.Frag) (k : Nat) (s : Shp) (sp : Sp) : Prop := CalleeP X.prog X.w X.K X.mg X.base K k s sp
structure Bd (c : Cn) (X : Cx) : Prop where
  hK : X.K = c.K
  hN : X.N = c.N
  hsc : X.env.scope = c.sc
  nd : c.N.Nodup
  calm : c.hot = false → X.calm = true
  cold : c.hot = false → X.A.handled = none
  gu : X.A.guards = some []
  tk : Takes X c.W
  po : PassesOwn (model X.prog X.w) X.A X.env X.xe
  stk : c.top = true → X.stack = X.env :: X.outer ∧ X.env.frame = some X.env.locals ∧ X.ex = []
  un : X.A.units + 200 < cLine
  fns : c.hot = false → ∃ k, Room (k + 1) X.A ∧ ∀ s ∈ c.sh, Callee X c.K k s (c.Ph s.key)
  fo : ∀ f ∈ c.fa, f.ok c.K = true
  gx : ∃ h : Heap, c.K.In h ∧ h.Ns mainGlobals X.mg
  fn : ∀ x, c.fnn x = true → X.fn x = true
  xo : ∀ f ∈ c.xa, f.ok c.K = true
  pin : ∀ a cls d, c.cx = some (a, cls, d) → ∃ oe, (a, oe) ∈ X.pn ∧ Zc cls d oe ∧ ∃ vs, oe.data = .fields vs
/-! ### the contexts within -/
def Cn.blk (c : Cn) (scope : Scope) : Cn := { c with top := false, sc := relS scope c.sc, fnn := fun x => scope.names.lookup x == some .cell, W := noW, cx := none }
def Cn.tr (c : Cn) (W : WX) : Cn := { c with W := W, cx := none }
def Cn.su (c : Cn) (a : Addr) (cls : Value) (d : Option Addr) : Cn := { c with hot := true, W := noW, cx := some (a, cls, d) }
theorem takes_no {X : Cx} (h : X.xe = fun _ _ => False) : Takes X noW := fun u s' x => by
  obtain ⟨_, _, _, _, _, _, _, _, _, _, _, _, _, _, _, _, z⟩ := x
  exact z.elim
theorem Bd.blk {c : Cn} {X : Cx} (b : Bd c X) (s : Shared) (H : Hp) (scope : Scope) (C : Addr) (cl : List (Str × Addr)) (fp : List Addr) :
    Bd (c.blk scope) (X.blk s H scope (compEnvC scope cl C X.env) fp) where
  hK := b.hK
  hN := b.hN
  hsc := by
    show relS scope X.env.scope = relS scope c.sc
    rw [b.hsc]
  nd := b.nd
  calm := b.calm
  cold := b.cold
  gu := b.gu
  tk := takes_no rfl
  po := PassesOwn.never
  stk := fun z => absurd z Bool.false_ne_true
  un := b.un
  fns := fun z => by
    obtain ⟨k, r, f⟩ := b.fns z
    exact ⟨k, r, fun s hs => ⟨(f s hs).ex, (f s hs).kp⟩⟩
  fo := b.fo
  gx := b.gx
  fn := fun _ z => z
  xo := b.xo
  pin := fun _ _ _ z => by cases z
theorem Bd.tr {c : Cn} {X : Cx} (b : Bd c X) {W : WX} {pn : List (Addr × Obj)} {xe : Value → Shared → Prop} (t : Takes (X.tr pn xe) W) (p : PassesOwn (model X.prog X.w) X.A X.env xe) : Bd (c.tr W) (X.tr pn xe) where
  hK := b.hK
  hN := b.hN
  hsc := b.hsc
  nd := b.nd
  calm := b.calm
  cold := b.cold
  gu := b.gu
  tk := t
  po := p
  stk := b.stk
  un := b.un
  fns := fun z => by
    obtain ⟨k, r, f⟩ := b.fns z
    exact ⟨k, r, fun s hs => ⟨(f s hs).ex, (f s hs).kp⟩⟩
  fo := b.fo
  gx := b.gx
  fn := b.fn
  xo := b.xo
  pin := fun _ _ _ z => by cases z
theorem Bd.su {c : Cn} {X : Cx} (b : Bd c X) (a : Addr) (oe : Obj) (cls : Value) (d : Option Addr) (pn : List (Addr × Obj)) (hz : Zc cls d oe) (hd : ∃ vs, oe.data = .fields vs) : Bd (c.su a cls d) (X.suite a ((a, oe) :: pn)) where
  hK := b.hK
  hN := b.hN
  hsc := b.hsc
  nd := b.nd
  calm := fun z => absurd z.symm Bool.false_ne_true
  cold := fun z => absurd z.symm Bool.false_ne_true
  gu := b.gu
  tk := takes_no rfl
  po := PassesOwn.never
  stk := b.stk
  un := b.un
  fns := fun z => absurd z.symm Bool.false_ne_true
  fo := b.fo
  gx := b.gx
  fn := b.fn
  xo := b.xo
  pin := fun a' cls' d' z => by
    obtain ⟨rfl, rfl, rfl⟩ : a = a' ∧ cls = cls' ∧ d = d' := by simpa [Cn.su] using z
    exact ⟨oe, List.mem_cons_self, hz, hd⟩
/-! ### the judgements over all that is known -/
def GE (c : Cn) (e : Expr) (t : TE) : Prop := ∀ X, Bd c X → PE X e t
def GT (c : Cn) (e : Expr) (t : TT) : Prop := ∀ X, Bd c X → PT X e t
def GW (c : Cn) (e : Expr) (t : TT) : Prop := ∀ X, Bd c X → PW X e t
def GA (c : Cn) (es : List Expr) (t : TA) : Prop := ∀ X, Bd c X → PA X es t
def GK (c : Cn) (ks : List Keyword) (t : TA) : Prop := ∀ X, Bd c X → PK X ks t
def GS (c : Cn) (s : Stmt) (t : TS) : Prop := ∀ X, Bd c X → PS X s t
def GB (c : Cn) (ss : List Stmt) (t : TS) : Prop := ∀ X, Bd c X → PSs X ss t
def GG (c : Cn) (e : Expr) (t : TG) : Prop := ∀ X, Bd c X → PG X e t
def GGs (c : Cn) (es : List Expr) (t : TGs) : Prop := ∀ X, Bd c X → PGs X es t
def GI (c : Cn) (tg e : Expr) (t : TI) : Prop := ∀ X, Bd c X → PI X tg e t
def GO (c : Cn) (e : Option Expr) (t : TO) : Prop := ∀ X, Bd c X → PO X e t
def GTs (c : Cn) (es : List Expr) (t : TT) : Prop := ∀ X, Bd c X → PTs X es t
/-- what holds of an operation in every context that is so -/
def OpG (c : Cn) (f : Value → Value → Sem Value) (r : R2) : Prop := ∀ X, Bd c X → OpR X f r
def CallG (c : Cn) (f : Value) (r : List V → Hp → VK → Prop) : Prop := ∀ X, Bd c X → CallR X f r
def MtG (c : Cn) (id : String) (r : V → List V → Hp → VK → Prop) : Prop := ∀ X, Bd c X → MtR X id r

section
variable {c : Cn} {a b e o : Expr} {es : List Expr} {ta tb tc te to : TE} {t u : TT} {ts us : TS} {pos apos p : Pos} {x : Str}
/-! ### names and constants -/
theorem gv (i : Nat) (hN : c.N[i]? = some x := by rfl) (hv : Vis c.sc x := by first | exact Or.inl rfl | exact Or.inr (Or.inl rfl) | exact Or.inr (Or.inr rfl)) (hd : (x == ("__debug__" : Str)) = false := by decide)
    (hcd : (x == ("__classdict__" : Str)) = false := by decide) : GE c (.Name x pos) (tVar i) := fun X h => by
  have q := h.hN
  have q2 := h.hsc
  exact pe_var (by rw [q]; exact hN) (by rw [q2]; exact hv) hd hcd
theorem gi {i : Int} {j} : GE c (.Constant (.int i) j pos) (tC (.int i)) := fun _ _ => pe_int
theorem gb {v : Bool} {j} : GE c (.Constant (.bool v) j pos) (tC (.bl v)) := fun _ _ => pe_bl
theorem gn {j} : GE c (.Constant .none j pos) (tC .non) := fun _ _ => pe_non
theorem gs {z : Str} {j} : GE c (.Constant (.str z) j pos) (tC (.str z)) := fun _ _ => pe_str
def GlN (c : Cn) (x : Str) : Prop := c.sc.names.lookup x = some .globalImplicit
theorem Bd.gln {X : Cx} (h : Bd c X) (g : GlN c x) : Gl X x := by
  show X.env.scope.names.lookup x = _
  rw [h.hsc]
  exact g
def hasF (p : He.Fa → Bool) (fa : List He.Fa) : Bool := fa.any p
theorem hasF_of {q : He.Fa → Bool} {fa : List He.Fa} (h : hasF q fa = true) : ∃ f ∈ fa, q f = true := List.any_eq_true.mp h
def isGlo (x : Str) : He.Fa → Bool
  | .glo y => decide (x = y)
  | _ => false
def isFree (x : Str) : He.Fa → Bool
  | .free y => decide (x = y)
  | _ => false
def isInt (x : Str) (i : Int) : He.Fa → Bool
  | .int y j => decide (x = y) && decide (i = j)
  | _ => false
def isStr (x z : Str) : He.Fa → Bool
  | .str y w => decide (x = y) && decide (z = w)
  | _ => false
def isCls (x : Str) : He.Fa → Bool
  | .cls y => decide (x = y)
  | _ => false
def isNoat (x f : Str) : He.Fa → Bool
  | .noat y g => decide (x = y) && decide (f = g)
  | _ => false
def isMeth (x f : Str) : He.Fa → Bool
  | .meth y g => decide (x = y) && decide (f = g)
  | _ => false
def isMkr (x : Str) : He.Fa → Bool
  | .mkr y => decide (x = y)
  | _ => false
theorem Bd.glo {X : Cx} (h : Bd c X) (g : hasF (isGlo x) c.fa = true) : X.mg x = some (.ref (He.ga c.K x)) := by
  obtain ⟨f, hf, e⟩ := hasF_of g
  have q := h.fo f hf
  cases f with
  | glo y =>
    have e : x = y := of_decide_eq_true e
    subst e
    obtain ⟨g, k1, k2⟩ := h.gx
    exact He.glo_ok k1 k2 q
  | _ => cases e
theorem Bd.free {X : Cx} (h : Bd c X) (g : hasF (isFree x) c.fa = true) : X.mg x = none := by
  obtain ⟨f, hf, e⟩ := hasF_of g
  have q := h.fo f hf
  cases f with
  | free y =>
    have e : x = y := of_decide_eq_true e
    subst e
    obtain ⟨g, k1, k2⟩ := h.gx
    exact He.free_ok k1 k2 q
  | _ => cases e
theorem Bd.int {X : Cx} {i : Int} (h : Bd c X) (g : hasF (isInt x i) c.fa = true) : ∃ t, X.mg x = some (.int i t) := by
  obtain ⟨f, hf, e⟩ := hasF_of g
  have q := h.fo f hf
  cases f with
  | int y j =>
    obtain ⟨e1, e2⟩ := He.ba e
    have e1 : x = y := of_decide_eq_true e1
    have e2 : i = j := of_decide_eq_true e2
    subst e1 e2
    obtain ⟨g, k1, k2⟩ := h.gx
    exact He.int_ok k1 k2 q
  | _ => cases e
theorem Bd.str {X : Cx} {z : Str} (h : Bd c X) (g : hasF (isStr x z) c.fa = true) : ∃ t, X.mg x = some (.str z t) := by
  obtain ⟨f, hf, e⟩ := hasF_of g
  have q := h.fo f hf
  cases f with
  | str y w =>
    obtain ⟨e1, e2⟩ := He.ba e
    have e1 : x = y := of_decide_eq_true e1
    have e2 : z = w := of_decide_eq_true e2
    subst e1 e2
    obtain ⟨g, k1, k2⟩ := h.gx
    exact He.str_ok k1 k2 q
  | _ => cases e
theorem Bd.cls {X : Cx} (h : Bd c X) (g : hasF (isCls x) c.fa = true) : Cls c.K (He.ga c.K x) := by
  obtain ⟨f, hf, e⟩ := hasF_of g
  have q := h.fo f hf
  cases f with
  | cls y =>
    have e : x = y := of_decide_eq_true e
    subst e
    exact He.cls_ok q
  | _ => cases e
theorem Bd.noat {X : Cx} {m : Str} (h : Bd c X) (g : hasF (isNoat x m) c.fa = true) : NoAttr c.K (He.ga c.K x) m := by
  obtain ⟨f, hf, e⟩ := hasF_of g
  have q := h.fo f hf
  cases f with
  | noat y n =>
    obtain ⟨e1, e2⟩ := He.ba e
    have e1 : x = y := of_decide_eq_true e1
    have e2 : m = n := of_decide_eq_true e2
    subst e1 e2
    exact He.noat_ok q
  | _ => cases e
theorem Bd.meth {X : Cx} {m : Str} (h : Bd c X) (g : hasF (isMeth x m) c.fa = true) : Meth c.K (He.ga c.K x) m (He.ma c.K (He.ga c.K x) m) := by
  obtain ⟨f, hf, e⟩ := hasF_of g
  have q := h.fo f hf
  cases f with
  | meth y n =>
    obtain ⟨e1, e2⟩ := He.ba e
    have e1 : x = y := of_decide_eq_true e1
    have e2 : m = n := of_decide_eq_true e2
    subst e1 e2
    exact He.meth_ok q
  | _ => cases e
theorem Bd.mkr {X : Cx} (h : Bd c X) (g : hasF (isMkr x) c.fa = true) : Mk c.K (He.ga c.K x) (He.ma c.K (He.ga c.K x) "__init__") := by
  obtain ⟨f, hf, e⟩ := hasF_of g
  have q := h.fo f hf
  cases f with
  | mkr y =>
    have e : x = y := of_decide_eq_true e
    subst e
    exact He.mkr_ok q
  | _ => cases e
/-- a class, a def as a value -/
theorem gglo (hg : GlN c x := by rfl) (h : hasF (isGlo x) c.fa = true := by rfl) (hd : (x == ("__debug__" : Str)) = false := by decide) : GE c (.Name x pos) (tC (.ref (He.ga c.K x))) := fun X b =>
  pe_glob (b.gln hg) (b.glo h) rfl hd
theorem gint {i : Int} (hg : GlN c x := by rfl) (h : hasF (isInt x i) c.fa = true := by rfl) (hd : (x == ("__debug__" : Str)) = false := by decide) : GE c (.Name x pos) (tC (.int i)) := fun X b => by
  obtain ⟨t, e⟩ := b.int h
  exact pe_glob (b.gln hg) e ⟨t, rfl⟩ hd
theorem gstr {z : Str} (hg : GlN c x := by rfl) (h : hasF (isStr x z) c.fa = true := by rfl) (hd : (x == ("__debug__" : Str)) = false := by decide) : GE c (.Name x pos) (tC (.str z)) := fun X b => by
  obtain ⟨t, e⟩ := b.str h
  exact pe_glob (b.gln hg) e ⟨t, rfl⟩ hd
/-- a built-in class as a value -/
theorem gty (n : String) (hv : bootBuiltins x = some (.type n) := by decide +kernel) (hg : GlN c x := by rfl) (h : hasF (isFree x) c.fa = true := by rfl) (hn : x ≠ "__name__" := by decide) (hd : (x == ("__debug__" : Str)) = false := by decide) : GE c (.Name x pos) (tC (.ty n)) := fun X b =>
  pe_bltn (b.gln hg) (b.free h) hv rfl hn hd
end
end Rw

namespace Rw
open PySem PySem.Spec PyProof.Rows L2
section
variable {c : Cn} {a b e o : Expr} {es : List Expr} {ta tb tc te to : TE} {t u : TT} {tA tK : TA} {pos apos p : Pos} {x : Str}

/-! ### operators -/
def rAddU : R2 := fun x y H Q => match x, y with
  | .int i, .int j => Q (.int (i + j)) H
  | .str i, .str j => i.length + j.length ≤ sizeLine ∧ Q (.str (i ++ j)) H
  | .ref l, .ref m => (∃ xs zs, H l = some (.lst xs) ∧ H m = some (.lst zs) ∧ xs.length + zs.length ≤ sizeLine ∧ ∀ p, H p = none → Q (.ref p) (upd H p (.lst (xs ++ zs)))) 
  | _, _ => False
theorem o_add {X : Cx} : OpR X (binaryOp .Add) rAddU := fun pins s σ H x y v u Q I rx ry h => by
  cases x <;> cases y <;> first | exact (show False from h).elim | skip
  · exact op_add pins s σ H _ _ v u Q I rx ry ⟨_, _, rfl, rfl, h⟩
  · exact op_add_str pins s σ H _ _ v u Q I rx ry ⟨_, _, rfl, rfl, h.1, h.2⟩
  · obtain ⟨xs, zs, h1, h2, h3, h4⟩ := h
    exact op_cat pins s σ H _ _ v u Q I rx ry ⟨_, _, _, _, rfl, rfl, h1, h2, h3, h4⟩
/-- a tuple and a tuple -/
theorem o_addT {X : Cx} : OpR X (binaryOp .Add) (rCatT X.K) := op_catT
def rSubU : R2 := rI0 fun i j => .int (i - j)
def rMulU : R2 := fun x y H Q => match x, y with
  | .int i, .int j => CMul i j ∧ Q (.int (i * j)) H
  | .ref l, .int k => ∃ xs, H l = some (.lst xs) ∧ -(2 ^ 63) ≤ k ∧ k < 2 ^ 63 ∧ xs.length * k.toNat ≤ sizeLine ∧ ∀ p, H p = none → Q (.ref p) (upd H p (.lst (List.replicate k.toNat xs).flatten))
  | _, _ => False
theorem o_mul {X : Cx} : OpR X (binaryOp .Mult) rMulU := fun pins s σ H x y v u Q I rx ry h => by
  cases x <;> cases y <;> first | exact (show False from h).elim | skip
  · exact op_mul pins s σ H _ _ v u Q I rx ry ⟨_, _, rfl, rfl, h.1, h.2⟩
  · obtain ⟨xs, h1, h2, h3, h4, h5⟩ := h
    exact op_rep pins s σ H _ _ v u Q I rx ry ⟨_, _, _, rfl, rfl, h1, h2, h3, h4, h5⟩
def rDivU : R2 := rI CDiv fun i j => .int (i / j)
def rModU : R2 := rI (fun _ j => 0 < j) fun i j => .int (i % j)
def rPowU : R2 := rI CPow fun i j => .int (i ^ j.toNat)
theorem g_add (ha : GE c a ta) (hb : GE c b tb) : GE c (.BinOp a .Add b pos) (tOp rAddU ta tb) := fun X h => pe_op o_add (ha X h) (hb X h)
theorem g_addT (ha : GE c a ta) (hb : GE c b tb) : GE c (.BinOp a .Add b pos) (tOp (rCatT c.K) ta tb) := fun X h => by
  have := pe_op (pos := pos) (o_addT (X := X)) (ha X h) (hb X h)
  rw [h.hK] at this
  exact this
theorem g_sub (ha : GE c a ta) (hb : GE c b tb) : GE c (.BinOp a .Sub b pos) (tOp rSubU ta tb) := fun X h => pe_op op_sub (ha X h) (hb X h)
theorem g_mul (ha : GE c a ta) (hb : GE c b tb) : GE c (.BinOp a .Mult b pos) (tOp rMulU ta tb) := fun X h => pe_op o_mul (ha X h) (hb X h)
theorem g_div (ha : GE c a ta) (hb : GE c b tb) : GE c (.BinOp a .FloorDiv b pos) (tOp rDivU ta tb) := fun X h => pe_op op_fdiv (ha X h) (hb X h)
theorem g_mod (ha : GE c a ta) (hb : GE c b tb) : GE c (.BinOp a .Mod b pos) (tOp rModU ta tb) := fun X h => pe_op op_mod (ha X h) (hb X h)
theorem g_pow (ha : GE c a ta) (hb : GE c b tb) : GE c (.BinOp a .Pow b pos) (tOp rPowU ta tb) := fun X h => pe_op op_pow (ha X h) (hb X h)
def rNegU : V → Hp → VK → Prop := rU fun i => .int (-i)
theorem g_neg (ha : GE c a ta) : GE c (.UnaryOp .USub a pos) (tUn rNegU ta) := fun X h => pe_un un_neg (ha X h)

/-! ### comparisons -/
/-! scalars, or data of any depth; a dict and an empty one -/
def rEqE : R2 := fun x y H Q => ∃ (a b : Addr) (ks : List (Key × V)), x = .ref a ∧ y = .ref b ∧ H a = some (.dK ks) ∧ H b = some (.dK []) ∧ Q (.bl (decide (ks = []))) H
def rNeE : R2 := fun x y H Q => ∃ (a b : Addr) (ks : List (Key × V)), x = .ref a ∧ y = .ref b ∧ H a = some (.dK ks) ∧ H b = some (.dK []) ∧ Q (.bl (!decide (ks = []))) H
theorem op_eqE {X : Cx} (hu : X.A.units < cLine) : OpR X (compareOp .Eq) rEqE := by
  rintro pins s σ H _ _ v u Q I rx ry ⟨a, b, ks, rfl, rfl, ea, eb, q⟩
  obtain rfl : v = Value.ref a := rx
  obtain rfl : u = Value.ref b := ry
  obtain ⟨_, ya, va, ra, da⟩ := (show ObjOk X.prog X.w H s.heap a (.dK ks) from I.hok a _ ea)
  obtain ⟨_, yb, vb, rb, db⟩ := (show ObjOk X.prog X.w H s.heap b (.dK []) from I.hok b _ eb)
  have l0 : vb.length = 0 := rb.length.symm
  have l1 : va.length = ks.length := ra.length.symm
  refine PySem.W.keq_eq (knd := mixKind X.prog X.w) (r := true) ya yb da db hu (fun e => ?_) (fin_bl I q ?_)
  · have z : va = [] := List.length_eq_zero_iff.mp (e.trans l0)
    rw [z]
    exact .nil
  · rw [l0, l1]
    cases ks <;> rfl
theorem op_neE {X : Cx} (hu : X.A.units < cLine) : OpR X (compareOp .NotEq) rNeE := by
  rintro pins s σ H _ _ v u Q I rx ry ⟨a, b, ks, rfl, rfl, ea, eb, q⟩
  obtain rfl : v = Value.ref a := rx
  obtain rfl : u = Value.ref b := ry
  obtain ⟨_, ya, va, ra, da⟩ := (show ObjOk X.prog X.w H s.heap a (.dK ks) from I.hok a _ ea)
  obtain ⟨_, yb, vb, rb, db⟩ := (show ObjOk X.prog X.w H s.heap b (.dK []) from I.hok b _ eb)
  have l0 : vb.length = 0 := rb.length.symm
  have l1 : va.length = ks.length := ra.length.symm
  refine PySem.W.keq_ne (knd := mixKind X.prog X.w) (r := true) ya yb da db hu (fun e => ?_) (fin_bl I q ?_)
  · have z : va = [] := List.length_eq_zero_iff.mp (e.trans l0)
    rw [z]
    exact .nil
  · rw [l0, l1]
    cases ks <;> rfl
def rEqU (K : PySem.W.Frag) : R2 := fun x y H Q => rEq x y H Q ∨ (rEqD K x y H Q ∨ rEqE x y H Q)
def rNeU (K : PySem.W.Frag) : R2 := fun x y H Q => rNe x y H Q ∨ (rNeD K x y H Q ∨ rNeE x y H Q)
theorem o_eq (X : Cx) (h : Bd c X) : OpR X (compareOp .Eq) (rEqU c.K) := by
  have := OpR.or (op_eq (X := X)) (OpR.or (op_eqD (X := X) (by have := h.un; omega)) (op_eqE (X := X) (by have := h.un; omega)))
  rw [h.hK] at this
  exact this
theorem o_ne (X : Cx) (h : Bd c X) : OpR X (compareOp .NotEq) (rNeU c.K) := by
  have := OpR.or (op_ne (X := X)) (OpR.or (op_neD (X := X) (by have := h.un; omega)) (op_neE (X := X) (by have := h.un; omega)))
  rw [h.hK] at this
  exact this
def rLtU : R2 := rI0 fun i j => .bl (decide (i < j))
def rLeU : R2 := rI0 fun i j => .bl (decide (i ≤ j))
def rGtU : R2 := rI0 fun i j => .bl (decide (j < i))
def rGeU : R2 := rI0 fun i j => .bl (decide (j ≤ i))
def rIsU : R2 := fun x y H Q => y = .non ∧ Q (.bl (decide (x = .non))) H
def rIsntU : R2 := fun x y H Q => y = .non ∧ Q (.bl (!decide (x = .non))) H
/-- in: a list or tuple of flat values; a sign in a text; a key of a dict -/
def rInU (K : PySem.W.Frag) : R2 := fun x y H Q => rIn K false x y H Q ∨ (∃ (n : Nat) (z : Str), x = .str ⟨#[n]⟩ ∧ y = .str z ∧ Q (.bl (decide (n ∈ z.cps.toList))) H) ∨ (∃ d r, y = .ref d ∧ DGet H d x r ∧ Q (.bl r.isSome) H) ∨ rInD K x y H Q
def rNinU (K : PySem.W.Frag) : R2 := fun x y H Q => rIn K true x y H Q ∨ (∃ (n : Nat) (z : Str), x = .str ⟨#[n]⟩ ∧ y = .str z ∧ Q (.bl (!decide (n ∈ z.cps.toList))) H) ∨ (∃ d r, y = .ref d ∧ DGet H d x r ∧ Q (.bl (!r.isSome)) H) ∨ rNotInD K x y H Q
theorem o_inD {X : Cx} (hu : X.A.units + 1 < cLine) : OpR X (compareOp .In) (fun x y H Q => ∃ d r, y = .ref d ∧ DGet H d x r ∧ Q (.bl r.isSome) H) := fun pins s σ H x y v u Q I rx ry h => by
  obtain ⟨d, r, ey, g, q⟩ := h
  subst ey
  cases ry
  exact d_in hu I g rx fun s' I' => ⟨.bl _, H, I', rfl, q⟩
theorem o_ninD {X : Cx} (hu : X.A.units + 1 < cLine) : OpR X (compareOp .NotIn) (fun x y H Q => ∃ d r, y = .ref d ∧ DGet H d x r ∧ Q (.bl (!r.isSome)) H) := fun pins s σ H x y v u Q I rx ry h => by
  obtain ⟨d, r, ey, g, q⟩ := h
  subst ey
  cases ry
  exact d_notIn hu I g rx fun s' I' => ⟨.bl _, H, I', rfl, q⟩
theorem o_in (X : Cx) (h : Bd c X) : OpR X (compareOp .In) (rInU c.K) := by
  have := OpR.or (op_in_seq (X := X)) (OpR.or (op_in_sign (X := X)) (OpR.or (o_inD (X := X) (by have := h.un; omega)) (op_inD (X := X) (by have := h.un; omega))))
  rw [h.hK] at this
  exact this
theorem o_nin (X : Cx) (h : Bd c X) : OpR X (compareOp .NotIn) (rNinU c.K) := by
  have := OpR.or (op_notIn_seq (X := X)) (OpR.or (op_notIn_sign (X := X)) (OpR.or (o_ninD (X := X) (by have := h.un; omega)) (op_notInD (X := X) (by have := h.un; omega))))
  rw [h.hK] at this
  exact this
/-- a comparison by its rule: CO names it -/
inductive CO (c : Cn) : CmpOp → R2 → Prop
  | eq : CO c .Eq (rEqU c.K)
  | ne : CO c .NotEq (rNeU c.K)
  | lt : CO c .Lt rLtU
  | le : CO c .LtE rLeU
  | gt : CO c .Gt rGtU
  | ge : CO c .GtE rGeU
  | isn : CO c .Is rIsU
  | isnt : CO c .IsNot rIsntU
  | inn : CO c .In (rInU c.K)
  | nin : CO c .NotIn (rNinU c.K)
theorem CO.ok {op : CmpOp} {r : R2} (k : CO c op r) (X : Cx) (h : Bd c X) : OpR X (compareOp op) r := by
  cases k with
  | eq => exact o_eq X h
  | ne => exact o_ne X h
  | lt => exact op_lt
  | le => exact op_le
  | gt => exact op_gt
  | ge => exact op_ge
  | isn => exact op_isN
  | isnt => exact op_notN
  | inn => exact o_in X h
  | nin => exact o_nin X h
theorem g_cmp {op : CmpOp} {r : R2} (k : CO c op r) (ha : GE c a ta) (hb : GE c b tb) (hm : behindInMarks op b = false := by rfl) : GE c (.Compare a [op] [b] pos) (tOp r ta tb) := fun X h => pe_cmpR (k.ok X h) (ha X h) (hb X h) hm
theorem gt_cmp {op : CmpOp} {r : R2} (k : CO c op r) (ha : GE c a ta) (hb : GE c b tb) (hm : behindInMarks op b = false := by rfl) : GT c (.Compare a [op] [b] pos) (tTest (tOp r ta tb)) := fun X h => pt_cmpR (k.ok X h) (ha X h) (hb X h) hm

theorem g_chain {op op' : CmpOp} {r r' : R2} {d : Expr} (k : CO c op r) (k' : CO c op' r') (ha : GE c a ta) (hb : GE c b tb) (hd : GE c d tc) (hm : lastMarks [op, op'] [b, d] = false := by with_unfolding_all rfl) :
    GE c (.Compare a [op, op'] [b, d] pos) (tChain r r' ta tb tc) := fun X h => pe_chain (k.ok X h) (k'.ok X h) (ha X h) (hb X h) (hd X h) hm
theorem gt_chain {op op' : CmpOp} {r r' : R2} {d : Expr} (k : CO c op r) (k' : CO c op' r') (ha : GE c a ta) (hb : GE c b tb) (hd : GE c d tc) (hm : lastMarks [op, op'] [b, d] = false := by with_unfolding_all rfl) :
    GT c (.Compare a [op, op'] [b, d] pos) (tTest (tChain r r' ta tb tc)) := fun X h => pt_chain (k.ok X h) (k'.ok X h) (ha X h) (hb X h) (hd X h) hm

/-! ### truth -/
def tTru (K : PySem.W.Frag) (ta : TE) : TT := fun σ H Q => ta σ H fun x H1 => ∃ k, TruV K x H1 k ∧ Q k H1
theorem gt_val (ha : GE c a ta) (he : ∀ env whole, isTrue a env whole = (do let v ← whole; standAt a.pos; holding [v] (truthy v)) := by intro _ _; rfl) : GT c a (tTru c.K ta) := fun X h => by
  have := pt_truth (ha X h) (fun whole => he X.env whole)
  rw [h.hK] at this
  exact this
theorem gw_and1 (ha : GT c a t) : GW c (.BoolOp .And [a] pos) t := fun X h => pw_and1 (ha X h)
theorem gw_or1 (ha : GT c a t) : GW c (.BoolOp .Or [a] pos) t := fun X h => pw_or1 (ha X h)
theorem gw_and {rest : List Expr} (ha : GT c a t) (hb : GW c (.BoolOp .And (b :: rest) pos) u) : GW c (.BoolOp .And (a :: b :: rest) pos) (tAnd t u) := fun X h => pw_and (ha X h) (hb X h)
theorem gw_or {rest : List Expr} (ha : GT c a t) (hb : GW c (.BoolOp .Or (b :: rest) pos) u) : GW c (.BoolOp .Or (a :: b :: rest) pos) (tOr t u) := fun X h => pw_or (ha X h) (hb X h)
theorem gt_bool (h : GW c e t) : GT c e t := fun X b => (h X b).pt
theorem gt_not (ha : GT c a t) : GT c (.UnaryOp .Not a pos) (tNot t) := fun X h => pt_not (ha X h)
theorem g_one {op} (ha : GE c a ta) : GE c (.BoolOp op [a] pos) ta := fun X h => pe_one (ha X h)
theorem g_and {rest : List Expr} (ha : GE c a ta) (hb : GE c (.BoolOp .And (b :: rest) pos) tb) : GE c (.BoolOp .And (a :: b :: rest) pos) (tAndT c.K ta tb) := fun X h => by
  have := pe_andT (ha X h) (hb X h)
  rw [h.hK] at this
  exact this
theorem g_or {rest : List Expr} (ha : GE c a ta) (hb : GE c (.BoolOp .Or (b :: rest) pos) tb) : GE c (.BoolOp .Or (a :: b :: rest) pos) (tOrT c.K ta tb) := fun X h => by
  have := pe_orT (ha X h) (hb X h)
  rw [h.hK] at this
  exact this
theorem g_not (ha : GE c a ta) : GE c (.UnaryOp .Not a pos) (tNotT c.K ta) := fun X h => by
  have := pe_notT (pos := pos) (ha X h)
  rw [h.hK] at this
  exact this
theorem g_if {d : Expr} (hc : GT c d t) (ha : GE c a ta) (hb : GE c b tb) : GE c (.IfExp d a b pos) (tIf t ta tb) := fun X h => pe_ifExp (hc X h) (ha X h) (hb X h)

/-! ### argument lists, displays -/
theorem ga_nil : GA c [] tNil := fun _ _ => pa_nil
theorem ga_cons (ha : GE c e te) (hr : GA c es tA) (hs : ∀ env, starEach (e :: es) env = (false, eval e env) :: starEach es env := by intro _; rfl) : GA c (e :: es) (tCons te tA) := fun X h => pa_cons (ha X h) (hr X h) (hs X.env)
theorem gk_nil : GK c [] tNil := fun _ _ => pk_nil
theorem gk_cons {nm : Option Str} {kp : Pos} {kws : List Keyword} (ha : GE c e te) (hr : GK c kws tK) : GK c (⟨nm, e, kp⟩ :: kws) (tCons te tK) := fun X h => pk_cons (ha X h) (hr X h)
theorem g_tup {k : Nat} (h : GA c es tA) : GE c (.Tuple es k pos) (tTup tA) := fun X b => pe_tup (h X b)
theorem g_lst (h : GA c es tA) : GE c (.List es pos) (tLst tA) := fun X b => pe_lst (h X b)
def tDnew : TE := fun _ H Q => ∀ p, H p = none → Q (.ref p) (upd H p (.dK []))
def GP (c : Cn) (p : Pos) (ks : List (Option Expr)) (vs : List Expr) (trs : List (TE × TE)) : Prop := ∀ X, Bd c X → PPs X p ks vs trs
theorem gp_nil : GP c pos [] [] [] := fun _ _ => pps_nil
theorem gp_cons {k v : Expr} {ks : List (Option Expr)} {vs : List Expr} {tk tv : TE} {trs : List (TE × TE)} (hk : GE c k tk) (hv : GE c v tv) (hr : GP c pos ks vs trs) : GP c pos (some k :: ks) (v :: vs) ((tk, tv) :: trs) := fun X h => pps_cons (hk X h) (hv X h) (hr X h)

/-! ### subscripts -/
theorem PlainIx.mk' {d : Expr} (h : ∀ o i, subscripted d false o i = operate [o, i] (getItem o i)) : PlainIx d := h
/-- a[i]: of a list, a tuple, a text, by an int; of a dict, by a key -/
def rSubU' (K : PySem.W.Frag) : R2 := fun x y H Q => rIx K x y H Q ∨ ∃ d v, x = .ref d ∧ DGet H d y (some v) ∧ Q v H
theorem ix_dict {X : Cx} (hu : X.A.units + 1 < cLine) : IxR X (fun x y H Q => ∃ d v, x = .ref d ∧ DGet H d y (some v) ∧ Q v H) := by
  intro value slice pins s σ H x y v u Q I rx ry h hs
  obtain ⟨d, v0, ex, g, q⟩ := h
  subst ex
  cases rx
  have hty := dict_typeIs I g
  unfold subscriptTail
  refine wpAny_bind ?_
  rw [getitemInPython_of_ne hty.not_modules]
  refine wpAny_bind (wpAny_specialOf hty PySem.F.slot_dict_getitem.lookup ?_)
  have done : wpAny (model X.prog X.w) X.A (subscripted slice false (Value.ref d) u) (fun r s3 => wpAny (model X.prog X.w) X.A (letTemporaryGo value (Value.ref d) r >>= fun _ => pure r) (EP X pins σ Q) X.xe s3) X.xe s := by
    rw [hs]
    exact wpAny_operating (thn (d_getItem hu I g ry fun w2 s2 I2 rw2 => (⟨v0, H, I2, rw2, q⟩ : EP X pins σ Q w2 s2)) fun r s3 z => wpAny_bind (wpAny_letTemporaryGo (wpAny_pure z)))
  first
    | exact wpAny_pure (wpAny_bind done)
    | exact wpAny_bind (wpAny_pure (wpAny_bind done))
    | exact wpAny_bind done
theorem ix_all (X : Cx) (h : Bd c X) : IxR X (rSubU' c.K) := by
  have := IxR.or (ix_seq (X := X)) (ix_dict (X := X) (by have := h.un; omega))
  rw [h.hK] at this
  exact this
theorem g_ix (ha : GE c a ta) (hb : GE c b tb) (hs : ∀ o i, subscripted b false o i = operate [o, i] (getItem o i) := by intro _ _; rfl) : GE c (.Subscript a b pos) (tOp (rSubU' c.K) ta tb) := fun X h => pe_ix (ix_all X h) (ha X h) (hb X h) hs
/-- a slice of a list, a text, a tuple -/
def rSlU (K : PySem.W.Frag) : V → Option Int → Option Int → Hp → VK → Prop := fun x lo hi H Q => rSlL K x lo hi H Q ∨ rSlS x lo hi H Q ∨ rSlT K x lo hi H Q
theorem go_none : GO c none tNoPart := fun _ _ => po_none
theorem go_some (h : GE c e te) : GO c (some e) (tPart te) := fun X b => po_some (h X b)
theorem g_slice {lo hi : Option Expr} {tl th : TO} {p2 : Pos} (he : GE c e te) (hl : GO c lo tl) (hu : GO c hi th) : GE c (.Subscript e (.Slice lo hi none p2) pos) (tSl (rSlU c.K) te tl th) := fun X h => by
  have := pe_slice (pos := pos) (p2 := p2) (SlR.or (sl_list (X := X)) (SlR.or (sl_str (X := X)) (sl_tup (X := X)))) (he X h) (hl X h) (hu X h)
  rw [h.hK] at this
  exact this

/-! ### attributes -/
/-- an attribute of an instance; C: its class's name -/
def tAttr (K : PySem.W.Frag) (fa : List He.Fa) (ta : TE) (f : Str) : TE := fun σ H Q => ta σ H fun x H1 => ∃ (d : Addr) (C : Str) (dx : Addr) (fs : List (Str × V)) (v : V), x = .ref d ∧ H1 d = some (.ins (He.ga K C) dx fs) ∧
  hasF (isCls C) fa = true ∧ hasF (isNoat C f) fa = true ∧ fs.lookup f = some v ∧ Q v H1
theorem g_attr {f : Str} (ha : GE c a ta) (hb : ∀ env w, attributeBase a f env w = w := by intro _ _; rfl) : GE c (.Attribute a f pos) (tAttr c.K c.fa ta f) := fun X h => ⟨fun pins s σ H Q I hq => by
  refine attr_of (hb X.env _) (thn ((ha X h).run pins s σ H _ I hq) fun u s1 ⟨x, H1, I1, rx, d, C, dx, fs, v, ex, ea, k1, k2, l, q⟩ => ?_)
  subst ex
  cases rx
  have cl := h.cls k1
  have na := h.noat k2
  rw [← h.hK] at ea cl na
  exact getattr_ok I1 ea cl na l fun u' s2 I2 ru => ⟨v, H1, I2, ru, q⟩⟩

/-! ### methods of built-in types -/
structure BMt (c : Cn) (T : String) (name : Str) (id : String) (r : V → List V → Hp → VK → Prop) : Prop where
  pa : PlainAttrs T
  slot : Slot T name id
  ty : typeOf (.builtin id) = pure (.type "method_descriptor")
  mt : ∀ X, Bd c X → MtR X id r
theorem g_bm0 {T id : String} {name : Str} {r : V → List V → Hp → VK → Prop} (m : BMt c T name id r) (ho : GE c o to) (hb : ∀ env w, attributeBase o name env w = w := by intro _ _; rfl) (hl : (apos.endLine == pos.line) = true := by rfl) :
    GE c (.Call (.Attribute o name apos) [] [] pos) (tBM0 c.K T r to) := fun X h => by
  have := pe_bm0 (apos := apos) (cpos := pos) m.pa m.slot m.ty (m.mt X h) (ho X h) (hb X.env _) hl
  rw [h.hK] at this
  exact this
theorem g_bm {T id : String} {name : Str} {r : V → List V → Hp → VK → Prop} (m : BMt c T name id r) (ho : GE c o to) (ha : GA c (e :: es) tA) (hb : ∀ env w, attributeBase o name env w = w := by intro _ _; rfl)
    (hfew : ∀ env, ((backTo pos (starEach (e :: es) env)).all (fun x => !x.1) && (backToKw pos (keywordEach [] env)).all (fun x => x.1.isSome)
      && decide ((e :: es).length + ([] : List Keyword).length + (if ([] : List Keyword).isEmpty then 0 else 1) < 30)) = true := by intro _; rfl)
    (hl : (apos.endLine == pos.line) = true := by rfl) (hs : ∀ env, starEach (e :: es) env = (false, eval e env) :: starEach es env := by intro _; rfl) (hp : ∀ env, (backTo pos (starEach es env)).any (·.1) = false := by intro _; rfl) :
    GE c (.Call (.Attribute o name apos) (e :: es) [] pos) (tBM c.K T r to tA) := fun X h => by
  have := pe_bm (apos := apos) (cpos := pos) m.pa m.slot m.ty (m.mt X h) (ho X h) (ha X h) (hb X.env _) (hfew X.env) hl (hs X.env) (hp X.env)
  rw [h.hK] at this
  exact this
theorem m_append : BMt c "list" "append" "list.append" rAppend := ⟨PySem.F.plainAttrs_list, PySem.F.slot_list_append, PySem.F.type_list_append, fun _ _ => mt_append⟩
theorem m_extend : BMt c "list" "extend" "list.extend" rExtend := ⟨PySem.F.plainAttrs_list, PySem.F.slot_list_extend, PySem.F.type_list_extend, fun _ _ => mt_extend⟩
theorem m_pop : BMt c "list" "pop" "list.pop" rPop := ⟨PySem.F.plainAttrs_list, PySem.F.slot_list_pop, PySem.F.type_list_pop, fun _ _ => mt_pop⟩
theorem m_popAt : BMt c "list" "pop" "list.pop" rPopAt := ⟨PySem.F.plainAttrs_list, PySem.F.slot_list_pop, PySem.F.type_list_pop, fun _ _ => mt_popAt⟩
theorem m_reverse : BMt c "list" "reverse" "list.reverse" rReverse := ⟨PySem.F.plainAttrs_list, PySem.F.slot_list_reverse, PySem.F.type_list_reverse, fun _ _ => mt_reverse⟩
theorem m_clear : BMt c "list" "clear" "list.clear" rClear := ⟨PySem.F.plainAttrs_list, PySem.F.slot_list_clear, PySem.F.type_list_clear, fun _ _ => mt_clear⟩
/-- d.get(k), d.get(k, z) -/
def rDget : V → List V → Hp → VK → Prop := fun x vs H Q => ∃ d k r, x = .ref d ∧ ((vs = [k] ∧ DGet H d k r ∧ Q (r.getD .non) H) ∨ ∃ z, vs = [k, z] ∧ DGet H d k r ∧ Q (r.getD z) H)
theorem mt_dget {X : Cx} (hu : X.A.units + 1 < cLine) : MtR X "dict.get" rDget := fun pins s σ H x xs v us Q I rx r h => by
  obtain ⟨d, k, o, ex, h⟩ := h
  subst ex
  cases rx
  rcases h with ⟨ev, g, q⟩ | ⟨z, ev, g, q⟩
  · subst ev
    obtain ⟨u, eu, ru⟩ := Vals.one r
    subst eu
    exact d_get1 hu I g ru fun w2 s2 I2 rw2 => ⟨_, H, I2, rw2, q⟩
  · subst ev
    obtain ⟨u, u2, eu, ru, ru2⟩ := Vals.two r
    subst eu
    exact d_get2 hu I g ru ru2 fun w2 s2 I2 rw2 => ⟨_, H, I2, rw2, q⟩
theorem m_get : BMt c "dict" "get" "dict.get" rDget := ⟨PySem.F.plainAttrs_dict, PySem.F.slot_dict_get, PySem.F.type_dict_get, fun X h => mt_dget (by have := h.un; omega)⟩
/-- d.pop(k), there; d.pop(k, z) -/
def rDpop : V → List V → Hp → VK → Prop := fun x vs H Q => ∃ d kvs k, x = .ref d ∧ H d = some (.dK kvs) ∧ ((∃ v, vs = [kV k] ∧ valV kvs k = some v ∧ Q v (upd H d (.dK (dropK kvs k)))) ∨
  ∃ z, vs = [kV k, z] ∧ (∀ v, valV kvs k = some v → Q v (upd H d (.dK (dropK kvs k)))) ∧ (valV kvs k = none → Q z H))
theorem mt_dpop {X : Cx} : MtR X "dict.pop" rDpop := fun pins s σ H x xs v us Q I rx r h => by
  obtain ⟨d, kvs, k, ex, e, h⟩ := h
  subst ex
  cases rx
  rcases h with ⟨v0, ev, l, q⟩ | ⟨z, ev, q1, q2⟩
  · subst ev
    obtain ⟨u, eu, ru⟩ := Vals.one r
    subst eu
    exact d_pop I e ru l (.inl rfl) fun w2 s2 I2 rw2 => ⟨_, _, I2, rw2, q⟩
  · subst ev
    obtain ⟨u, u2, eu, ru, ru2⟩ := Vals.two r
    subst eu
    cases l : valV kvs k with
    | some v1 => exact d_pop I e ru l (.inr ⟨u2, rfl⟩) fun w2 s2 I2 rw2 => ⟨_, _, I2, rw2, q1 v1 l⟩
    | none => exact d_popD I e ru l fun s2 I2 => ⟨_, H, I2, ru2, q2 l⟩
theorem m_dpop : BMt c "dict" "pop" "dict.pop" rDpop := ⟨PySem.F.plainAttrs_dict, PySem.F.slot_dict_pop, PySem.F.type_dict_pop, fun _ _ => mt_dpop⟩
def rJoin (K : PySem.W.Frag) : V → List V → Hp → VK → Prop := fun x xs H Q => ∃ a p, ∃ ys : List Str, x = .str a ∧ xs = [.ref p] ∧ (SqL K H p (ys.map V.str) ∨ SqT K H p (ys.map V.str)) ∧ (ys.map (·.length)).sum + ys.length * a.length ≤ 16777216 ∧ Q (.str (Txt.join a ys)) H
theorem m_join : BMt c "str" "join" "str.join" (rJoin c.K) := ⟨PySem.F.plainAttrs_str, PySem.F.slot_str_join, PySem.F.type_str_join, fun X h => by
  have := mt_join (X := X)
  rw [h.hK] at this
  exact this⟩

/-! ### built-in functions and classes, called -/
structure BFn (c : Cn) (x : Str) (id : String) (r : List V → Hp → VK → Prop) : Prop where
  bt : bootBuiltins x = some (.builtin id)
  ok : ∀ X, Bd c X → CallR X (.builtin id) r
  nn : x ≠ "__name__"
  nd : (x == ("__debug__" : Str)) = false
structure BTy (c : Cn) (x : Str) (T : String) (r : List V → Hp → VK → Prop) : Prop where
  bt : bootBuiltins x = some (.type T)
  ok : ∀ X, Bd c X → CallR X (.type T) r
  nn : x ≠ "__name__"
  nd : (x == ("__debug__" : Str)) = false
theorem g_fn {id : String} {r : List V → Hp → VK → Prop} (f : BFn c x id r) (ha : GA c (e :: es) tA) (hg : GlN c x := by rfl) (hf : hasF (isFree x) c.fa = true := by rfl)
    (he : ∀ env, starEach (e :: es) env = (false, eval e env) :: starEach es env := by intro _; rfl) (hp : ∀ env, (backTo pos (starEach es env)).any (·.1) = false := by intro _; rfl) : GE c (.Call (.Name x p) (e :: es) [] pos) (tCB r tA) := fun X h =>
  pe_callB (f.ok X h) (h.gln hg) (h.free hf) f.bt (ha X h) f.nn f.nd (he X.env) (hp X.env)
theorem g_ty {T : String} {r : List V → Hp → VK → Prop} (f : BTy c x T r) (ha : GA c (e :: es) tA) (hg : GlN c x := by rfl) (hf : hasF (isFree x) c.fa = true := by rfl)
    (he : ∀ env, starEach (e :: es) env = (false, eval e env) :: starEach es env := by intro _; rfl) (hp : ∀ env, (backTo pos (starEach es env)).any (·.1) = false := by intro _; rfl) : GE c (.Call (.Name x p) (e :: es) [] pos) (tCB r tA) := fun X h =>
  pe_callTy (f.ok X h) (h.gln hg) (h.free hf) f.bt (ha X h) f.nn f.nd (he X.env) (hp X.env)
/-- len -/
def LenU (K : PySem.W.Frag) (x : V) (H : Hp) (n : Nat) : Prop := LenV K x H n ∨ ∃ d kvs, x = .ref d ∧ Rd H d (.dK kvs) ∧ n = kvs.length
def rLenU (K : PySem.W.Frag) : List V → Hp → VK → Prop := fun xs H Q => ∃ x n, xs = [x] ∧ LenU K x H n ∧ Q (.int n) H
theorem f_len : BFn c "len" "len" (rLenU c.K) := ⟨by decide +kernel, fun X h => by
  intro pins s σ H xs us Q I r hq
  obtain ⟨x, n, ex, l, q⟩ := hq
  subst ex
  rw [← h.hK] at l
  rcases l with l | ⟨d, kvs, ey, hr, en⟩
  · exact call_len pins s σ H _ us Q I r ⟨x, n, rfl, l, q⟩
  · subst ey en
    obtain ⟨u, eu, ru⟩ := vals1 r
    subst eu
    cases ru
    exact d_len I hr fun t s2 I2 => ⟨.int kvs.length, H, I2, ⟨t, rfl⟩, q⟩, by decide, by decide⟩
/-- isinstance of one class; of a tuple of classes that was just laid -/
def rInst (K : PySem.W.Frag) : List V → Hp → VK → Prop := fun xs H Q => rIsi K xs H Q ∨ rIsiT K xs H Q
theorem f_isi : BFn c "isinstance" "isinstance" (rInst c.K) := ⟨by decide +kernel, fun X h => by
  have := CallR.or (call_isi (X := X)) (call_isiT (X := X))
  rw [h.hK] at this
  exact this, by decide, by decide⟩
def rAbsU : List V → Hp → VK → Prop := fun xs H Q => ∃ i, xs = [.int i] ∧ Q (.int (if i < 0 then -i else i)) H
theorem f_abs : BFn c "abs" "abs" rAbsU := ⟨by decide +kernel, fun X _ => call_abs, by decide, by decide⟩
def rMax2U : List V → Hp → VK → Prop := fun xs H Q => ∃ i j, xs = [.int i, .int j] ∧ Q (.int (if j > i then j else i)) H
def rMin2U : List V → Hp → VK → Prop := fun xs H Q => ∃ i j, xs = [.int i, .int j] ∧ Q (.int (if j < i then j else i)) H
theorem f_max2 (hc : c.hot = false := by rfl) : BFn c "max" "max" rMax2U := ⟨by decide +kernel, fun X h => call_max2 (h.calm hc), by decide, by decide⟩
theorem f_min2 (hc : c.hot = false := by rfl) : BFn c "min" "min" rMin2U := ⟨by decide +kernel, fun X h => call_min2 (h.calm hc), by decide, by decide⟩
/-- divmod by a positive number of few digits -/
def rDmU : List V → Hp → VK → Prop := fun xs H Q => ∃ i j, xs = [.int i, .int j] ∧ (0 < j ∧ j.natAbs.log2 < 9000) ∧ ∀ p, H p = none → Q (.ref p) (upd H p (.tup [.int (i / j), .int (i % j)]))
theorem f_divmod : BFn c "divmod" "divmod" rDmU := ⟨by decide +kernel, fun X _ => by
  intro pins s σ H xs us Q I r hq
  obtain ⟨i, j, ex, hj, q⟩ := hq
  exact call_divmodW pins s σ H xs us Q I r ⟨i, j, ex, ⟨hj.1, PyProof.noPylong_of_log2 hj.2⟩, q⟩, by decide, by decide⟩
theorem f_all (hc : c.hot = false := by rfl) : BFn c "all" "all" (rAll c.K) := ⟨by decide +kernel, fun X h => by
  have := cr_all (X := X) (h.calm hc)
  rw [h.hK] at this
  exact this, by decide, by decide⟩
theorem f_any (hc : c.hot = false := by rfl) : BFn c "any" "any" (rAny c.K) := ⟨by decide +kernel, fun X h => by
  have := cr_any (X := X) (h.calm hc)
  rw [h.hK] at this
  exact this, by decide, by decide⟩
/-! repr of data -/
mutual
theorem Dp.plain {K : PySem.W.Frag} {H : Hp} : ∀ (d : PyData) (v : V), Dp K H v d → d.hasDict = false
  | .none, _, _ => by simp only [PyData.hasDict]
  | .bool _, _, _ => by simp only [PyData.hasDict]
  | .int _, _, _ => by simp only [PyData.hasDict]
  | .str _, _, _ => by simp only [PyData.hasDict]
  | .list ds, _, h => by
    cases h with
    | lst _ ha => simp only [PyData.hasDict]; exact Dp.plainAll ds _ ha
  | .tuple ds, _, h => by
    cases h with
    | tup _ ha => simp only [PyData.hasDict]; exact Dp.plainAll ds _ ha
  | .dict _, _, h => by cases h
theorem Dp.plainAll {K : PySem.W.Frag} {H : Hp} : ∀ (ds : List PyData) (vs : List V), DpAll K H vs ds → PyData.hasDictAll ds = false
  | [], _, _ => by simp only [PyData.hasDictAll]
  | d :: ds, _, h => by
    cases h with
    | cons h1 h2 => simp only [PyData.hasDictAll, Dp.plain d _ h1, Dp.plainAll ds _ h2, Bool.or_false]
end
def rRepr (K : PySem.W.Frag) : List V → Hp → VK → Prop := fun xs H Q => ∃ x d, xs = [x] ∧ Dp K H x d ∧ d.showable = true ∧ d.depth ≤ 100 ∧ d.shown.length ≤ sizeLine ∧ Q (.str d.shown) H
theorem f_repr : BFn c "repr" "repr" (rRepr c.K) := ⟨by decide +kernel, fun X h => by
  intro pins s σ H xs us Q I r hq
  obtain ⟨x, d, ex, hd, sh, dp, sz, q⟩ := hq
  subst ex
  obtain ⟨u, eu, ru⟩ := vals1 r
  subst eu
  rw [← h.hK] at hd
  have un := h.un
  obtain ⟨as, rd⟩ := Dp.reads I d x u hd ru
  have nod := Dp.plain d x hd
  cases hd with
  | non =>
    cases ru
    exact PySem.P.repr_of_none ⟨.str _, H, I.tok _, ⟨_, rfl⟩, q⟩
  | bl b =>
    cases ru
    refine PySem.P.repr_of_bool ⟨.str _, H, I.tok _, ⟨_, rfl⟩, ?_⟩
    cases b <;> exact q
  | int i =>
    obtain ⟨t, eu⟩ := ru
    subst eu
    exact PySem.P.repr_of_int (of_decide_eq_true sh) ⟨.str _, H, I.tok _, ⟨_, rfl⟩, q⟩
  | str z =>
    obtain ⟨t, eu⟩ := ru
    subst eu
    exact PySem.P.repr_of_str ⟨.str _, H, I.tok _, ⟨_, rfl⟩, q⟩ sz
  | lst hs ha =>
    cases ru
    exact repr_of_reads' rd sh (PyData.noDict_hsm nod) h.gu (by omega) (fun _ _ z => z) (fun h2 u2 tk k => ⟨.str _, H, I.kept k, ⟨_, rfl⟩, q⟩) sz
  | tup hs ha =>
    cases ru
    exact repr_of_reads' rd sh (PyData.noDict_hsm nod) h.gu (by omega) (fun _ _ z => z) (fun h2 u2 tk k => ⟨.str _, H, I.kept k, ⟨_, rfl⟩, q⟩) sz, by decide, by decide⟩
end
end Rw

namespace Rw
open PySem PySem.Spec PyProof.Rows L2
section
variable {c : Cn} {a b e o : Expr} {es : List Expr} {kws : List Keyword} {ta tb tc te to : TE} {t u : TT} {tA tK : TA} {pos apos p : Pos} {x m : Str} {ks : List Str}

/-! ### calls of the text's own defs -/
def isShp (k : Ky) (n : Nat) (ks : List Str) (s : Shp) : Bool := decide (s.key = k) && (decide (s.n = n) && decide (s.ks = ks))
def shpOf (sh : List Shp) (k : Ky) (n : Nat) (ks : List Str) : Option Shp := sh.find? (isShp k n ks)
theorem shpOf_ok {sh : List Shp} {k : Ky} {n : Nat} {s : Shp} (h : shpOf sh k n ks = some s) : s ∈ sh ∧ s.key = k ∧ s.n = n ∧ s.ks = ks := by
  have h1 := List.find?_some h
  obtain ⟨e1, h2⟩ := He.ba h1
  obtain ⟨e2, e3⟩ := He.ba h2
  exact ⟨List.mem_of_find?_eq_some h, of_decide_eq_true e1, of_decide_eq_true e2, of_decide_eq_true e3⟩
theorem run_g {X : Cx} (h : Bd c X) (hc : c.hot = false) {s : Shp} (hs : s ∈ c.sh) {pins : List (Addr × Obj)} {σ : L2.St} {H : Hp} {st : Shared} {Q : VK} {us ws : List Value} {vs zs : List V} (I : Inv X pins σ H st) (r : Vals vs us) (rz : Vals zs ws)
    (l1 : vs.length = s.n) (l2 : zs.length = s.ks.length) (hq : c.Ph s.key (plug c.K s.plan vs zs) H Q (WE c.W σ)) :
    wpAny (model X.prog X.w) X.A (call (.ref (He.fAd c.K s.key)) us (s.ks.zip ws)) (EP X pins σ Q) X.xe st := by
  obtain ⟨k, room, all⟩ := h.fns hc
  obtain ⟨fd, ps, g, F, kb⟩ := (all s hs).ex
  have bt := kb.to st us ws I.kIn (r.length.symm.trans l1) (rz.length.symm.trans l2)
  refine wpAny_call (codeAny_mono (F.run X.A X.stack st H ⟨us, s.ks.zip ws⟩ _ _ Q (WE c.W σ) (room.mono (Nat.le_succ _)) h.gu I.env0 bt (kb.rel r rz) hq) fun res s2 z => ?_)
  cases res with
  | error er => exact passAt h.tk σ pins H st er s2 I z
  | ok fl =>
    cases fl with
    | ret u => exact I.after z
    | next => exact z.elim
    | brk => exact z.elim
    | cont => exact z.elim
/-- what is asked of arguments that are handed in: na by their places, the others by the names ks; first: what stands ahead of them -/
def tArgs (c : Cn) (k : Ky) (na : Nat) (ks : List Str) (first : List V) (tA tK : TA) : TE := fun σ H Q => ∃ s, shpOf c.sh k (first.length + na) ks = some s ∧ tA σ H fun vs H1 => tK σ H1 fun zs H2 => vs.length = na ∧ zs.length = ks.length ∧
  c.Ph s.key (plug c.K s.plan (first ++ vs) zs) H2 Q (WE c.W σ)
def tFn (c : Cn) (x : Str) (na : Nat) (ks : List Str) (tA tK : TA) : TE := tArgs c (x, none) na ks [] tA tK
def kwn (ks : List Keyword) : List Str := ks.filterMap fun k => match k with | ⟨n, _, _⟩ => n
theorem g_call (ha : GA c (e :: es) tA) (hk : GK c kws tK) (hg : GlN c x := by rfl) (hf : hasF (isGlo x) c.fa = true := by rfl) (hc : c.hot = false := by rfl)
    (hall : ∀ env, (backToKw pos (keywordEach kws env)).all (·.1.isSome) = true := by intro _; rfl) (hks : ∀ env, (backToKw pos (keywordEach kws env)).filterMap (·.1) = kwn kws := by intro _; rfl)
    (hdb : (x == ("__debug__" : Str)) = false := by decide) (he : ∀ env, starEach (e :: es) env = (false, eval e env) :: starEach es env := by intro _; rfl)
    (hpl : ∀ env, ((backTo pos (starEach (e :: es) env)).any (·.1) || (backToKw pos (keywordEach kws env)).any (·.1.isNone)) = false := by intro _; rfl) :
    GE c (.Call (.Name x p) (e :: es) kws pos) (tFn c x (e :: es).length (kwn kws) tA tK) := fun X h => ⟨fun pins st σ H Q I hq => by
  obtain ⟨s, hs, hq⟩ := hq
  obtain ⟨mem, ek, en, eks⟩ := shpOf_ok hs
  obtain ⟨k0, r0, all⟩ := h.fns hc
  have kp := (all s mem).kp
  rw [ek] at kp
  rw [← h.hK] at kp
  have hm := h.glo hf
  rw [← h.hK] at hm
  refine wpAny_Call_Name_kw (ld_glob I (h.gln hg) hm ?_ hdb)
  refine PySem.W.callWith_KW (h₀ := X.base) I.ok.mod.kin kp (hall X.env) (thn ((ha X h).run pos pins st σ H _ I hq) fun us s1 ⟨vs, H1, I1, r, q⟩ => ?_) (hpl X.env) (he X.env)
  refine thn ((hk X h).run pos pins s1 σ H1 _ I1 q) fun ws s2 ⟨zs, H2, I2, rz, l1, l2, q2⟩ => ⟨I2.kIn, ?_⟩
  rw [hks, ← eks]
  have z := run_g h hc mem I2 r rz (by rw [en, l1]; exact (Nat.zero_add _).symm) (by rw [eks]; exact l2) q2
  rw [ek] at z
  rw [h.hK]
  exact z⟩
theorem g_call0 (hk : GK c kws tK) (hg : GlN c x := by rfl) (hf : hasF (isGlo x) c.fa = true := by rfl) (hc : c.hot = false := by rfl)
    (hall : ∀ env, (backToKw pos (keywordEach kws env)).all (·.1.isSome) = true := by intro _; rfl) (hks : ∀ env, (backToKw pos (keywordEach kws env)).filterMap (·.1) = kwn kws := by intro _; rfl)
    (hdb : (x == ("__debug__" : Str)) = false := by decide) (hpl : ∀ env, ((backTo pos (starEach [] env)).any (·.1) || (backToKw pos (keywordEach kws env)).any (·.1.isNone)) = false := by intro _; rfl) :
    GE c (.Call (.Name x p) [] kws pos) (tFn c x 0 (kwn kws) tNil tK) := fun X h => ⟨fun pins st σ H Q I hq => by
  obtain ⟨s, hs, hq⟩ := hq
  obtain ⟨mem, ek, en, eks⟩ := shpOf_ok hs
  obtain ⟨k0, r0, all⟩ := h.fns hc
  have kp := (all s mem).kp
  rw [ek] at kp
  rw [← h.hK] at kp
  have hm := h.glo hf
  rw [← h.hK] at hm
  refine wpAny_Call_Name_kw (ld_glob I (h.gln hg) hm ?_ hdb)
  refine PySem.W.callWith_KW0 (h₀ := X.base) I.ok.mod.kin kp (hall X.env) ?_ (hpl X.env)
  refine thn ((hk X h).run pos pins st σ H _ I hq) fun ws s2 ⟨zs, H2, I2, rz, l1, l2, q2⟩ => ⟨I2.kIn, ?_⟩
  rw [hks, ← eks]
  have z := run_g h hc mem (us := []) (vs := []) I2 .nil rz (by rw [en] <;> rfl) (by rw [eks]; exact l2) q2
  rw [ek] at z
  rw [h.hK]
  exact z⟩

/-! ### methods -/
/-- o.m(..) of an instance; C: its class's name -/
def tMeth (c : Cn) (m : Str) (na : Nat) (ks : List Str) (to : TE) (tA tK : TA) : TE := fun σ H Q => to σ H fun x H1 => ∃ (d : Addr) (C : Str) (dx : Addr) (fs : List (Str × V)), x = .ref d ∧ H1 d = some (.ins (He.ga c.K C) dx fs) ∧
  hasF (isCls C) c.fa = true ∧ hasF (isMeth C m) c.fa = true ∧ fs.lookup m = none ∧ tArgs c (C, some m) na ks [.ref d] tA tK σ H1 Q
abbrev MethTree (o : Expr) (m : Str) (apos : Pos) (es : List Expr) (kws : List Keyword) (pos : Pos) : Prop := ∀ env, ∃ pl : Sem Bool, eval (.Call (.Attribute o m apos) es kws pos) env = (do
      let ov ← eval o env
      standAt apos.atName
      let (f, first) ← holding [ov] (getMethod ov m pl)
      callWith pos f first (backTo pos (starEach es env)) (backToKw pos (keywordEach kws env)))
theorem g_meth (ho : GE c o to) (ha : GA c (e :: es) tA) (hk : GK c kws tK) (hc : c.hot = false := by rfl) (ht : MethTree o m apos (e :: es) kws pos := by exact fun _ => ⟨_, rfl⟩)
    (hall : ∀ env, (backToKw pos (keywordEach kws env)).all (·.1.isSome) = true := by intro _; rfl) (hks : ∀ env, (backToKw pos (keywordEach kws env)).filterMap (·.1) = kwn kws := by intro _; rfl)
    (he : ∀ env, starEach (e :: es) env = (false, eval e env) :: starEach es env := by intro _; rfl)
    (hpl : ∀ env, ((backTo pos (starEach (e :: es) env)).any (·.1) || (backToKw pos (keywordEach kws env)).any (·.1.isNone)) = false := by intro _; rfl) :
    GE c (.Call (.Attribute o m apos) (e :: es) kws pos) (tMeth c m (e :: es).length (kwn kws) to tA tK) := fun X h => ⟨fun pins st σ H Q I hq => by
  obtain ⟨pl, ht⟩ := ht X.env
  refine PySem.W.methodCall_KW (pl := pl) (thn ((ho X h).run pins st σ H _ I hq) fun u s1 ⟨x, H1, I1, rx, d, C, dx, fs, ex, ea, k1, k2, l, s, hs, q⟩ => ?_) ht
  subst ex
  cases rx
  obtain ⟨mem, ek, en, eks⟩ := shpOf_ok hs
  have cl := h.cls k1
  have me := h.meth k2
  rw [← h.hK] at ea cl me
  refine getmeth_ok I1 ea cl me l ?_
  refine PySem.W.callWith_KW (h₀ := X.base) I1.ok.mod.kin me.kp (hall X.env) (thn ((ha X h).run pos pins s1 σ H1 _ I1 q) fun us s2 ⟨vs, H2, I2, r, q⟩ => ?_) (hpl X.env) (he X.env)
  refine thn ((hk X h).run pos pins s2 σ H2 _ I2 q) fun ws s3 ⟨zs, H3, I3, rz, l1, l2, q2⟩ => ⟨I3.kIn, ?_⟩
  rw [hks, ← eks]
  have z := run_g h hc mem I3 (us := Value.ref d :: us) (vs := V.ref d :: vs) (.cons rfl r) rz (by rw [en, List.length_cons, l1, List.length_singleton, Nat.add_comm]) (by rw [eks]; exact l2) q2
  rw [ek, ← h.hK] at z
  exact z⟩
theorem g_meth0 (ho : GE c o to) (hk : GK c kws tK) (hc : c.hot = false := by rfl) (ht : MethTree o m apos [] kws pos := by exact fun _ => ⟨_, rfl⟩)
    (hall : ∀ env, (backToKw pos (keywordEach kws env)).all (·.1.isSome) = true := by intro _; rfl) (hks : ∀ env, (backToKw pos (keywordEach kws env)).filterMap (·.1) = kwn kws := by intro _; rfl)
    (hpl : ∀ env, ((backTo pos (starEach [] env)).any (·.1) || (backToKw pos (keywordEach kws env)).any (·.1.isNone)) = false := by intro _; rfl) :
    GE c (.Call (.Attribute o m apos) [] kws pos) (tMeth c m 0 (kwn kws) to tNil tK) := fun X h => ⟨fun pins st σ H Q I hq => by
  obtain ⟨pl, ht⟩ := ht X.env
  refine PySem.W.methodCall_KW (pl := pl) (thn ((ho X h).run pins st σ H _ I hq) fun u s1 ⟨x, H1, I1, rx, d, C, dx, fs, ex, ea, k1, k2, l, s, hs, q⟩ => ?_) ht
  subst ex
  cases rx
  obtain ⟨mem, ek, en, eks⟩ := shpOf_ok hs
  have cl := h.cls k1
  have me := h.meth k2
  rw [← h.hK] at ea cl me
  refine getmeth_ok I1 ea cl me l ?_
  refine PySem.W.callWith_KW0 (h₀ := X.base) I1.ok.mod.kin me.kp (hall X.env) ?_ (hpl X.env)
  refine thn ((hk X h).run pos pins s1 σ H1 _ I1 q) fun ws s3 ⟨zs, H3, I3, rz, l1, l2, q2⟩ => ⟨I3.kIn, ?_⟩
  rw [hks, ← eks]
  have z := run_g h hc mem I3 (us := [.ref d]) (vs := [.ref d]) (.cons rfl .nil) rz (by rw [en] <;> rfl) (by rw [eks]; exact l2) q2
  rw [ek, ← h.hK] at z
  exact z⟩

/-! ### a new instance -/
theorem make_guards {A : Around} {C : Addr} {us : List Value} {kw : List (Str × Value)} (h : A.guards = some []) : (A.under (.builtin "type.__call__" ⟨.ref C :: us, kw⟩)).guards = some [] := by
  show pushGuards (Code.guards (.builtin "type.__call__" ⟨.ref C :: us, kw⟩)) A.guards = some []
  rw [h]
  first | rfl | simp [Code.guards, Code.isGuard, guardIds, pushGuards]
theorem run_mk {X : Cx} (h : Bd c X) (hc : c.hot = false) {s : Shp} (hs : s ∈ c.sh) (ek : s.key = (x, some ("__init__" : Str))) (hm : hasF (isMkr x) c.fa = true) {pins : List (Addr × Obj)} {σ : L2.St} {H : Hp} {st : Shared} {Q : VK} {us ws : List Value} {vs zs : List V}
    (I : Inv X pins σ H st) (r : Vals vs us) (rz : Vals zs ws) (l1 : vs.length + 1 = s.n) (l2 : zs.length = s.ks.length)
    (hq : ∀ d dx, H d = none → H dx = none → dx ≠ d → c.Ph s.key (plug c.K s.plan (.ref d :: vs) zs) (upd (upd H dx (.own d)) d (.ins (He.ga c.K x) dx [])) (fun v H2 => v = .non ∧ Q (.ref d) H2) (WE c.W σ)) :
    wpAny (model X.prog X.w) X.A (call (.ref (He.ga c.K x)) us (s.ks.zip ws)) (EP X pins σ Q) X.xe st := by
  obtain ⟨k, room, all⟩ := h.fns hc
  obtain ⟨fd, ps, g, F, kb⟩ := (all s hs).ex
  have M := h.mkr hm
  have I2 := Inv.made (C := He.ga c.K x) I
  have q0 := hq (st.heap.objs.size + 1) st.heap.objs.size (I.hok.fresh (Nat.le_succ _)) (I.hok.fresh (Nat.le_refl _)) (Nat.ne_of_lt (Nat.lt_succ_self _))
  have r1 : Vals (V.ref (st.heap.objs.size + 1) :: vs) (Value.ref (st.heap.objs.size + 1) :: us) := .cons rfl r
  have bt := kb.to _ (Value.ref (st.heap.objs.size + 1) :: us) ws I2.kIn (by rw [List.length_cons, ← r.length]; exact l1) (rz.length.symm.trans l2)
  have ef : He.fAd c.K s.key = He.ma c.K (He.ga c.K x) "__init__" := by rw [ek] <;> rfl
  rw [ef] at F
  have kin := I.kIn
  rw [h.hK] at kin
  refine wpAny_call (make_map kin M.makes M.init (beq_iff_eq.mp M.fn) (codeAny_mono (F.run _ X.stack _ _ ⟨Value.ref (st.heap.objs.size + 1) :: us, s.ks.zip ws⟩ _ _ _ (WE c.W σ) (room.make _ us _) (make_guards h.gu)
    (I2.env0.make _ us _) bt (kb.rel r1 rz) q0) fun res s2 z => ?_))
  cases res with
  | error er => exact passAt h.tk σ pins _ _ er s2 I2 z
  | ok fl =>
    cases fl with
    | ret u =>
      obtain ⟨v, H3, I3, rv, ev, q3⟩ := I2.after z
      subst ev
      exact ⟨rv, ⟨.ref (st.heap.objs.size + 1), H3, I3, rfl, q3⟩⟩
    | next => exact z.elim
    | brk => exact z.elim
    | cont => exact z.elim
def tMk (c : Cn) (x : Str) (na : Nat) (ks : List Str) (tA tK : TA) : TE := fun σ H Q => hasF (isMkr x) c.fa = true ∧ ∃ s, shpOf c.sh (x, some ("__init__" : Str)) (na + 1) ks = some s ∧ tA σ H fun vs H1 => tK σ H1 fun zs H2 => vs.length = na ∧ zs.length = ks.length ∧
  ∀ d dx, H2 d = none → H2 dx = none → dx ≠ d → c.Ph s.key (plug c.K s.plan (.ref d :: vs) zs) (upd (upd H2 dx (.own d)) d (.ins (He.ga c.K x) dx [])) (fun v H3 => v = .non ∧ Q (.ref d) H3) (WE c.W σ)
theorem g_make (ha : GA c (e :: es) tA) (hk : GK c kws tK) (hg : GlN c x := by rfl) (hf : hasF (isGlo x) c.fa = true := by rfl) (hc : c.hot = false := by rfl)
    (hall : ∀ env, (backToKw pos (keywordEach kws env)).all (·.1.isSome) = true := by intro _; rfl) (hks : ∀ env, (backToKw pos (keywordEach kws env)).filterMap (·.1) = kwn kws := by intro _; rfl)
    (hdb : (x == ("__debug__" : Str)) = false := by decide) (he : ∀ env, starEach (e :: es) env = (false, eval e env) :: starEach es env := by intro _; rfl)
    (hpl : ∀ env, ((backTo pos (starEach (e :: es) env)).any (·.1) || (backToKw pos (keywordEach kws env)).any (·.1.isNone)) = false := by intro _; rfl) :
    GE c (.Call (.Name x p) (e :: es) kws pos) (tMk c x (e :: es).length (kwn kws) tA tK) := fun X h => ⟨fun pins st σ H Q I hq => by
  obtain ⟨mk, s, hs, hq⟩ := hq
  obtain ⟨mem, ek, en, eks⟩ := shpOf_ok hs
  have kp := (h.mkr mk).kp
  have hm := h.glo hf
  rw [← h.hK] at hm kp
  refine wpAny_Call_Name_kw (ld_glob I (h.gln hg) hm ?_ hdb)
  refine PySem.W.callWith_KW (h₀ := X.base) I.ok.mod.kin kp (hall X.env) (thn ((ha X h).run pos pins st σ H _ I hq) fun us s1 ⟨vs, H1, I1, r, q⟩ => ?_) (hpl X.env) (he X.env)
  refine thn ((hk X h).run pos pins s1 σ H1 _ I1 q) fun ws s2 ⟨zs, H2, I2, rz, l1, l2, q2⟩ => ⟨I2.kIn, ?_⟩
  rw [hks, ← eks]
  have z := run_mk h hc mem ek mk I2 r rz (by rw [en, l1]) (by rw [eks]; exact l2) q2
  rw [h.hK]
  exact z⟩
theorem g_make0 (hk : GK c kws tK) (hg : GlN c x := by rfl) (hf : hasF (isGlo x) c.fa = true := by rfl) (hc : c.hot = false := by rfl)
    (hall : ∀ env, (backToKw pos (keywordEach kws env)).all (·.1.isSome) = true := by intro _; rfl) (hks : ∀ env, (backToKw pos (keywordEach kws env)).filterMap (·.1) = kwn kws := by intro _; rfl)
    (hdb : (x == ("__debug__" : Str)) = false := by decide) (hpl : ∀ env, ((backTo pos (starEach [] env)).any (·.1) || (backToKw pos (keywordEach kws env)).any (·.1.isNone)) = false := by intro _; rfl) :
    GE c (.Call (.Name x p) [] kws pos) (tMk c x 0 (kwn kws) tNil tK) := fun X h => ⟨fun pins st σ H Q I hq => by
  obtain ⟨mk, s, hs, hq⟩ := hq
  obtain ⟨mem, ek, en, eks⟩ := shpOf_ok hs
  have kp := (h.mkr mk).kp
  have hm := h.glo hf
  rw [← h.hK] at hm kp
  refine wpAny_Call_Name_kw (ld_glob I (h.gln hg) hm ?_ hdb)
  refine PySem.W.callWith_KW0 (h₀ := X.base) I.ok.mod.kin kp (hall X.env) ?_ (hpl X.env)
  refine thn ((hk X h).run pos pins st σ H _ I hq) fun ws s2 ⟨zs, H2, I2, rz, l1, l2, q2⟩ => ⟨I2.kIn, ?_⟩
  rw [hks, ← eks]
  have z := run_mk h hc mem ek mk I2 (us := []) (vs := []) .nil rz (by rw [en] <;> rfl) (by rw [eks]; exact l2) q2
  rw [h.hK]
  exact z⟩
end
end Rw

namespace Rw
open PySem PySem.Spec PyProof.Rows L2
section
variable {c : Cn} {a b d e o tg : Expr} {es : List Expr} {kws : List Keyword} {ta tb tc te to : TE} {t u : TT} {tA tK : TA} {ts us : TS} {wi : TI} {g g2 : TG} {gg : TGs} {pos apos p p2 : Pos} {x y m : Str} {ks : List Str} {st : Stmt} {sts : List Stmt}

/-! ### what is walked -/
theorem PI.or {X : Cx} {w1 w2 : TI} (h1 : PI X tg e w1) (h2 : PI X tg e w2) : PI X tg e (fun σ H R => w1 σ H R ∨ w2 σ H R) := ⟨fun pins s σ H R I q => q.elim (h1.run pins s σ H R I) (h2.run pins s σ H R I)⟩
/-- a list or a tuple -/
def iSeq (K : PySem.W.Frag) (ta : TE) : TI := fun σ H R => iList K ta σ H R ∨ iTup K ta σ H R
theorem gi_seq (h : GE c e te) : GI c tg e (iSeq c.K te) := fun X b => by
  have := PI.or (tg := tg) (pi_list (h X b)) (pi_tup (h X b))
  rw [b.hK] at this
  exact this
theorem gi_str (h : GE c e te) : GI c tg e (iStr te) := fun X b => pi_str (h X b)
theorem gi_rng1 (ha : GE c a ta) (hg : GlN c "range" := by rfl) (hf : hasF (isFree "range") c.fa = true := by rfl) (hs : ∀ env, starEach [a] env = [(false, eval a env)] := by intro _; rfl) : GI c tg (.Call (.Name "range" p) [a] [] pos) (iRng1 (tCons ta tNil)) := fun X h =>
  pi_range1 (h.gln hg) (h.free hf) (pa_cons (ha X h) pa_nil (hs X.env)) (hs X.env)
theorem gi_rng2 (ha : GE c a ta) (hb : GE c b tb) (hg : GlN c "range" := by rfl) (hf : hasF (isFree "range") c.fa = true := by rfl) (hs : ∀ env, starEach [a, b] env = [(false, eval a env), (false, eval b env)] := by intro _; rfl)
    (hs2 : ∀ env, starEach [b] env = [(false, eval b env)] := by intro _; rfl) : GI c tg (.Call (.Name "range" p) [a, b] [] pos) (iRng2 (tCons ta (tCons tb tNil))) := fun X h =>
  pi_range2 (h.gln hg) (h.free hf) (pa_cons (ha X h) (pa_cons (hb X h) pa_nil (hs2 X.env)) (by rw [hs X.env, hs2 X.env])) (hs X.env) (hs2 X.env)
/-- a dict by its keys, its values, its items: locked -/
theorem gi_keys (h : GE c e te) : GI c tg e (iKeys te) := fun X b => pi_keys (h X b)
theorem gi_values (h : GE c e te) (hb : ∀ env w, attributeBase e "values" env w = w := by intro _ _; rfl) (hl : (apos.endLine == pos.line) = true := by rfl) : GI c tg (.Call (.Attribute e "values" apos) [] [] pos) (iVals te) := fun X b => pi_values (h X b) (hb X.env _) hl
theorem gi_items {k : Nat} (h : GE c e te) (hb : ∀ env w, attributeBase e "items" env w = w := by intro _ _; rfl) (hl : (apos.endLine == pos.line) = true := by rfl) : GI c (.Tuple es k p2) (.Call (.Attribute e "items" apos) [] [] pos) (iItems te) := fun X b => pi_items (h X b) (hb X.env _) hl
theorem gi_enum {k : Nat} (ha : GE c a ta) (hg : GlN c "enumerate" := by rfl) (hf : hasF (isFree "enumerate") c.fa = true := by rfl) (hs : ∀ env, starEach [a] env = [(false, eval a env)] := by intro _; rfl) : GI c (.Tuple es k p2) (.Call (.Name "enumerate" p) [a] [] pos) (iEnum c.K (tCons ta tNil)) := fun X h => by
  have := pi_enum (tpos := p2) (elts := es) (kk := k) (p := p) (pos := pos) (h.gln hg) (h.free hf) (pa_cons (ha X h) pa_nil (hs X.env)) (hs X.env)
  rw [h.hK] at this
  exact this

/-! ### targets -/
theorem gg_name (i : Nat) (hN : c.N[i]? = some x := by rfl) (hx : Loc c.sc x := by first | exact Or.inl rfl | exact Or.inr rfl) (hf : c.fnn x = true ∨ c.sc.names.lookup x = some .local := by first | exact Or.inl rfl | exact Or.inr rfl) : GG c (.Name x pos) (gName i) := fun X h => by
  refine pg_name (i := i) (by rw [h.hN]; exact h.nd) (by rw [h.hN]; exact hN) (by rw [h.hsc]; exact hx) ?_
  rcases hf with z | z
  · exact .inl (h.fn x z)
  · exact .inr (by rw [h.hsc]; exact z)
theorem ggs_nil : GGs c [] gNil := fun _ _ => pgs_nil
theorem ggs_cons (h1 : GG c e g) (h2 : GGs c es gg) (hs : ∀ env, (assignEach (e :: es) env).map (·.2) = assign e env :: (assignEach es env).map (·.2) := by intro _; rfl) : GGs c (e :: es) (gCons g gg) := fun X b => pgs_cons (h1 X b) (h2 X b) (hs X.env)
theorem PG.or {X : Cx} {g1 g2 : TG} (h1 : PG X e g1) (h2 : PG X e g2) : PG X e (fun v σ H Q => g1 v σ H Q ∨ g2 v σ H Q) := ⟨fun pins s σ H v u Q I r q => q.elim (h1.run pins s σ H v u Q I r) (h2.run pins s σ H v u Q I r)⟩
/-- of a tuple | of a list -/
def gUnp (K : PySem.W.Frag) (n : Nat) (gg : TGs) : TG := fun v σ H Q => gTup K n gg v σ H Q ∨ gLst K n gg v σ H Q
theorem gg_tup {k : Nat} (n : Nat) (h : GGs c es gg) (hc : c.hot = false := by rfl) (hn : ∀ env, (assignEach es env).length = n := by intro _; rfl) (hst : ∀ env, (assignEach es env).findIdx? (·.1) = none := by intro _; rfl) : GG c (.Tuple es k pos) (gUnp c.K n gg) := fun X b => by
  have := PG.or (pg_tup (pos := pos) (k := k) (b.calm hc) (h X b) (hn X.env) (hst X.env)) (pg_lst (pos := pos) (k := k) (b.calm hc) (h X b) (hn X.env) (hst X.env))
  rw [b.hK] at this
  exact this
/-- o[i] = v of a list, of a dict -/
def rPutU : TSet := fun o i v H Q => rSetL o i v H Q ∨ rSetD o i v H Q
theorem put_all (X : Cx) (h : Bd c X) : PSet X rPutU := fun pins s σ H o i v ov iv u Q I r1 r2 r3 q => q.elim (set_list pins s σ H o i v ov iv u Q I r1 r2 r3) (set_dict (by have := h.un; omega) pins s σ H o i v ov iv u Q I r1 r2 r3)
theorem gg_sub (ho : GE c o to) (hi : GE c d tb) (ha : ∀ env v, assign (.Subscript o d pos) env v = (do
      let ov ← holding [v] (eval o env)
      let iv ← holding [v, ov] (eval d env)
      standAt pos
      holding [v, ov, iv] (setItem ov iv v)
      release [v, ov, iv] []) := by intro _ _; rfl) : GG c (.Subscript o d pos) (gSub to tb rPutU) := fun X h => pg_sub (ho X h) (hi X h) (put_all X h) (ha X.env)

/-! ### statements -/
theorem sw_at {tgs : List Expr} {env : Env} {sc : Scope} (h : env.scope = sc) : swappedStores tgs e env = swappedStores tgs e (envOfC "x" sc 0 0 .none) := by
  subst h
  rfl
theorem gb_nil : GB c [] tNext := fun _ _ => pss_nil
theorem gb_cons (h1 : GS c st ts) (h2 : GB c sts us) : GB c (st :: sts) (tSeq ts us) := fun X h => pss_cons (h1 X h) (h2 X h)
theorem gb_one (h1 : GS c st ts) : GB c [st] ts := fun X h => pss_one (h1 X h)
theorem gs_pass : GS c (.Pass pos) tNext := fun _ _ => ps_pass
theorem gs_doc {z : Str} {j} : GS c (.Expr (.Constant (.str z) j p) pos) tNext := fun _ _ => ps_doc
theorem gs_expr (h : GE c e te) (hs : ∀ env, swapsWith e none pos.line env = pure false := by intro _; rfl) : GS c (.Expr e pos) (tDrop te) := fun X b => ps_expr (h X b) (hs X.env)
theorem gs_ret (h : GE c e te) : GS c (.Return (some e) pos) (tRet te) := fun X b => ps_ret (h X b)
theorem gs_retN : GS c (.Return none pos) tRetN := fun _ _ => ps_retN
theorem gs_if {ss1 ss2 : List Stmt} (hc : GT c e t) (h1 : GB c ss1 ts) (h2 : GB c ss2 us) : GS c (.If e ss1 ss2 pos) (tIfS t ts us) := fun X b => ps_if (hc X b) (h1 X b) (h2 X b)
theorem gs_never : GS c st tNever := fun _ _ => ps_never
theorem gb_never : GB c sts tNever := fun _ _ => pss_never
theorem gs_while {ss : List Stmt} (hc : GT c e t) (h1 : GB c ss ts) : GS c (.While e ss [] pos) (tWhile t ts) := fun X b => ps_while b.po (hc X b) (h1 X b)
theorem gs_for {ss : List Stmt} (hi : GI c tg e wi) (hg : GG c tg g) (hb : GB c ss ts) (hc : c.hot = false := by rfl) (hs : ∀ env x, foldedSetIterable e env x = pure x := by intro _ _; rfl) : GS c (.For tg e ss [] pos) (tFor wi g ts) := fun X b => ps_for b.po (b.calm hc) (hi X b) (hg X b) (hb X b) (hs X.env)
theorem gs_lock (h : GS c st ts) : GS c st (tLock ts) := fun X b => ps_lock (h X b)
theorem g_lock (h : GE c e te) : GE c e (tLockE te) := fun X b => pe_lock (h X b)
theorem gs_asg (he : GE c e te) (hg : GG c tg g) (hs : ∀ env, swapsWithSole [tg] e pos.line env = pure false := by intro _; rfl) (hw : ∀ env, env.scope = c.sc → swappedStores [tg] e env = pure none := by first | (intro _ _; rfl) | exact fun _ h => (sw_at h).trans rfl)
    (h1 : ∀ env, (assignEach [tg] env).map (·.2) = [assign tg env] := by intro _; rfl) : GS c (.Assign [tg] e pos) (tAsg te g) := fun X b => ps_asg (he X b) (hg X b) (hs X.env) (hw X.env b.hsc) (h1 X.env)
/-- a, b = e1, e2 -/
theorem gs_par {px py pt : Pos} {kt k2 pt2} (i j : Nat) (ha : GE c a ta) (hb : GE c b tb) (hi : c.N[i]? = some x := by rfl) (hj : c.N[j]? = some y := by rfl) (hij : i ≠ j := by decide) (hc : c.hot = false := by rfl) (hx : c.sc.names.lookup x = some .local := by rfl) (hy : c.sc.names.lookup y = some .local := by rfl)
    (hw : ∀ env, env.scope = c.sc → swappedStores [.Tuple [.Name x px, .Name y py] kt pt] (.Tuple [a, b] k2 pt2) env = pure (some [x, y]) := by exact fun _ h => (sw_at h).trans rfl)
    (hs : ∀ env, swapsWithSole [.Tuple [.Name x px, .Name y py] kt pt] (.Tuple [a, b] k2 pt2) pos.line env = pure false := by intro _; rfl)
    (s1 : ∀ env, starEach [a, b] env = (false, eval a env) :: starEach [b] env := by intro _; rfl) (s2 : ∀ env, starEach [b] env = (false, eval b env) :: starEach [] env := by intro _; rfl) :
    GS c (.Assign [.Tuple [.Name x px, .Name y py] kt pt] (.Tuple [a, b] k2 pt2) pos) (tPar i j (tCons ta (tCons tb tNil))) := fun X h =>
  ps_par (h.calm hc) (by rw [h.hN]; exact h.nd) (by rw [h.hN]; exact hi) (by rw [h.hN]; exact hj) hij (by rw [h.hsc]; exact hx) (by rw [h.hsc]; exact hy) (pa_cons (ha X h) (pa_cons (hb X h) pa_nil (s2 X.env)) (s1 X.env)) (hw X.env h.hsc) (hs X.env)
/-- o.f = e, of an instance -/
def sAttr (K : PySem.W.Frag) (fa : List He.Fa) (to tv : TE) (f : Str) : TS := fun D σ H => tv σ H fun y H1 => to σ H1 fun x H2 => ∃ (q : Addr) (C : Str) (dx : Addr) (fs : List (Str × V)), x = .ref q ∧ H2 q = some (.ins (He.ga K C) dx fs) ∧
  hasF (isCls C) fa = true ∧ hasF (isNoat C f) fa = true ∧ fs.length < 1000 ∧ D.nx σ (upd H2 q (.ins (He.ga K C) dx (putF f y fs)))
theorem gs_attr {f : Str} {p' : Pos} (ho : GE c o to) (he : GE c e te) (hs : ∀ env, swapsWith e (some (.Attribute o f p')) pos.line env = pure false := by intro _; rfl) : GS c (.Assign [.Attribute o f p'] e pos) (sAttr c.K c.fa to te f) := fun X h => ⟨fun pins s σ H D I hq => by
  refine plainObj_wpAny_Assign_Attribute (thn ((he X h).run pins s σ H _ I hq) fun u s1 ⟨y, H1, I1, ry, q⟩ => thn ((ho X h).run pins s1 σ H1 _ I1 q) fun ov s2 ⟨x, H2, I2, rx, q0, C, dx, fs, ex, ea, k1, k2, l, q2⟩ => ?_) (hs X.env)
  subst ex
  cases rx
  have cl := h.cls k1
  have na := h.noat k2
  rw [← h.hK] at ea cl na q2
  exact setattr_ok I2 ea cl na l ry fun s3 I3 => ⟨σ, _, I3, q2⟩⟩
def sAttrAug (K : PySem.W.Frag) (fa : List He.Fa) (to tv : TE) (rd : V → V → Hp → VK → Prop) (f : Str) : TS := fun D σ H => to σ H fun x H1 => ∃ (q : Addr) (C : Str) (dx : Addr) (fs : List (Str × V)) (v : V), x = .ref q ∧ H1 q = some (.ins (He.ga K C) dx fs) ∧
  hasF (isCls C) fa = true ∧ hasF (isNoat C f) fa = true ∧ fs.lookup f = some v ∧ tv σ H1 fun y H2 => rd v y H2 fun z H3 => ∃ dx' fs', H3 q = some (.ins (He.ga K C) dx' fs') ∧ fs'.length < 1000 ∧ D.nx σ (upd H3 q (.ins (He.ga K C) dx' (putF f z fs')))
theorem gs_attrAug {f : Str} {op : Operator} {rd : V → V → Hp → VK → Prop} {p' : Pos} (ho : GE c o to) (he : GE c e te) (hop : ∀ X, InOp X op rd) : GS c (.AugAssign (.Attribute o f p') op e pos) (sAttrAug c.K c.fa to te rd f) := fun X h => ⟨fun pins s σ H D I hq => by
  refine wpAny_AugAssign_AttributeAny (thn ((ho X h).run pins s σ H _ I hq) fun ov s1 ⟨x, H1, I1, rx, q0, C, dx, fs, v, ex, ea, k1, k2, l, q⟩ => ?_)
  subst ex
  cases rx
  have cl := h.cls k1
  have na := h.noat k2
  have hK := h.hK
  rw [← hK] at ea cl na
  refine getattr_ok I1 ea cl na l fun u s2 I2 ru => thn ((he X h).run pins s2 σ H1 _ I2 q) fun w3 s3 ⟨y, H2, I3, ry, q3⟩ => thn (hop X pins s3 σ H2 v y u w3 _ I3 ru ry q3) fun w4 s4 ⟨z, H3, I4, rz, dx', fs', ea', l', q4⟩ => ?_
  rw [← hK] at ea' q4
  exact setattr_ok I4 ea' cl na l' rz fun s5 I5 => ⟨σ, _, I5, q4⟩⟩
theorem gs_aug {op : Operator} {ti : TIp} (i : Nat) (he : GE c e te) (hop : ∀ X, PIp X op ti) (hN : c.N[i]? = some x := by rfl) (hx : Loc c.sc x := by first | exact Or.inl rfl | exact Or.inr rfl) (hf : c.fnn x = true ∨ c.sc.names.lookup x = some .local := by first | exact Or.inl rfl | exact Or.inr rfl) :
    GS c (.AugAssign (.Name x p) op e pos) (tAug i te ti) := fun X h => by
  refine ps_aug (i := i) (by rw [h.hN]; exact h.nd) (by rw [h.hN]; exact hN) (by rw [h.hsc]; exact hx) (he X h) (hop X) ?_
  rcases hf with z | z
  · exact .inl (h.fn x z)
  · exact .inr (by rw [h.hsc]; exact z)

/-! ### comprehensions -/
theorem gts_nil : GTs c [] tYes := fun _ _ => pts_nil
theorem gts_one (h : GT c e t) : GTs c [e] t := fun X b => pts_one (h X b)
theorem Bd.blkok {X : Cx} {scope : Scope} {own : List (Str × Nat)} (h : Bd c X) (ok : blkC c.N c.sc scope own = true) : BlkOk X.N X.env.scope scope own := by
  rw [h.hN, h.hsc]
  exact blkOk_by ok
theorem g_lc {ifs : List Expr} {scope : Scope} (own : List (Str × Nat)) (vs : List Nat) (hi : GI c tg b wi) (hg : GG (c.blk scope) tg g) (ht : GTs (c.blk scope) ifs t) (he : GE (c.blk scope) e te) (ok : blkC c.N c.sc scope own = true := by rfl) (hvs : own.map (·.2) = vs := by rfl) (hc : c.hot = false := by rfl)
    (hs : ∀ env x, foldedSetIterable b env x = pure x := by intro _ _; rfl) : GE c (.ListComp e [⟨tg, b, ifs, 0⟩] scope pos) (tLc wi g t te vs) := fun X h => by
  subst hvs
  exact pe_lc (h.calm hc) (by rw [h.hN]; exact h.nd) (hi X h) (h.blkok ok) (fun s H C cl fp => hg _ (h.blk s H scope C cl fp)) (fun s H C cl fp => ht _ (h.blk s H scope C cl fp)) (fun s H C cl fp => he _ (h.blk s H scope C cl fp)) (hs X.env)
/-- x = [..] -/
theorem gs_lc {ifs : List Expr} {scope : Scope} (i : Nat) (own : List (Str × Nat)) (vs : List Nat) (hi : GI c tg b wi) (hg : GG (c.blk scope) tg g) (ht : GTs (c.blk scope) ifs t) (he : GE (c.blk scope) e te)
    (hw : ∀ env, env.scope = c.sc → swapsWith (.ListComp e [⟨tg, b, ifs, 0⟩] scope p2) (some (.Name x p)) pos.line env = pure true := by exact fun env h => sw_true (by rw [h]; rfl) (by rw [h]; rfl) rfl rfl)
    (ok : blkC c.N c.sc scope own = true := by rfl) (hvs : own.map (·.2) = vs := by rfl) (hc : c.hot = false := by rfl) (hN : c.N[i]? = some x := by rfl) (hx : c.sc.names.lookup x = some .local := by rfl)
    (hs : ∀ env x, foldedSetIterable b env x = pure x := by intro _ _; rfl) : GS c (.Assign [.Name x p] (.ListComp e [⟨tg, b, ifs, 0⟩] scope p2) pos) (tAsg (tLc wi g t te vs) (gName i)) := fun X h => by
  subst hvs
  exact ps_setLc (h.calm hc) (by rw [h.hN]; exact h.nd) (by rw [h.hN]; exact hN) (by rw [h.hsc]; exact hx) (hw X.env h.hsc) (hi X h) (h.blkok ok) (fun s H C cl fp => hg _ (h.blk s H scope C cl fp)) (fun s H C cl fp => ht _ (h.blk s H scope C cl fp)) (fun s H C cl fp => he _ (h.blk s H scope C cl fp)) (hs X.env)
end
end Rw

namespace Rw
open PySem PySem.Spec PyProof.Rows L2

/-! ### a def's body keeps its promise -/
theorem deeper_guards {A : Around} {env : Env} (h : A.guards = some []) : (A.deeper env).guards = some [] := h
theorem fn_g {P : Program} {w : World} {K : PySem.W.Frag} {mg : Str → Option Value} {base : Heap} {k : Nat} {f : Addr} {nm qual : Str} {params : Arguments} {body : List Stmt} {scope : Scope} {dvs : List V} {kws : List (Str × V)} {fd : FuncData} {N ps : List Str} {sp : Sp}
    (F : FunD K nm qual params body scope dvs kws f fd) (S : FnScope N ps scope) (hlen : ∀ vs H Q E, sp vs H Q E → vs.length = ps.length)
    (hb : ∀ (cdv : Value) (A : Around) (outer : List Env) (s : Shared) (H : Hp) (vs : List V) (Q : VK) (E : XK), Room k (A.deeper (envOfC qual scope s.heap.objs.size f cdv)) → A.guards = some [] → sp vs H Q E →
      ∃ t, PSs (cxOf (L2.CX P w) P w K mg base N qual scope f cdv A outer s H E) body t ∧ t { nx := fun _ H2 => Q .non H2, rt := Q } (start N vs) H) : FnG P w K mg base (k + 1) f fd ps sp := by
  obtain ⟨oc, od, dV, kV, doc, pm, an, cdv, ct, osl, efd, look, code, _, _⟩ := F.ex
  subst efd
  constructor
  · exact hlen
  intro A outer s H args us vs Q E room gu e0 bt rel hsp
  have hkeep : ∀ b o, base.get? b = some o → s.heap.get? b = some o := fun b o z => (e0.bs b o z).1
  have hin : K.In s.heap := e0.mod.kin.keeps hkeep
  have hlim := e0.mod.nolimit.keeps hkeep
  refine codeAny_call_function room.depth (hin _ _ look) rfl S.co S.gen rfl (PySem.W.codeRec_of hin code) (bt _ _ _ _ ?_)
  have hpar : ∀ z ∈ ps.zip us, scope.names.lookup z.1 = some .local ∨ (scope.names.lookup z.1 = some .cell ∧ ((cellsFrom (s.heap.objs.size + 1) scope.names []).lookup z.1).isSome = true) := by
    rintro ⟨n, v⟩ hz
    refine (S.par n (List.of_mem_zip hz).1).elim Or.inl fun q => Or.inr ⟨q, ?_⟩
    exact PySem.W.cellsFrom_some _ _ _ (.inl q)
  refine wpAny_newFunctionEnv_cells S.kind hpar fun env eenv s1 fresh => ?_
  subst eenv
  refine ⟨hlim.keeps fresh.toInCall.keep, codeAny_func ?_⟩
  obtain ⟨t, ht, hq⟩ := hb cdv A outer s H vs Q E (room.deeper _) gu hsp
  have I0 := inv_start (CX := L2.CX P w) (E := E) S room.hd e0 (hlen _ _ _ _ hsp) rel fresh
  have run := ht.run [] s1 _ H _ I0 hq
  refine wpAny_mono run (fun fl s2 z => ?_) fun _ _ z => z
  cases fl with
  | brk => exact z.elim fun _ z => z.elim fun _ z => z.2.elim
  | cont => exact z.elim fun _ z => z.elim fun _ z => z.2.elim
  | next =>
    obtain ⟨σ2, H2, J, q⟩ := z
    exact ⟨V.non, H2, J.os, J.bare, J.base, J.hok, rfl, q⟩
  | ret u =>
    obtain ⟨v, σ2, H2, J, rv, q⟩ := z
    exact ⟨v, H2, J.os, J.bare, J.base, J.hok, rv, q⟩

/-! ### the program's defs, level by level -/
structure Ent where
  d : He.DefD
  ps : List Str
  N : List Str
  T : PySem.W.Frag → (Ky → Sp) → WX → TS
def cn0 (fa : List He.Fa) (xa : List Ex) (sh : List Shp) (K : PySem.W.Frag) (Ph : Ky → Sp) (N : List Str) (sc : Scope) (W : WX) : Cn := ⟨false, true, K, fa, sh, Ph, N, sc, fun _ => true, W, xa, none⟩
def EntOk (fa : List He.Fa) (xa : List Ex) (sh : List Shp) (en : Ent) : Prop := ∀ (K : PySem.W.Frag) (Ph : Ky → Sp) (W : WX), GB (cn0 fa xa sh K Ph en.N en.d.scope W) en.d.body (en.T K Ph W)
def entOf (es : List Ent) (k : Ky) : Option Ent := es.find? fun en => decide (en.d.at_ = k)
def lev (K : PySem.W.Frag) (es : List Ent) : Nat → Ky → Sp
  | 0, _ => fun _ _ _ _ => False
  | n + 1, k => match entOf es k with
    | some en => fun vs H Q E => vs.length = en.ps.length ∧ en.T K (lev K es n) (fun cls dd _ H2 => E cls dd H2) { nx := fun _ H2 => Q .non H2, rt := Q } (start en.N vs) H
    | none => fun _ _ _ _ => False
/-- the way into a def -/
theorem lev_in {K : PySem.W.Frag} {es : List Ent} {n : Nat} {k : Ky} {en : Ent} {vs : List V} {H : Hp} {Q : VK} {E : XK} (e : entOf es k = some en) (hl : vs.length = en.ps.length)
    (h : en.T K (lev K es n) (fun cls dd _ H2 => E cls dd H2) { nx := fun _ H2 => Q .non H2, rt := Q } (start en.N vs) H) : lev K es (n + 1) k vs H Q E := by
  unfold lev
  rw [e]
  exact ⟨hl, h⟩
def scB (N ps : List Str) (sc : Scope) : Bool := (match sc.kind with | .function => true | _ => false) && (!sc.isCoroutine && (!sc.isGenerator && (decide N.Nodup && (decide (N.take ps.length = ps) &&
  ((ps.all fun x => match sc.names.lookup x with | some .local => true | some .cell => true | _ => false) && sc.names.all fun y => match y.2 with | .free => false | _ => true)))))
theorem scB_ok {N ps : List Str} {sc : Scope} (h : scB N ps sc = true) : FnScope N ps sc := by
  unfold scB at h
  obtain ⟨h1, h⟩ := He.ba h
  obtain ⟨h2, h⟩ := He.ba h
  obtain ⟨h3, h⟩ := He.ba h
  obtain ⟨h4, h⟩ := He.ba h
  obtain ⟨h5, h⟩ := He.ba h
  obtain ⟨h6, h7⟩ := He.ba h
  refine ⟨?_, by simpa using h2, by simpa using h3, of_decide_eq_true h4, of_decide_eq_true h5, fun x hx => ?_, fun y hy e => ?_⟩
  · split at h1
    · assumption
    · cases h1
  · have q := List.all_eq_true.mp h6 x hx
    split at q
    · exact .inl (by assumption)
    · exact .inr (by assumption)
    · cases q
  · have q := List.all_eq_true.mp h7 y hy
    rw [e] at q
    cases q

/-! ### how a call's arguments come to the parameters -/
def plugV (plan : List Src) (us ws : List Value) : List Value := plan.map fun s => match s with
  | .pos i => us.getD i .none
  | .kw j => ws.getD j .none
  | .dfl _ => .none
theorem vals_getD {vs : List V} {us : List Value} (r : Vals vs us) (i : Nat) : RelV (vs.getD i .non) (us.getD i .none) := by
  rw [List.getD_eq_getElem?_getD, List.getD_eq_getElem?_getD]
  cases e : vs[i]? with
  | some v =>
    obtain ⟨u, eu, ru⟩ := r.get e
    rw [eu]
    exact ru
  | none =>
    rw [r.none_of e]
    exact rfl
def noDfl (plan : List Src) : Bool := plan.all fun s => match s with | .dfl _ => false | _ => true
theorem plug_rel {K : PySem.W.Frag} {vs zs : List V} {us ws : List Value} (r : Vals vs us) (rz : Vals zs ws) : ∀ {plan : List Src}, noDfl plan = true → Vals (plug K plan vs zs) (plugV plan us ws)
  | [], _ => .nil
  | .pos i :: l, h => .cons (by show L2.RelV (nth vs i) _; rw [nth_at]; exact vals_getD r i) (plug_rel r rz (plan := l) h)
  | .kw j :: l, h => .cons (by show L2.RelV (nth zs j) _; rw [nth_at]; exact vals_getD rz j) (plug_rel r rz (plan := l) h)
  | .dfl _ :: _, h => by cases h
/-- s is a way to call en -/
def ShpOk (es : List Ent) (s : Shp) : Prop := ∃ en, entOf es s.key = some en ∧ ∀ (K : PySem.W.Frag) (fd : FuncData), FunD K en.d.name en.d.qual en.d.params en.d.body en.d.scope (en.d.dvs K) (en.d.kws K) (He.fAd K s.key) fd →
  ∃ g, KBn K fd en.ps s.n s.ks g (plug K s.plan)
theorem shp_plain {es : List Ent} {s : Shp} {en : Ent} (e : entOf es s.key = some en) (hd : en.d.dfl = []) (hp : noDfl s.plan = true)
    (h : ∀ (kV doc pm : Value) (an : Option Addr) (cdv ct : Value) (us ws : List Value), us.length = s.n → ws.length = s.ks.length →
      bindArgs (PySem.W.fnOf en.d.name en.d.qual en.d.params en.d.body en.d.scope .none kV doc pm an cdv ct) ⟨us, s.ks.zip ws⟩ = pure (en.ps.zip (plugV s.plan us ws))) : ShpOk es s := by
  refine ⟨en, e, fun K fd F => ⟨plugV s.plan, ⟨fun st us ws _ h1 h2 => ?_, fun r rz => plug_rel r rz hp⟩⟩⟩
  obtain ⟨oc, od, dV, kV, doc, pm, an, cdv, ct, osl, efd, look, code, hD, _⟩ := F.ex
  have edv : en.d.dvs K = [] := by unfold He.DefD.dvs; rw [hd]; rfl
  rcases hD with ⟨_, ed⟩ | ⟨ne, _⟩
  · subst efd ed
    exact .of_eq (h kV doc pm an cdv ct us ws h1 h2)
  · exact absurd edv ne

section
variable {P : Program} {w : World} {K : PySem.W.Frag} {mg : Str → Option Value} {base : Heap} {fa : List He.Fa} {xa : List Ex} {sh : List Shp} {es : List Ent}
theorem fun_of (c : He.SaysD fa (es.map (·.d)) K) {en : Ent} (h : en ∈ es) : ∃ fd, FunD K en.d.name en.d.qual en.d.params en.d.body en.d.scope (en.d.dvs K) (en.d.kws K) (He.fAd K en.d.at_) fd := by
  obtain ⟨i, hi, e⟩ := List.getElem_of_mem (List.mem_map_of_mem (f := (·.d)) h)
  exact c.def_ i (d := en.d) (by rw [List.getElem?_eq_getElem hi, e])
theorem entOf_ok {k : Ky} {en : Ent} (e : entOf es k = some en) : en ∈ es ∧ en.d.at_ = k := by
  unfold entOf at e
  exact ⟨List.mem_of_find?_eq_some e, of_decide_eq_true (List.find?_some (p := fun en : Ent => decide (en.d.at_ = k)) e)⟩
/-- ALL DEFS keep what their bodies' readings ask, at every level -/
theorem callees (hin : K.In base) (hns : base.Ns mainGlobals mg) (c : He.SaysD fa (es.map (·.d)) K) (hxa : ∀ f ∈ xa, f.ok K = true) (hes : ∀ en ∈ es, EntOk fa xa sh en) (hsc : (es.all fun en => scB en.N en.ps en.d.scope) = true) (hsh : ∀ s ∈ sh, ShpOk es s) :
    ∀ (n : Nat) (s : Shp), s ∈ sh → CalleeP P w K mg base K (2 * n) s (lev K es n s.key) := by
  have hfa : ∀ f ∈ fa, f.ok K = true := fun f hf => by
    obtain ⟨i, hi, e⟩ := List.getElem_of_mem hf
    exact c.fact i (by rw [List.getElem?_eq_getElem hi, e])
  intro n
  induction n with
  | zero =>
    intro s hs
    obtain ⟨en, e, kb⟩ := hsh s hs
    obtain ⟨mem, ek⟩ := entOf_ok e
    obtain ⟨fd, F⟩ := fun_of c mem
    rw [ek] at F
    obtain ⟨g, kb⟩ := kb K fd F
    exact ⟨⟨fd, en.ps, g, ⟨fun _ _ _ _ z => z.elim, fun _ _ _ _ _ _ _ _ _ _ _ _ _ _ z => z.elim⟩, kb⟩, F.kp⟩
  | succ n ih =>
    intro s hs
    obtain ⟨en, e, kb⟩ := hsh s hs
    obtain ⟨mem, ek⟩ := entOf_ok e
    obtain ⟨fd, F⟩ := fun_of c mem
    rw [ek] at F
    obtain ⟨g, kb⟩ := kb K fd F
    have S := scB_ok (List.all_eq_true.mp hsc en mem)
    refine ⟨⟨fd, en.ps, g, fn_g (k := 2 * n + 1) F S (fun vs H Q E z => ?_) (fun cdv A outer st H vs Q E room gu z => ?_), kb⟩, F.kp⟩
    · unfold lev at z
      rw [e] at z
      exact z.1
    · unfold lev at z
      rw [e] at z
      refine ⟨_, hes en mem K (lev K es n) (fun cls dd _ H2 => E cls dd H2) _ ?_, z.2⟩
      exact {
        hK := rfl
        hN := rfl
        hsc := rfl
        nd := S.nd
        calm := fun _ => rfl
        cold := fun _ => room.hd
        gu := deeper_guards gu
        tk := takes_of rfl rfl rfl rfl
        po := passes_of rfl
        stk := fun _ => ⟨rfl, rfl, rfl⟩
        un := Nat.lt_of_le_of_lt (Nat.add_le_add_right (Nat.le_add_right _ _) _) room.un
        fns := fun _ => ⟨2 * n, room, fun s hs => ih s hs⟩
        fo := hfa
        gx := ⟨base, hin, hns⟩
        fn := fun _ _ => rfl
        xo := hxa
        pin := fun _ _ _ z => by cases z }
end
end Rw

namespace Rw
open PySem PySem.Spec PyProof.Rows L2
/-! ### the law's end -/
section
variable {P : Program} {w : World} {K : PySem.W.Frag} {mg mb : Str → Option Value} {fa a : Addr} {fd : FuncData} {x : Str} {sp : Sp} {s1 : Shared} {vs : List Value} {ns : List Int} {k : Nat}
abbrev EndsTrue (P : Program) (s1 : Shared) (fa a : Addr) : Prop :=
  codeAny (model P w) callerA (.call (.ref fa) ⟨[.ref a], []⟩) (fun r s' => r = .ok (.ret (.bool true)) ∧ OldK s1.heap s'.heap ∧ s'.os = s1.os ∧ AllBare s'.gens) s1
/-- from a heap in which the script alone may be told -/
theorem end_core (KX : K.In s1.heap) (hns : s1.heap.Ns mainGlobals mg) (hb : s1.heap.Ns builtinsNs mb) (hbb : ∀ y : Str, y ≠ "__name__" → mb y = bootBuiltins y) (hlim : s1.heap.NoLimit) (hg : s1.gens = #[])
    (ha : s1.heap.get? a = some { cls := .type "list", data := .seq vs.toArray }) (hr : Room k callerA)
    (F : ∀ bs : Heap, K.In bs → bs.Ns mainGlobals mg → FnG P w K mg bs k fa fd [x] sp) (hbind : ∀ (s : Shared) (u : Value), BindsTo s fd ⟨[u], []⟩ [(x, u)])
    {H : Hp} (hO : Only H) (hsp : sp [.ref a] H (fun v _ => v = .bl true) fun _ _ _ => False) (hok : HOk P w H s1.heap) (hA : ∀ b, H b ≠ none → b = a) (hK : H a ≠ none → K.lookup a = none) :
    EndsTrue (w := w) P s1 fa a := by
  have isA : ∀ {b : Addr} {u : HO}, H b = some u → b = a := fun {b u} q => hA b (by rw [q] <;> intro z <;> cases z)
  have at0 : ∀ {b : Addr} {o : Obj}, s1.heap.get? b = some o → H b = none → (hidT s1.heap H).get? b = some o := fun e n => hidT_get e n
  have dNo : ∀ {b : Addr} {o : Obj} {es : Array DictEntry} {ep : Nat}, s1.heap.get? b = some o → o.data = .dict es ep → H b = none := by
    intro b o es ep e d
    match q : H b with
    | none => rfl
    | some u =>
      obtain rfl := isA q
      rw [ha] at e
      obtain rfl := Option.some.inj e
      exact absurd (show Data.seq vs.toArray _ = Data.dict es ep from d) (fun z => by cases z)
  have nsAt : ∀ {b : Addr} {f : Str → Option Value}, s1.heap.Ns b f → (hidT s1.heap H).Ns b f := by
    rintro b f ⟨o, es, ep, e, d, r⟩
    exact ⟨o, es, ep, at0 e (dNo e d), d, r⟩
  have kAt : K.In (hidT s1.heap H) := by
    intro b o e
    refine at0 (KX b o e) ?_
    match q : H b with
    | none => rfl
    | some u =>
      obtain rfl := isA q
      have z := hK (by rw [q] <;> intro z <;> cases z)
      rw [z] at e
      cases e
  have hM : Mod K mg (hidT s1.heap H) := by
    obtain ⟨mc, l1, l2⟩ := hlim
    exact ⟨kAt, nsAt hns, ⟨mb, nsAt hb, hbb⟩, ⟨mc, nsAt l1, l2⟩⟩
  have e0 : Env0 P w K mg (hidT s1.heap H) callerA [] s1 H :=
    ⟨rfl, hM, fun b o e => of_hidT e, Nat.le_of_eq (hidT_size _ _), trivial, fun b hb => (List.not_mem_nil hb).elim, hok, .of_eq hg⟩
  have gu : callerA.guards = some [] := rfl
  have goes := (F _ kAt (nsAt hns)).run callerA [] s1 H ⟨[.ref a], []⟩ [.ref a] [.ref a] _ _ hr gu e0 (hbind s1 (.ref a)) (.cons rfl .nil) hsp
  refine codeAny_mono goes fun r s2 z => ?_
  match r, z with
  | .error e, z => 
    obtain ⟨_, _, _, _, _, _, _, _, _, _, _, _, _, _, _, _, z⟩ := z
  | .ok .next, z => exact False.elim z
  | .ok .brk, z => exact False.elim z
  | .ok .cont, z => exact False.elim z
  | .ok (.ret u), z =>
    obtain ⟨v, H2, os, bare, un, hok2, rv, ev⟩ := z
    have ev : v = .bl true := ev
    subst ev
    obtain rfl : u = Value.bool true := rv
    refine ⟨rfl, OldK.of_keep fun b o e => ?_, os, bare⟩
    match q : H b with
    | none => exact un.keep b o e q (fun z => (List.not_mem_nil z).elim) (by simp)
    | some u2 =>
      rcases hO b with z | ⟨ob, xs, z⟩
      · rw [q] at z
        cases z
      · have kept := un.frzs b ob _ z
        have o1 := (hok b _ z).1
        have o2 := (hok2 b _ kept).1
        rw [e] at o1
        obtain rfl := Option.some.inj o1
        exact o2
theorem end_call (KX : K.In s1.heap) (hns : s1.heap.Ns mainGlobals mg) (hb : s1.heap.Ns builtinsNs mb) (hbb : ∀ y : Str, y ≠ "__name__" → mb y = bootBuiltins y) (hlim : s1.heap.NoLimit) (hg : s1.gens = #[])
    (ha : s1.heap.get? a = some { cls := .type "list", data := .seq vs.toArray }) (hi : IntsAre vs ns) (hl : ns.length ≤ sizeLine) (hr : Room k callerA)
    (F : ∀ bs : Heap, K.In bs → bs.Ns mainGlobals mg → FnG P w K mg bs k fa fd [x] sp) (hbind : ∀ (s : Shared) (u : Value), BindsTo s fd ⟨[u], []⟩ [(x, u)])
    (hsp : ∀ H : Hp, Only H → SqL K H a (ns.map V.int) → sp [.ref a] H (fun v _ => v = .bl true) fun _ _ _ => False) : EndsTrue (w := w) P s1 fa a := by
  have rv := vals_ints hi
  have core := fun (H : Hp) (hO : Only H) (hS : SqL K H a (ns.map V.int)) => end_core (w := w) KX hns hb hbb hlim hg ha hr F hbind hO (hsp H hO hS)
  match hk : K.lookup a with
  | some o =>
    have e := KX a o hk
    rw [ha] at e
    obtain rfl := Option.some.inj e
    refine core (fun _ => none) (fun _ => .inl rfl) (.inr ⟨_, vs.toArray, _, hk, rfl, rfl, rfl, ?_, by simpa using rv⟩) (fun b u z => absurd (show (none : Option HO) = some u from z) (fun z => by cases z)) (fun b z => absurd rfl z) (fun z => absurd rfl z)
    rw [List.size_toArray, hi.length]
    exact hl
  | none =>
    let F1 : HO := .frz { cls := .type "list", data := .seq vs.toArray } (.lst (ns.map V.int))
    let H1 : Hp := fun b => if b = a then some F1 else none
    have hit : ∀ {b}, b = a → H1 b = some F1 := fun z => if_pos z
    have out : ∀ {b}, ¬ b = a → H1 b = none := fun z => if_neg z
    refine core H1 (fun b => ?_) (.inl (.inr ⟨_, hit rfl⟩)) (fun b u z => ?_) (fun b z => ?_) (fun _ => hk)
    · exact (Decidable.em (b = a)).elim (fun q => .inr ⟨_, _, hit q⟩) fun q => .inl (out q)
    · rcases Decidable.em (b = a) with q | q
      · obtain rfl := Option.some.inj ((hit q).symm.trans z)
        subst q
        exact ⟨ha, by rw [List.length_map] <;> exact hl, vs, _, rv, ha⟩
      · exact absurd ((out q).symm.trans z) (fun z => by cases z)
    · exact Decidable.byContradiction fun q => z (out q)
end
/-- THE END: what the head asks for, from the law's promise at a level -/
theorem walk_w {l : PySem.W.OpenLaw} {n k : Nat} {q : Program} {loose : List Str} {XP : (Str → Option Value) → Heap → Prop} {YP : World → Heap → Prop} {d : DefRec} {x : Str}
    (hn : l.most = some n) (hn2 : n ≤ sizeLine) (hdf : d.params.defaults = []) (hr : Room k callerA)
    (F : ∀ (w : World) (mg : Str → Option Value) (fa : Addr) (h : Heap), YP w h → h.Ns mainGlobals mg → mg d.name = some (.ref fa) →
      ∃ (K : PySem.W.Frag) (fd : FuncData) (sp : Sp), K.In h ∧ (∀ (s : Shared) (u : Value), BindsTo s fd ⟨[u], []⟩ [(x, u)]) ∧
        (∀ (H : Hp) (a : Addr) (ns : List Int), ns.length ≤ n → Only H → SqL K H a (ns.map V.int) → sp [.ref a] H (fun v _ => v = .bl true) fun _ _ _ => False) ∧
        ∀ bs : Heap, K.In bs → bs.Ns mainGlobals mg → FnG l.prog w K mg bs k fa fd [x] sp) :
    PySem.W.WalkO q loose XP YP l.row.toRowW d [] (fun f vs => PySem.call f vs) := by
  refine Att.attach_call hn hdf fun w s₀ s1 mg mb fa o pm cd doc a vs ns G Y ho hd hcd hmg hobj hints hlen hg => ?_
  obtain ⟨K, fd, sp, KX, hb, hsp, hF⟩ := F w mg fa _ Y G.T.g hmg
  exact end_call KX G.T.g G.T.b G.T.builtins G.T.nolimit hg hobj hints (Nat.le_trans hlen hn2) hr hF hb fun H hO hS => hsp H a ns hlen hO hS
theorem room_at {n : Nat} (h : n ≤ 110) : Room (2 * (n + 1)) callerA := by
  have h1 : callerA.depth ≤ 301 := by decide
  have h2 : 1000 ≤ recursionLimit := by decide
  have h3 : callerA.units ≤ 100 := by decide
  have h4 : 9900 ≤ cLine := by decide
  exact ⟨rfl, by omega, by omega⟩
/-! ### the head's hook, with tables -/
def obsX (fa : List He.Fa) (xa : List Ex) (fn : List He.DefD) (K : PySem.W.Frag) : He.AlD := ((xa.all fun f => f.ok K) && (He.obsD fa fn K).1, (He.obsD fa fn K).2)
def obsXG (n : Nat) (fa : List He.Fa) (xa : List Ex) (fn : List He.DefD) (g : Addr → Option Obj) : He.AlD := obsX fa xa fn (He.frG g (He.asD g n ++ [cStatics]))
def hookX (n : Nat) (fa : List He.Fa) (xa : List Ex) (fn : List He.DefD) : PySem.W.Hook where
  α := He.AlD
  obs := fun s => obsXG n fa xa fn s.heap.get?
  val := fun _ => He.valD fn
  says := fun _ h => ∃ K : PySem.W.Frag, K.In h ∧ He.SaysD fa fn K ∧ ∀ f ∈ xa, f.ok K = true
  of := fun _ _ e => by
    have e1 := congrArg (fun z : He.AlD => z.1) e
    have e2 := congrArg (fun z : He.AlD => z.2) e
    obtain ⟨h1, h2⟩ := He.ba e1
    exact ⟨_, He.frG_in, Prod.ext h2 e2, fun f hf => List.all_eq_true.mp h1 f hf⟩
  keeps := fun _ _ _ ⟨K, hK, c⟩ k => ⟨K, PySem.W.Frag.In.keeps hK k, c⟩
theorem obsXG_eq {n : Nat} {fa : List He.Fa} {xa : List Ex} {fn : List He.DefD} {g : Addr → Option Obj} {s : Shared} (h : ∀ a, g a = s.heap.get? a) : obsXG n fa xa fn g = (hookX n fa xa fn).obs s := by
  obtain rfl : g = s.heap.get? := funext h
  rfl
/-- the same from the tables: the law stands at key ("law", none), its only parameter is "script" -/
theorem walk_es {l : PySem.W.OpenLaw} {m n : Nat} {q : Program} {loose : List Str} {XP : (Str → Option Value) → Heap → Prop} {d : DefRec} {fa : List He.Fa} {sh : List Shp} {es : List Ent} {xa : List Ex} {fn : List He.DefD} {enL : Ent}
    (hm : l.most = some m) (hm2 : m ≤ sizeLine) (hdf : d.params.defaults = []) (hdn : d.name = ("law" : Str)) (hn : n ≤ 110) (hfn : fn = es.map (·.d))
    (hes : ∀ en ∈ es, EntOk fa xa sh en) (hsc : (es.all fun en => scB en.N en.ps en.d.scope) = true) (hsh : ∀ s ∈ sh, ShpOk es s) (hL : entOf es ("law", none) = some enL) (hps : enL.ps = [("script" : Str)]) (hdd : enL.d.dfl = [])
    (hb : ∀ (kV doc pm : Value) (an : Option Addr) (cdv ct : Value) (u : Value), bindArgs (PySem.W.fnOf enL.d.name enL.d.qual enL.d.params enL.d.body enL.d.scope .none kV doc pm an cdv ct) ⟨[u], []⟩ = pure [(("script" : Str), u)])
    (hglo : hasF (isGlo "law") fa = true)
    (pure_ : ∀ (K : PySem.W.Frag) (H : Hp) (a : Addr) (ns : List Int), (∀ f ∈ fa, f.ok K = true) → (∀ f ∈ xa, f.ok K = true) → ns.length ≤ m → Only H → SqL K H a (ns.map V.int) → lev K es (n + 1) ("law", none) [.ref a] H (fun v _ => v = .bl true) fun _ _ _ => False) :
    PySem.W.WalkO q loose XP (hookX 4 fa xa fn).says l.row.toRowW d [] (fun f vs => PySem.call f vs) := by
  refine walk_w (k := 2 * (n + 1)) (x := "script") hm hm2 hdf (room_at hn) ?_
  rintro w mg f h ⟨K, KX, c, cx⟩ G hmg
  rw [hdn] at hmg
  rw [hfn] at c
  have hfa : ∀ z ∈ fa, z.ok K = true := fun z hz => by
    obtain ⟨i, hi, e⟩ := List.getElem_of_mem hz
    exact c.fact i (by rw [List.getElem?_eq_getElem hi, e])
  have ef : f = He.fAd K (("law" : Str), (none : Option Str)) := by
    obtain ⟨z, hz, ez⟩ := hasF_of hglo
    have q := hfa z hz
    cases z with
    | glo y =>
      have e : ("law" : Str) = y := of_decide_eq_true ez
      subst e
      have g := He.glo_ok KX G q
      rw [hmg] at g
      exact (Value.ref.inj (Option.some.inj g))
    | _ => cases ez
  obtain ⟨mem, ek⟩ := entOf_ok hL
  obtain ⟨fd, F⟩ := fun_of c mem
  refine ⟨K, fd, lev K es (n + 1) ("law", none), KX, fun s u => ?_, fun H a ns h1 h2 h3 => pure_ K H a ns hfa cx h1 h2 h3, fun bs hin hns => ?_⟩
  · obtain ⟨oc, od, dV, kV, doc, pm, an, cdv, ct, osl, efd, look, code, hD, _⟩ := F.ex
    have edv : enL.d.dvs K = [] := by
      unfold He.DefD.dvs
      rw [hdd]
      rfl
    rcases hD with ⟨_, ed⟩ | ⟨ne, _⟩
    · subst efd ed
      exact .of_eq (hb kV doc pm an cdv ct u)
    · exact absurd edv ne
  · have S := scB_ok (List.all_eq_true.mp hsc enL mem)
    have cal := fun (i : Nat) (s : Shp) (hs : s ∈ sh) => callees (P := l.prog) (w := w) hin hns c cx hes hsc hsh i s hs
    rw [ek] at F
    rw [ef]
    have R := fn_g (P := l.prog) (w := w) (mg := mg) (base := bs) (k := 2 * n + 1) (sp := lev K es (n + 1) ("law", none)) F S (fun vs H Q E z => ?_) (fun cdv A outer st H vs Q E room gu z => ?_)
    · rw [hps] at R
      exact R
    · unfold lev at z
      rw [hL] at z
      exact z.1
    · unfold lev at z
      rw [hL] at z
      refine ⟨_, hes enL mem K (lev K es n) (fun cls dd _ H2 => E cls dd H2) _ ?_, z.2⟩
      exact {
        hK := rfl
        hN := rfl
        hsc := rfl
        nd := S.nd
        calm := fun _ => rfl
        cold := fun _ => room.hd
        gu := deeper_guards gu
        tk := takes_of rfl rfl rfl rfl
        po := passes_of rfl
        stk := fun _ => ⟨rfl, rfl, rfl⟩
        un := Nat.lt_of_le_of_lt (Nat.add_le_add_right (Nat.le_add_right _ _) _) room.un
        fns := fun _ => ⟨2 * n, room, fun s hs => cal n s hs⟩
        fo := hfa
        gx := ⟨bs, hin, hns⟩
        fn := fun _ _ => rfl
        xo := cx
        pin := fun _ _ _ z => by cases z }
end Rw

namespace Rw
open PySem PySem.Spec PyProof.Rows L2
section
variable {c : Cn} {a b d e o tg : Expr} {es : List Expr} {ta tb tc te to : TE} {t u : TT} {tA tK : TA} {wi wj : TI} {pos apos p p2 : Pos} {x y m : Str}
/-! ### one of two readings -/
def tEor (t1 t2 : TE) : TE := fun σ H Q => t1 σ H Q ∨ t2 σ H Q
theorem g_alt (h1 : GE c e ta) (h2 : GE c e tb) : GE c e (tEor ta tb) := fun X h => ⟨fun pins s σ H Q I q => q.elim ((h1 X h).run pins s σ H Q I) ((h2 X h).run pins s σ H Q I)⟩
/-- a list, a tuple, a text, a dict's keys -/
def iAny (K : PySem.W.Frag) (te : TE) : TI := fun σ H R => iSeq K te σ H R ∨ iStr te σ H R ∨ iKeys te σ H R
theorem gi_any (h : GE c e te) : GI c tg e (iAny c.K te) := fun X b => PI.or (gi_seq h X b) (PI.or (gi_str h X b) (gi_keys h X b))
/-! ### dict displays -/
theorem g_dict0 : GE c (.Dict [] [] pos) tDNewK := fun _ _ => pe_dnewK
theorem g_dict {ks : List (Option Expr)} {vs : List Expr} {trs : List (TE × TE)} (h : GP c pos ks vs trs) (hall : ks.all (·.isSome) = true := by rfl) (hl : ks.length = vs.length := by rfl) (h0 : ks ≠ [] := by exact List.cons_ne_nil _ _) (h15 : ks.length ≤ 15 := by exact Nat.le_of_ble_eq_true rfl) :
    GE c (.Dict ks vs pos) (tDisp trs) := fun X b => pe_disp (h X b) hall hl h0 h15
end
/-! ### shapes of defs with defaults -/
inductive Sr2 where
  | pos (i : Nat) | kw (j : Nat) | dfl (j : Nat)
def Sr2.src (ds : List He.Dv) : Sr2 → Src
  | .pos i => .pos i
  | .kw j => .kw j
  | .dfl j => .dfl (ds.getD j .non)
def plugW (pl : List Sr2) (us its ws : List Value) : List Value := pl.map fun s => match s with
  | .pos i => us.getD i .none
  | .kw j => ws.getD j .none
  | .dfl j => its.getD j .none
theorem plugW_rel {K : PySem.W.Frag} {ds : List He.Dv} {its : List Value} (rd : Vals (ds.map (He.Dv.v K)) its) {vs zs : List V} {us ws : List Value} (r : Vals vs us) (rz : Vals zs ws) : ∀ pl : List Sr2, (∀ j, Sr2.dfl j ∈ pl → j < ds.length) → Vals (plug K (pl.map (Sr2.src ds)) vs zs) (plugW pl us its ws)
  | [], _ => .nil
  | .pos i :: l, h => .cons (by show L2.RelV (nth vs i) _; rw [nth_at]; exact vals_getD r i) (plugW_rel rd r rz l fun j hj => h j (List.mem_cons_of_mem _ hj))
  | .kw i :: l, h => .cons (by show L2.RelV (nth zs i) _; rw [nth_at]; exact vals_getD rz i) (plugW_rel rd r rz l fun j hj => h j (List.mem_cons_of_mem _ hj))
  | .dfl i :: l, h => .cons (by
      have hi := h i List.mem_cons_self
      have q := vals_getD rd i
      rw [List.getD_eq_getElem?_getD, List.getElem?_map, List.getElem?_eq_getElem hi] at q
      show L2.RelV (He.Dv.v K (ds.getD i .non)) (its.getD i .none)
      rw [List.getD_eq_getElem?_getD, List.getElem?_eq_getElem hi]
      exact q) (plugW_rel rd r rz l fun j hj => h j (List.mem_cons_of_mem _ hj))
theorem shp_dfl {es : List Ent} {s : Shp} {en : Ent} (pl : List Sr2) (e : entOf es s.key = some en) (hd : en.d.dfl ≠ []) (hp : s.plan = pl.map (Sr2.src en.d.dfl)) (hj : (pl.all fun z => match z with | .dfl j => decide (j < en.d.dfl.length) | _ => true) = true)
    (h : ∀ (T : Addr) (kV doc pm : Value) (an : Option Addr) (cdv ct : Value) (us its ws : List Value), us.length = s.n → its.length = en.d.dfl.length → ws.length = s.ks.length →
      ∃ k, bindArgs (PySem.W.fnOf en.d.name en.d.qual en.d.params en.d.body en.d.scope (.ref T) kV doc pm an cdv ct) ⟨us, s.ks.zip ws⟩ = seqItems? (.ref T) >>= k ∧ k (some its.toArray) = pure (en.ps.zip (plugW pl us its ws))) : ShpOk es s := by
  refine ⟨en, e, fun K fd F => ?_⟩
  obtain ⟨oc, od, dV, kV, doc, pm, an, cdv, ct, osl, efd, look, code, hD, _⟩ := F.ex
  rcases hD with ⟨ed, _⟩ | ⟨_, T, o, its, m, eT, lT, oT, rT⟩
  · exact absurd (List.map_eq_nil_iff.mp ed) hd
  · subst efd eT
    have li : its.length = en.d.dfl.length := by
      rw [← rT.length]
      exact List.length_map ..
    refine ⟨fun us ws => plugW pl us its ws, ⟨fun st us ws kin l1 l2 => ?_, fun r rz => ?_⟩⟩
    · obtain ⟨k, e1, e2⟩ := h T kV doc pm an cdv ct us its ws l1 li l2
      refine BindsTo.of_looks fun M => ?_
      rw [e1]
      exact looks_items kin lT oT (.of_pure e2)
    · rw [hp]
      exact plugW_rel rT r rz pl fun j m => of_decide_eq_true (List.all_eq_true.mp hj _ m)
theorem all_nil {α : Type} {p : α → Prop} : ∀ x ∈ ([] : List α), p x := fun _ h => (List.not_mem_nil h).elim
theorem all_cons {α : Type} {p : α → Prop} {a : α} {l : List α} (h : p a) (hs : ∀ x ∈ l, p x) : ∀ x ∈ a :: l, p x := fun x hx => by
  rcases List.mem_cons.mp hx with e | e
  · rw [e]
    exact h
  · exact hs x e
end Rw

namespace Rw
open PySem PySem.Spec PyProof.Rows L2
/-! ### the pure part: steps -/
/-- all but what M names stays -/
def Ext (M : Addr → Prop) (H H' : Hp) : Prop := ∀ q o, ¬ M q → H q = some o → H' q = some o
def noM : Addr → Prop := fun _ => False
theorem noM_not {q : Addr} : ¬ noM q := fun h => h
theorem Ext.rfl {M : Addr → Prop} {H : Hp} : Ext M H H := fun _ _ _ h => h
theorem Ext.trans {M : Addr → Prop} {H H1 H2 : Hp} (h : Ext M H H1) (h2 : Ext M H1 H2) : Ext M H H2 := fun q o m e => h2 q o m (h q o m e)
theorem Ext.up {M : Addr → Prop} {H H1 : Hp} (h : Ext noM H H1) : Ext M H H1 := fun q o _ e => h q o noM_not e
theorem Ext.sub {M N : Addr → Prop} {H H1 : Hp} (h : Ext M H H1) (s : ∀ q, M q → N q) : Ext N H H1 := fun q o m e => h q o (fun z => m (s q z)) e
theorem Ext.new {M : Addr → Prop} {H : Hp} {p : Addr} {o : HO} (h : H p = none) : Ext M H (upd H p o) := fun q o' _ e => by
  rw [upd_ne (fun z => by rw [z, h] at e; cases e)]
  exact e
theorem Ext.set {M : Addr → Prop} {H : Hp} {p : Addr} {o : HO} (h : M p) : Ext M H (upd H p o) := fun q o' m e => by
  rw [upd_ne (fun z => m (by rw [z]; exact h))]
  exact e
theorem ne_new {H : Hp} {p q : Addr} {o : HO} (h : H p = some o) (h' : H q = none) : q ≠ p := fun e => by rw [e, h] at h'; cases h'
theorem get_new {H : Hp} {p q : Addr} {o o' : HO} (h : H p = none) (e : H q = some o) : upd H p o' q = some o := Ext.new (M := noM) h q o noM_not e
section
variable {K : PySem.W.Frag} {t u : TS} {D : Ends} {σ : L2.St} {H : Hp} {Q : VK} {te ta tb tc to : TE} {tA tK : TA} {c d : TT} {g : TG} {R : Bool → Hp → Prop} {QA : List V → Hp → Prop} {Qs : L2.St → Hp → Prop}
theorem s_seq (h : t { D with nx := u D } σ H) : tSeq t u D σ H := h
theorem s_next (h : D.nx σ H) : tNext D σ H := h
theorem s_ret (h : te σ H D.rt) : tRet te D σ H := h
theorem s_retN (h : D.rt .non H) : tRetN D σ H := h
theorem s_if (h : c σ H fun b H1 => if b = true then t D σ H1 else u D σ H1) : tIfS c t u D σ H := h
theorem s_drop (h : te σ H fun _ H1 => D.nx σ H1) : tDrop te D σ H := h
theorem s_asg (h : te σ H fun x H1 => g x σ H1 D.nx) : tAsg te g D σ H := h
theorem s_par {i j : Nat} (h : tA σ H fun vs H1 => ∃ v w, vs = [v, w] ∧ D.nx ((σ.set i (some v)).set j (some w)) H1) : tPar i j tA D σ H := h
theorem x_name {i : Nat} {v : V} (h : Qs (σ.set i (some v)) H) : gName i v σ H Qs := h
theorem x_sub {ti : TE} {ts : TSet} {v : V} (h : to σ H fun o H1 => ti σ H1 fun i H2 => ts o i v H2 fun H3 => Qs σ H3) : gSub to ti ts v σ H Qs := h
theorem x_nil  (h : Qs σ H) : gNil [] σ H Qs := ⟨rfl, h⟩
theorem x_cons {gg : TGs} {v : V} {r : List V} (h : g v σ H fun σ' H' => gg r σ' H' Qs) : gCons g gg (v :: r) σ H Qs := ⟨v, r, rfl, h⟩
theorem x_tup {gg : TGs} {n : Nat} {a : Addr} {xs : List V} (e : H a = some (.tup xs)) (l : xs.length = n) (h : gg xs σ H Qs) : gUnp K n gg (.ref a) σ H Qs := .inl ⟨a, xs, rfl, .inl (.inl e), l, h⟩
theorem x_lst {gg : TGs} {n : Nat} {a : Addr} {xs : List V} (e : H a = some (.lst xs)) (l : xs.length = n) (h : gg xs σ H Qs) : gUnp K n gg (.ref a) σ H Qs := .inr ⟨a, xs, rfl, .inl (.inl e), l, h⟩
theorem e_var {i : Nat} {v : V} (e : σ[i]? = some (some v)) (h : Q v H) : tVar i σ H Q := ⟨v, e, h⟩
theorem e_c {v : V} (h : Q v H) : tC v σ H Q := h
theorem e_op {r : R2} (h : ta σ H fun x H1 => tb σ H1 fun y H2 => r x y H2 Q) : tOp r ta tb σ H Q := h
theorem e_un {r : V → Hp → VK → Prop} (h : ta σ H fun x H1 => r x H1 Q) : tUn r ta σ H Q := h
theorem c_test (h : te σ H fun x H1 => ∃ k, x = .bl k ∧ R k H1) : tTest te σ H R := h
theorem c_tru (h : te σ H fun x H1 => ∃ k, TruV K x H1 k ∧ R k H1) : tTru K te σ H R := h
theorem c_and (h : c σ H fun b H1 => if b = true then d σ H1 R else R false H1) : tAnd c d σ H R := h
theorem c_or (h : c σ H fun b H1 => if b = true then R true H1 else d σ H1 R) : tOr c d σ H R := h
theorem c_not (h : c σ H fun b H1 => R (!b) H1) : tNot c σ H R := h
theorem e_ite (h : c σ H fun b H1 => if b = true then ta σ H1 Q else tb σ H1 Q) : tIf c ta tb σ H Q := h
theorem e_and (h : ta σ H fun x H1 => ∃ k, TruV K x H1 k ∧ if k = true then tb σ H1 Q else Q x H1) : tAndT K ta tb σ H Q := h
theorem e_or (h : ta σ H fun x H1 => ∃ k, TruV K x H1 k ∧ if k = true then Q x H1 else tb σ H1 Q) : tOrT K ta tb σ H Q := h
theorem e_not (h : ta σ H fun x H1 => ∃ k, TruV K x H1 k ∧ Q (.bl (!k)) H1) : tNotT K ta σ H Q := h
theorem e_chain {r r' : R2} (h : ta σ H fun x H1 => tb σ H1 fun y H2 => r x y H2 fun z H3 => ∃ k, z = .bl k ∧ (if k = true then tc σ H3 fun w' H4 => r' y w' H4 Q else Q (.bl false) H3)) : tChain r r' ta tb tc σ H Q := h
theorem a_nil (h : QA [] H) : tNil σ H QA := h
theorem a_cons (h : te σ H fun x H1 => tA σ H1 fun xs H2 => QA (x :: xs) H2) : tCons te tA σ H QA := h
theorem e_cb {r : List V → Hp → VK → Prop} (h : tA σ H fun vs H1 => r vs H1 Q) : tCB r tA σ H Q := h
theorem e_bm {T : String} {r : V → List V → Hp → VK → Prop} (h : to σ H fun x H1 => tyV K T x H1 ∧ tA σ H1 fun xs H2 => r x xs H2 Q) : tBM K T r to tA σ H Q := h
theorem e_bm0 {T : String} {r : V → List V → Hp → VK → Prop} (h : to σ H fun x H1 => tyV K T x H1 ∧ r x [] H1 Q) : tBM0 K T r to σ H Q := h
theorem e_sl {r : V → Option Int → Option Int → Hp → VK → Prop} {tl th : TO} (h : te σ H fun x H1 => tl σ H1 fun l H2 => th σ H2 fun u H3 => r x l u H3 Q) : tSl r te tl th σ H Q := h
theorem p_none {QO : Option Int → Hp → Prop} (h : QO none H) : tNoPart σ H QO := h
theorem p_some {QO : Option Int → Hp → Prop} (h : te σ H fun x H1 => ∃ i, x = .int i ∧ QO (some i) H1) : tPart te σ H QO := h
theorem p_int {i : Int} {q : Int → Prop} (h : q i) : ∃ j, V.int i = .int j ∧ q j := ⟨i, rfl, h⟩
def New (n : Nat) (H : Hp) (o : HO) (Q : VK) : Prop := n ≤ sizeLine ∧ ∀ p, H p = none → Q (.ref p) (upd H p o)
theorem e_tup (h : tA σ H fun xs H1 => New xs.length H1 (.tup xs) Q) : tTup tA σ H Q := h
theorem e_lst (h : tA σ H fun xs H1 => New xs.length H1 (.lst xs) Q) : tLst tA σ H Q := h
/-- a new object: what is known of the heap behind -/
theorem n_obj {o : HO} {n : Nat} (l : n ≤ sizeLine) (h : ∀ p H2, H p = none → Ext noM H H2 → H2 p = some o → Q (.ref p) H2) : New n H o Q := ⟨l, fun p e => h p _ e (Ext.new e) upd_same⟩
theorem n_obj' {o : HO} {QR : V → Hp → Prop} (h : ∀ p H2, H p = none → Ext noM H H2 → H2 p = some o → QR (.ref p) H2) : ∀ p, H p = none → QR (.ref p) (upd H p o) := fun p e => h p _ e (Ext.new e) upd_same
/-! values -/
theorem v_addI {i j : Int} (h : Q (.int (i + j)) H) : rAddU (.int i) (.int j) H Q := h
theorem v_addS {i j : Str} (l : i.length + j.length ≤ sizeLine) (h : Q (.str (i ++ j)) H) : rAddU (.str i) (.str j) H Q := ⟨l, h⟩
theorem v_addL {a b : Addr} {xs ys : List V} (e : H a = some (.lst xs)) (e2 : H b = some (.lst ys)) (l : xs.length + ys.length ≤ sizeLine) (h : ∀ p H2, H p = none → Ext noM H H2 → H2 p = some (.lst (xs ++ ys)) → Q (.ref p) H2) : rAddU (.ref a) (.ref b) H Q := ⟨xs, ys, e, e2, l, n_obj' h⟩
theorem v_sub {i j : Int} (h : Q (.int (i - j)) H) : rSubU (.int i) (.int j) H Q := ⟨i, j, rfl, rfl, h⟩
theorem v_mul {i j : Int} (l : CMul i j) (h : Q (.int (i * j)) H) : rMulU (.int i) (.int j) H Q := ⟨l, h⟩
theorem v_div {i j : Int} (l : CDiv i j) (h : Q (.int (i / j)) H) : rDivU (.int i) (.int j) H Q := ⟨i, j, rfl, rfl, l, h⟩
theorem v_mod {i j : Int} (l : 0 < j) (h : Q (.int (i % j)) H) : rModU (.int i) (.int j) H Q := ⟨i, j, rfl, rfl, l, h⟩
theorem v_pow {i j : Int} (l : CPow i j) (h : Q (.int (i ^ j.toNat)) H) : rPowU (.int i) (.int j) H Q := ⟨i, j, rfl, rfl, l, h⟩
theorem v_neg {i : Int} (h : Q (.int (-i)) H) : rNegU (.int i) H Q := ⟨i, rfl, h⟩
theorem v_lt {i j : Int} (h : Q (.bl (decide (i < j))) H) : rLtU (.int i) (.int j) H Q := ⟨i, j, rfl, rfl, h⟩
theorem v_le {i j : Int} (h : Q (.bl (decide (i ≤ j))) H) : rLeU (.int i) (.int j) H Q := ⟨i, j, rfl, rfl, h⟩
theorem v_gt {i j : Int} (h : Q (.bl (decide (j < i))) H) : rGtU (.int i) (.int j) H Q := ⟨i, j, rfl, rfl, h⟩
theorem v_ge {i j : Int} (h : Q (.bl (decide (j ≤ i))) H) : rGeU (.int i) (.int j) H Q := ⟨i, j, rfl, rfl, h⟩
theorem v_is {x : V} (h : Q (.bl (decide (x = .non))) H) : rIsU x .non H Q := ⟨rfl, h⟩
theorem v_isnt {x : V} (h : Q (.bl (!decide (x = .non))) H) : rIsntU x .non H Q := ⟨rfl, h⟩
theorem v_eqI {i j : Int} (h : Q (.bl (decide (i = j))) H) : rEqU K (.int i) (.int j) H Q := .inl ⟨rfl, by
  have e : decide (V.int i = V.int j) = decide (i = j) := decide_eq_decide.mpr ⟨V.int.inj, fun z => congrArg _ z⟩
  rw [e]
  exact h⟩
theorem v_eqS {i j : Str} (h : Q (.bl (decide (i = j))) H) : rEqU K (.str i) (.str j) H Q := .inl ⟨rfl, by
  have e : decide (V.str i = V.str j) = decide (i = j) := decide_eq_decide.mpr ⟨V.str.inj, fun z => congrArg _ z⟩
  rw [e]
  exact h⟩
theorem v_neI {i j : Int} (h : Q (.bl (!decide (i = j))) H) : rNeU K (.int i) (.int j) H Q := .inl ⟨rfl, by
  have e : decide (V.int i = V.int j) = decide (i = j) := decide_eq_decide.mpr ⟨V.int.inj, fun z => congrArg _ z⟩
  rw [e]
  exact h⟩
theorem v_neS {i j : Str} (h : Q (.bl (!decide (i = j))) H) : rNeU K (.str i) (.str j) H Q := .inl ⟨rfl, by
  have e : decide (V.str i = V.str j) = decide (i = j) := decide_eq_decide.mpr ⟨V.str.inj, fun z => congrArg _ z⟩
  rw [e]
  exact h⟩
theorem v_ixL {a : Addr} {xs : List V} {i : Int} {v : V} (e : H a = some (.lst xs)) (l : atI xs i = some v) (h : Q v H) : rSubU' K (.ref a) (.int i) H Q := .inl (.inl ⟨a, xs, i, v, rfl, rfl, .inl (.inl e), l, h⟩)
theorem v_ixT {a : Addr} {xs : List V} {i : Int} {v : V} (e : H a = some (.tup xs)) (l : atI xs i = some v) (h : Q v H) : rSubU' K (.ref a) (.int i) H Q := .inl (.inr (.inl ⟨a, xs, i, v, rfl, rfl, .inl (.inl e), l, h⟩))
theorem v_ixS {z : Str} {i : Int} {n : Nat} (s : z.length ≤ sizeLine) (l : atI z.cps.toList i = some n) (h : Q (.str ⟨#[n]⟩) H) : rSubU' K (.str z) (.int i) H Q := .inl (.inr (.inr ⟨z, i, n, rfl, rfl, s, l, h⟩))
theorem v_lenL {a : Addr} {xs : List V} (e : H a = some (.lst xs)) (h : Q (.int xs.length) H) : rLenU K [.ref a] H Q := ⟨_, _, rfl, .inl (.inl ⟨xs, .inl (.inl e), rfl⟩), h⟩
theorem v_lenT {a : Addr} {xs : List V} (e : H a = some (.tup xs)) (h : Q (.int xs.length) H) : rLenU K [.ref a] H Q := ⟨_, _, rfl, .inl (.inr ⟨xs, .inl (.inl e), rfl⟩), h⟩
theorem v_lenS {z : Str} (s : z.length ≤ sizeLine) (h : Q (.int z.length) H) : rLenU K [.str z] H Q := ⟨_, _, rfl, .inl ⟨s, rfl⟩, h⟩
theorem v_abs {i : Int} (h : Q (.int (if i < 0 then -i else i)) H) : rAbsU [.int i] H Q := ⟨i, rfl, h⟩
theorem v_max {i j : Int} (h : Q (.int (if j > i then j else i)) H) : rMax2U [.int i, .int j] H Q := ⟨i, j, rfl, h⟩
theorem v_min {i j : Int} (h : Q (.int (if j < i then j else i)) H) : rMin2U [.int i, .int j] H Q := ⟨i, j, rfl, h⟩
theorem v_divmod {i j : Int} (l : 0 < j ∧ j.natAbs.log2 < 9000) (h : ∀ p H2, H p = none → Ext noM H H2 → H2 p = some (.tup [.int (i / j), .int (i % j)]) → Q (.ref p) H2) : rDmU [.int i, .int j] H Q := ⟨i, j, rfl, l, n_obj' h⟩
theorem v_append {l : Addr} {xs : List V} {y : V} (e : H l = some (.lst xs)) (z : xs.length < sizeLine) (h : Q .non (upd H l (.lst (xs ++ [y])))) : rAppend (.ref l) [y] H Q := ⟨l, xs, y, rfl, rfl, e, z, h⟩
theorem v_inst {x : V} {n T : String} {b : Bool} (ty : TyX K H x (.type n)) (hk : PySem.W.kitOne K (.type n) (.type T) = some b) (h : Q (.bl b) H) : rInst K [x, .ty T] H Q := .inl ⟨x, .ty T, .type n, .type T, b, rfl, .ty T, ty, hk, h⟩
theorem b_bl {b : Bool} {q : Bool → Prop} (h : q b) : ∃ k, V.bl b = .bl k ∧ q k := ⟨b, rfl, h⟩
theorem b_tru {b : Bool} {q : Bool → Prop} (h : q b) : ∃ k, TruV K (.bl b) H k ∧ q k := ⟨b, rfl, h⟩
theorem b_truI {i : Int} {q : Bool → Prop} (h : q (i != 0)) : ∃ k, TruV K (.int i) H k ∧ q k := ⟨_, rfl, h⟩
theorem i_dec {p : Prop} [Decidable p] {a b : Prop} (h1 : p → a) (h2 : ¬ p → b) : if decide p = true then a else b := by
  by_cases h : p
  · rw [if_pos (decide_eq_true h)]
    exact h1 h
  · rw [if_neg (by rw [decide_eq_false h]; exact Bool.false_ne_true)]
    exact h2 h
theorem i_ndec {p : Prop} [Decidable p] {a b : Prop} (h1 : ¬ p → a) (h2 : p → b) : if (!decide p) = true then a else b := by
  by_cases h : p
  · rw [if_neg (by rw [decide_eq_true h]; exact Bool.false_ne_true)]
    exact h2 h
  · rw [if_pos (by rw [decide_eq_false h]; rfl)]
    exact h1 h
theorem i_both {k l : Bool} {q : Bool → Prop} (h : q (k && l)) : if k = true then q l else q false := by
  cases k
  · exact h
  · exact h
theorem i_either {k l : Bool} {q : Bool → Prop} (h : q (k || l)) : if k = true then q true else q l := by
  cases k
  · exact h
  · exact h
theorem i_t {a b : Prop} (h : a) : if true = true then a else b := by rw [if_pos rfl]; exact h
theorem i_f {a b : Prop} (h : b) : if false = true then a else b := by rw [if_neg Bool.false_ne_true]; exact h
theorem i_nf {a b : Prop} (h : a) : if (!false) = true then a else b := by rw [if_pos (show (!false) = true from rfl)]; exact h
theorem i_nt {a b : Prop} (h : b) : if (!true) = true then a else b := by rw [if_neg (show ¬ (!true) = true from Bool.false_ne_true)]; exact h
theorem i_b {k : Bool} {a b : Prop} (h1 : k = true → a) (h2 : k = false → b) : if k = true then a else b := by
  cases k
  · exact i_f (h2 rfl)
  · exact i_t (h1 rfl)
end
section
variable {c : Cn} {x : Str} {na : Nat} {ks : List Str} {tA tK : TA} {σ : L2.St} {H : Hp} {Q : VK}
theorem e_fn {hot top : Bool} {K : PySem.W.Frag} {fa : List He.Fa} {sh : List Shp} {Ph : Ky → Sp} {N : List Str} {sc : Scope} {fnn : Str → Bool} {W : WX} {xa : List Ex} {cx : Option (Addr × Value × Option Addr)} {k : Ky} {nn : Nat} {kk : List Str} {pl : List Src} (hs : shpOf sh (x, none) (([] : List V).length + na) ks = some ⟨k, nn, kk, pl⟩)
    (h : tA σ H fun vs H1 => tK σ H1 fun zs H2 => vs.length = na ∧ zs.length = ks.length ∧ Ph k (plug K pl ([] ++ vs) zs) H2 Q (WE W σ)) : tFn ⟨hot, top, K, fa, sh, Ph, N, sc, fnn, W, xa, cx⟩ x na ks tA tK σ H Q := ⟨_, hs, h⟩
theorem f_go {vs zs : List V} {Ph : Ky → Sp} {k : Ky} {K : PySem.W.Frag} {pl : List Src} {first : List V} {E : XK} (h1 : vs.length = na) (h2 : zs.length = ks.length) {ws : List V} (e : plug K pl (first ++ vs) zs = ws) (h : Ph k ws H Q E) : vs.length = na ∧ zs.length = ks.length ∧ Ph k (plug K pl (first ++ vs) zs) H Q E := ⟨h1, h2, by rw [e]; exact h⟩
end
theorem ty_non {K : PySem.W.Frag} {H : Hp} : TyX K H .non (.type "NoneType") := .base .non
theorem ty_bl {K : PySem.W.Frag} {H : Hp} {b : Bool} : TyX K H (.bl b) (.type "bool") := .base (.bl b)
theorem ty_int {K : PySem.W.Frag} {H : Hp} {i : Int} : TyX K H (.int i) (.type "int") := .base (.int i)
theorem ty_str {K : PySem.W.Frag} {H : Hp} {z : Str} : TyX K H (.str z) (.type "str") := .base (.str z)
theorem ty_lst {K : PySem.W.Frag} {H : Hp} {a : Addr} {xs : List V} (e : H a = some (.lst xs)) : TyX K H (.ref a) (.type "list") := .base (.lst e)
theorem ty_tup {K : PySem.W.Frag} {H : Hp} {a : Addr} {xs : List V} (e : H a = some (.tup xs)) : TyX K H (.ref a) (.type "tuple") := .base (.tup e)
theorem ty_dK {K : PySem.W.Frag} {H : Hp} {a : Addr} {xs : List (Key × V)} (e : H a = some (.dK xs)) : TyX K H (.ref a) (.type "dict") := .base (.dK e)
end Rw

namespace Rw
open PySem PySem.Spec PyProof.Rows L2
/-! loops -/
/-- the walk J tells xs, where P holds -/
def Tells (J : It) (xs : List V) (P : Nat → Hp → Prop) : Prop := ∀ k H, P k H → (∀ x, xs[k]? = some x → J.go k H ∧ ∀ x' H', J.yld k H x' H' → H' = H ∧ x' = x) ∧ (xs.length ≤ k → J.stop k H)
def rngL (lo : Int) (n : Nat) : List V := (List.range n).map fun k => .int (lo + (k : Nat))
theorem rngL_len {lo : Int} {n : Nat} : (rngL lo n).length = n := by simp [rngL]
theorem rngL_at {lo : Int} {n k : Nat} {x : V} (h : (rngL lo n)[k]? = some x) : k < n ∧ x = .int (lo + k) := by
  unfold rngL at h
  rw [List.getElem?_map] at h
  by_cases hk : k < n
  · rw [List.getElem?_range hk] at h
    exact ⟨hk, (Option.some.inj h).symm⟩
  · rw [List.getElem?_eq_none (by simpa using hk)] at h
    cases h
theorem tells_rng {lo : Int} {n : Nat} {P : Nat → Hp → Prop} : Tells (Itr lo n) (rngL lo n) P := fun k H _ => by
  refine ⟨fun x hx => ?_, fun h => ?_⟩
  · obtain ⟨h1, h2⟩ := rngL_at hx
    exact ⟨h1, fun x' H' y => ⟨y.1, y.2.trans h2.symm⟩⟩
  · rw [rngL_len] at h
    exact h
def strL (z : Str) : List V := z.cps.toList.map fun c => .str ⟨#[c]⟩
theorem strL_len {z : Str} : (strL z).length = z.length := by simp [strL, Str.length]
theorem tells_str {z : Str} {P : Nat → Hp → Prop} : Tells (Its z) (strL z) P := fun k H _ => by
  refine ⟨fun x hx => ?_, fun h => (show z.cps.size ≤ k by simpa [strL] using h)⟩
  unfold strL at hx
  rw [List.getElem?_map] at hx
  by_cases hk : k < z.cps.size
  · have e : z.cps.toList[k]? = some z.cps[k] := by simp [hk]
    rw [e] at hx
    obtain rfl := Option.some.inj hx
    refine ⟨hk, fun x' H' y => ⟨y.1, ?_⟩⟩
    obtain ⟨c, e1, e2⟩ := y.2
    rw [Array.getElem?_eq_getElem hk] at e1
    obtain rfl := Option.some.inj e1
    exact e2
  · rw [List.getElem?_eq_none (by simpa using hk)] at hx
    cases hx
theorem tells_lst {K : PySem.W.Frag} {a : Addr} {xs : List V} {P : Nat → Hp → Prop} (h : ∀ k H, P k H → SqL K H a xs) : Tells (Itl K a) xs P := fun k H p => by
  have q := h k H p
  refine ⟨fun x hx => ⟨⟨xs, x, q, hx⟩, fun x' H' y => ⟨y.1, ?_⟩⟩, fun l => ⟨xs, q, l⟩⟩
  have e := y.2 xs q
  rw [hx] at e
  exact (Option.some.inj e).symm
theorem tells_tup {K : PySem.W.Frag} {a : Addr} {xs : List V} {P : Nat → Hp → Prop} (h : ∀ k H, P k H → SqT K H a xs) : Tells (Itt K a) xs P := fun k H p => by
  have q := h k H p
  refine ⟨fun x hx => ⟨⟨xs, x, q, hx⟩, fun x' H' y => ⟨y.1, ?_⟩⟩, fun l => ⟨xs, q, l⟩⟩
  have e := y.2 xs q
  rw [hx] at e
  exact (Option.some.inj e).symm
section
variable {K : PySem.W.Frag} {σ : L2.St} {H H1 : Hp} {Q : VK} {te : TE} {J : It} {xs : List V} {i : Nat} {D : Ends} {tb : TS} {wi : TI}
theorem wipe1 {σ : L2.St} {i : Nat} {v : Option V} : wipe ((wipe σ [i]).set i v) [i] = wipe σ [i] := by
  show (List.set (List.set (List.set σ i none) i v) i none) = List.set σ i none
  rw [List.set_set, List.set_set]
/-- what a comprehension asks for, J its walk -/
abbrev LcAsk (J : It) (g : TG) (tt : TT) (te : TE) (vs : List Nat) (σ : L2.St) (H1 : Hp) (Q : VK) : Prop := ∀ D, H1 D = none → ∃ W : Nat → Nat → Hp → Prop, (∃ m, W 0 m (upd H1 D (.lst []))) ∧ ∀ i m H, W i m H →
  (J.stop i H ∧ Q (.ref D) H) ∨ (J.go i H ∧ ∃ Nx : Hp → Prop, (∀ H', Nx H' → ∃ m', m' < m ∧ W (i + 1) m' H') ∧ ∀ x H', J.yld i H x H' → g x (wipe σ vs) H' fun σ2 H2 => wipe σ2 vs = wipe σ vs ∧ tt σ2 H2 fun b H3 =>
    if b = true then te σ2 H3 fun y H4 => ∃ acc, H4 D = some (.lst acc) ∧ acc.length < sizeLine ∧ Nx (upd H4 D (.lst (acc ++ [y]))) else Nx H3)
theorem e_lc {g : TG} {tt : TT} {vs : List Nat} (h : wi σ H fun J H1 => LcAsk J g tt te vs σ H1 Q) : tLc wi g tt te vs σ H Q := h
/-- [e for x in xs if t], P: the new list's place, the turn, the list so far -/
theorem lc_any {g : TG} {tt : TT} {vs : List Nat} (P : Addr → Nat → Hp → Prop) (hJ : ∀ d, Tells J xs (P d)) (h0 : ∀ d H2, H1 d = none → Ext noM H1 H2 → H2 d = some (.lst []) → P d 0 H2)
    (hs : ∀ d k H x, P d k H → xs[k]? = some x → g x (wipe σ vs) H fun σ2 H2 => wipe σ2 vs = wipe σ vs ∧ tt σ2 H2 fun b H3 => if b = true then te σ2 H3 fun y H4 => ∃ acc, H4 d = some (.lst acc) ∧ acc.length < sizeLine ∧ P d (k + 1) (upd H4 d (.lst (acc ++ [y]))) else P d (k + 1) H3)
    (he : ∀ d H, P d xs.length H → Q (.ref d) H) : LcAsk J g tt te vs σ H1 Q := by
  intro d hd
  refine ⟨fun k m H => P d k H ∧ k + m = xs.length, ⟨xs.length, h0 d _ hd (Ext.new hd) upd_same, Nat.zero_add _⟩, fun k m H ⟨p, hm⟩ => ?_⟩
  have t := hJ d k H p
  cases m with
  | zero =>
    have e : k = xs.length := hm
    subst e
    exact .inl ⟨t.2 (Nat.le_refl _), he d H p⟩
  | succ m =>
    have hk : k < xs.length := by omega
    have ex : xs[k]? = some xs[k] := List.getElem?_eq_getElem hk
    obtain ⟨go, yl⟩ := t.1 _ ex
    refine .inr ⟨go, P d (k + 1), fun H' q => ⟨m, Nat.lt_succ_self m, q, by omega⟩, fun x H' hy => ?_⟩
    obtain ⟨e1, e2⟩ := yl x H' hy
    subst e1 e2
    exact hs d k H' _ p ex
/-- of one name, no test -/
theorem lc_map (P : Addr → Nat → Hp → Prop) (hJ : ∀ d, Tells J xs (P d)) (h0 : ∀ d H2, H1 d = none → Ext noM H1 H2 → H2 d = some (.lst []) → P d 0 H2)
    (hs : ∀ d k H x, P d k H → xs[k]? = some x → te ((wipe σ [i]).set i (some x)) H fun y H4 => ∃ acc, H4 d = some (.lst acc) ∧ acc.length < sizeLine ∧ P d (k + 1) (upd H4 d (.lst (acc ++ [y]))))
    (he : ∀ d H, P d xs.length H → Q (.ref d) H) : LcAsk J (gName i) tYes te [i] σ H1 Q := by
  refine lc_any P hJ h0 (fun d k H x p hx => ?_) he
  refine ⟨wipe1, ?_⟩
  have z := hs d k H x p hx
  unfold tYes
  dsimp only
  rw [if_pos rfl]
  exact z
/-- [e for x in xs], e without any trace -/
theorem lc_pure (f : V → V) (hJ : ∀ P, (∀ k H, P k H → Ext noM H1 H) → Tells J xs P) (hl : xs.length < sizeLine)
    (hs : ∀ H x (R : VK), x ∈ xs → Ext noM H1 H → R (f x) H → te ((wipe σ [i]).set i (some x)) H R)
    (he : ∀ d H, H1 d = none → Ext noM H1 H → H d = some (.lst (xs.map f)) → Q (.ref d) H) : LcAsk J (gName i) tYes te [i] σ H1 Q := by
  refine lc_map (fun d k H => H1 d = none ∧ Ext noM H1 H ∧ H d = some (.lst ((xs.take k).map f))) (fun d => hJ _ fun k H p => p.2.1) (fun d H2 h1 h2 h3 => ⟨h1, h2, h3⟩) (fun d k H x p hx => ?_) fun d H p => ?_
  · obtain ⟨h1, h2, h4⟩ := p
    refine hs H x _ (List.mem_of_getElem? hx) h2 ⟨_, h4, ?_, h1, fun q o _ e => ?_, ?_⟩
    · rw [List.length_map]
      exact Nat.lt_of_le_of_lt (List.length_take_le' _ _) hl
    · rw [upd_ne (ne_new e h1).symm]
      exact h2 q o noM_not e
    · rw [upd_same, List.take_add_one, hx]
      simp
  · obtain ⟨h1, h2, h4⟩ := p
    rw [List.take_length] at h4
    exact he d H h1 h2 h4
def at1 (p : Addr) : Addr → Prop := fun q => q = p
/-- [e for g in xs if t]: Rel d tells what e leaves for an item, beside the new list at d -/
theorem lc_rel {g : TG} {tt : TT} {vs : List Nat} (sx : V → L2.St) (pd : V → Bool) (Rel : Addr → Hp → V → V → Prop) (mono : ∀ d H H2 x y, Ext (at1 d) H H2 → Rel d H x y → Rel d H2 x y) (hJ : ∀ P, (∀ k H, P k H → Ext noM H1 H) → Tells J xs P) (hl : xs.length < sizeLine)
    (hw : ∀ x ∈ xs, wipe (sx x) vs = wipe σ vs) (hg : ∀ H x (R : L2.St → Hp → Prop), x ∈ xs → Ext noM H1 H → R (sx x) H → g x (wipe σ vs) H R) (ht : ∀ H x (R : Bool → Hp → Prop), x ∈ xs → Ext noM H1 H → R (pd x) H → tt (sx x) H R)
    (hs : ∀ d H x (R : VK), x ∈ xs → pd x = true → Ext noM H1 H → H d ≠ none → (∀ y H2, Ext noM H H2 → Rel d H2 x y → R y H2) → te (sx x) H R)
    (he : ∀ d H ys, H1 d = none → Ext noM H1 H → H d = some (.lst ys) → Paired (Rel d H) (xs.filter pd) ys → Q (.ref d) H) : LcAsk J g tt te vs σ H1 Q := by
  have pm : ∀ {d : Addr} {H H2 : Hp} {as bs : List V}, Ext (at1 d) H H2 → Paired (Rel d H) as bs → Paired (Rel d H2) as bs := fun {d H H2 as bs} x p => by
    induction p with
    | nil => exact .nil
    | cons h _ ih => exact .cons (mono _ _ _ _ _ x h) ih
  refine lc_any (fun d k H => H1 d = none ∧ Ext noM H1 H ∧ ∃ ys, H d = some (.lst ys) ∧ ys.length ≤ k ∧ Paired (Rel d H) ((xs.take k).filter pd) ys) (fun d => hJ _ fun k H p => p.2.1) (fun d H2 h1 h2 h3 => ⟨h1, h2, [], h3, Nat.zero_le _, .nil⟩) (fun d k H x p hx => ?_) fun d H p => ?_
  · obtain ⟨h1, h2, ys, h4, h5, h6⟩ := p
    have mx := List.mem_of_getElem? hx
    have hk : k < xs.length := (List.getElem?_eq_some_iff.mp hx).1
    refine hg H x _ mx h2 ⟨hw x mx, ht H x _ mx h2 ?_⟩
    cases hp : pd x with
    | false =>
      rw [if_neg Bool.false_ne_true]
      refine ⟨h1, h2, ys, h4, Nat.le_succ_of_le h5, ?_⟩
      rw [List.take_add_one, hx, List.filter_append]
      have e : List.filter pd (some x).toList = [] := by simp [hp]
      rw [e, List.append_nil]
      exact h6
    | true =>
      rw [if_pos rfl]
      refine hs d H x _ mx hp h2 (by rw [h4]; exact fun z => nomatch z) fun y H2 x2 ry => ⟨ys, x2 _ _ noM_not h4, Nat.lt_of_le_of_lt h5 (Nat.lt_trans hk hl), h1, fun q o m e => ?_, ys ++ [y], upd_same, ?_, ?_⟩
      · rw [upd_ne (ne_new e h1).symm]
        exact x2 q o m (h2 q o m e)
      · rw [List.length_append, List.length_singleton]
        exact Nat.succ_le_succ h5
      · rw [List.take_add_one, hx, List.filter_append]
        have e : List.filter pd (some x).toList = [x] := by simp [hp]
        rw [e]
        have up : Ext (at1 d) H2 (upd H2 d (.lst (ys ++ [y]))) := Ext.set rfl
        exact Paired.snoc (pm (x2.up.trans up) h6) (mono _ _ _ _ _ up ry)
  · obtain ⟨h1, h2, ys, h4, h5, h6⟩ := p
    rw [List.take_length] at h6
    exact he d H ys h1 h2 h4 h6
/-- [f x for g in xs if p x], without any trace -/
theorem lc_gen {g : TG} {tt : TT} {vs : List Nat} (sx : V → L2.St) (pd : V → Bool) (f : V → V) (hJ : ∀ P, (∀ k H, P k H → Ext noM H1 H) → Tells J xs P) (hl : xs.length < sizeLine)
    (hw : ∀ x ∈ xs, wipe (sx x) vs = wipe σ vs) (hg : ∀ H x (R : L2.St → Hp → Prop), x ∈ xs → Ext noM H1 H → R (sx x) H → g x (wipe σ vs) H R) (ht : ∀ H x (R : Bool → Hp → Prop), x ∈ xs → Ext noM H1 H → R (pd x) H → tt (sx x) H R)
    (hs : ∀ H x (R : VK), x ∈ xs → pd x = true → Ext noM H1 H → R (f x) H → te (sx x) H R) (he : ∀ d H, H1 d = none → Ext noM H1 H → H d = some (.lst ((xs.filter pd).map f)) → Q (.ref d) H) : LcAsk J g tt te vs σ H1 Q := by
  refine lc_rel sx pd (fun _ _ x y => y = f x) (fun _ _ _ _ _ _ h => h) hJ hl hw hg ht (fun d H x R m p e _ h => hs H x R m p e (h _ H Ext.rfl rfl)) fun d H ys h1 h2 h3 h4 => he d H h1 h2 ?_
  have e : ys = (xs.filter pd).map f := by
    clear h3
    generalize xs.filter pd = zs at h4
    induction h4 with
    | nil => rfl
    | cons h _ ih => rw [h, ih, List.map_cons]
  rw [← e]
  exact h3
theorem s_for {g : TG} (h : wi σ H fun J H1 => ∃ W : Nat → Nat → L2.St → Hp → Prop, (∃ m, W 0 m σ H1) ∧ ∀ i m σ H, W i m σ H →
  (J.stop i H ∧ D.nx σ H) ∨ (J.go i H ∧ ∃ N : L2.St → Hp → Prop, (∀ σ' H', N σ' H' → ∃ m', m' < m ∧ W (i + 1) m' σ' H') ∧ ∀ x H', J.yld i H x H' → g x σ H' fun σ2 H2 => tb { D with nx := N, ct := N, bk := D.nx } σ2 H2)) : tFor wi g tb D σ H := h
/-- for .. in xs: P, by the turn -/
theorem for_go {g : TG} (P : Nat → L2.St → Hp → Prop) (hJ : Tells J xs fun k H => ∃ σ, P k σ H) (h0 : P 0 σ H1)
    (hs : ∀ k σ H x, P k σ H → xs[k]? = some x → g x σ H fun σ2 H2 => tb { D with nx := P (k + 1), ct := P (k + 1), bk := D.nx } σ2 H2) (he : ∀ σ H, P xs.length σ H → D.nx σ H) :
    ∃ W : Nat → Nat → L2.St → Hp → Prop, (∃ m, W 0 m σ H1) ∧ ∀ i m σ H, W i m σ H →
      (J.stop i H ∧ D.nx σ H) ∨ (J.go i H ∧ ∃ N : L2.St → Hp → Prop, (∀ σ' H', N σ' H' → ∃ m', m' < m ∧ W (i + 1) m' σ' H') ∧ ∀ x H', J.yld i H x H' → g x σ H' fun σ2 H2 => tb { D with nx := N, ct := N, bk := D.nx } σ2 H2) := by
  refine ⟨fun k m σ H => P k σ H ∧ k + m = xs.length, ⟨xs.length, h0, Nat.zero_add _⟩, fun k m σ H ⟨p, hm⟩ => ?_⟩
  have t := hJ k H ⟨σ, p⟩
  cases m with
  | zero =>
    have e : k = xs.length := hm
    subst e
    exact .inl ⟨t.2 (Nat.le_refl _), he σ H p⟩
  | succ m =>
    have hk : k < xs.length := by omega
    have ex : xs[k]? = some xs[k] := List.getElem?_eq_getElem hk
    obtain ⟨go, yl⟩ := t.1 _ ex
    refine .inr ⟨go, P (k + 1), fun σ' H' q => ⟨m, Nat.lt_succ_self m, q, by omega⟩, fun x H' hy => ?_⟩
    obtain ⟨e1, e2⟩ := yl x H' hy
    subst e1 e2
    exact hs k σ H' _ p ex
theorem s_while {c : TT} (h : ∃ W : Nat → L2.St → Hp → Prop, (∃ m, W m σ H) ∧ ∀ m σ H, W m σ H →
  c σ H fun b H1 => if b = true then ∃ N : L2.St → Hp → Prop, (∀ σ' H', N σ' H' → ∃ m', m' < m ∧ W m' σ' H') ∧ tb { D with nx := N, ct := N, bk := D.nx } σ H1 else D.nx σ H1) : tWhile c tb D σ H := h
theorem i_seqL {R : It → Hp → Prop} (h : te σ H fun x H1 => ∃ a, x = .ref a ∧ (∃ xs, SqL K H1 a xs) ∧ R (Itl K a) H1) : iAny K te σ H R := .inl (.inl h)
theorem i_seqT {R : It → Hp → Prop} (h : te σ H fun x H1 => ∃ a, x = .ref a ∧ (∃ xs, SqT K H1 a xs) ∧ R (Itt K a) H1) : iAny K te σ H R := .inl (.inr h)
theorem i_text {R : It → Hp → Prop} (h : te σ H fun v H1 => ∃ x, v = .str x ∧ R (Its x) H1) : iAny K te σ H R := .inr (.inl h)
theorem j_ref {a : Addr} {xs : List V} {R : Addr → Prop} (e : H a = some (.lst xs)) (h : R a) : ∃ b, V.ref a = .ref b ∧ (∃ ys, SqL K H b ys) ∧ R b := ⟨a, rfl, ⟨xs, .inl (.inl e)⟩, h⟩
theorem j_text {z : Str} {R : Str → Prop} (h : R z) : ∃ x, V.str z = .str x ∧ R x := ⟨z, rfl, h⟩
theorem x_putL {M : Addr → Prop} {p : Addr} {vs : List V} {k : Int} {j : Nat} {v : V} {Qh : Hp → Prop} (mp : M p) (e : H p = some (.lst vs)) (hj : ixN vs.length k = some j) (h : ∀ H2, Ext M H H2 → H2 p = some (.lst (vs.set j v)) → Qh H2) : rPutU (.ref p) (.int k) v H Qh := .inl ⟨p, vs, k, j, rfl, rfl, e, hj, h _ (Ext.set mp) upd_same⟩
theorem y_str {z : Str} {p : Prop} (h : p) : tyV K "str" (.str z) H ∧ p := ⟨rfl, h⟩
theorem y_lst {a : Addr} {vs : List V} {p : Prop} (e : H a = some (.lst vs)) (h : p) : tyV K "list" (.ref a) H ∧ p := ⟨.inl ⟨rfl, vs, .inl (.inl e)⟩, h⟩
theorem y_dK {a : Addr} {vs : List (Key × V)} {p : Prop} (e : H a = some (.dK vs)) (h : p) : tyV K "dict" (.ref a) H ∧ p := ⟨.inr (.inr (.inl ⟨rfl, .inl ⟨vs, e⟩⟩)), h⟩
theorem Ext.setNew {M : Addr → Prop} {H0 : Hp} {p : Addr} {o : HO} (h : Ext M H0 H) (hn : H0 p = none) : Ext M H0 (upd H p o) := fun q o' m e => by
  rw [upd_ne (ne_new e hn).symm]
  exact h q o' m e
theorem e_dnew (h : ∀ p H2, H p = none → Ext noM H H2 → H2 p = some (.dK []) → Q (.ref p) H2) : tDNewK σ H Q := fun p e => h p _ e (Ext.new e) upd_same
def DispEnd (p : Addr) (Q : VK) (ps : List (V × V)) (H2 : Hp) : Prop := H2 p = some (.dK []) ∧ ∃ kvs : List (Key × V), ps = kvs.map (fun kv => (kV kv.1, kv.2)) ∧ kvs.length ≤ 15 ∧ Q (.ref p) (upd H2 p (.dK (mergeK [] kvs)))
theorem e_disp {trs : List (TE × TE)} (h : ∀ p H2, H p = none → Ext noM H H2 → H2 p = some (.dK []) → tPairs trs σ H2 (DispEnd p Q)) : tDisp trs σ H Q := fun p e => h p _ e (Ext.new e) upd_same
theorem q_cons {tk tv : TE} {r : List (TE × TE)} {R : List (V × V) → Hp → Prop} (h : tk σ H fun x H1 => tv σ H1 fun y H2 => tPairs r σ H2 fun ps H3 => R ((x, y) :: ps) H3) : tPairs ((tk, tv) :: r) σ H R := h
theorem q_nil {R : List (V × V) → Hp → Prop} (h : R [] H) : tPairs [] σ H R := h
theorem disp_end {p : Addr} {ps : List (V × V)} (kvs : List (Key × V)) (e : H p = some (.dK [])) (ek : ps = kvs.map fun kv => (kV kv.1, kv.2)) (l : kvs.length ≤ 15) (h : ∀ H2, (∀ M H0, Ext M H0 H → H0 p = none → Ext M H0 H2) → H2 p = some (.dK (mergeK [] kvs)) → Q (.ref p) H2) : DispEnd p Q ps H := ⟨e, kvs, ek, l, h _ (fun _ _ x z => x.setNew z) upd_same⟩
theorem v_app {l : Addr} {vs : List V} {y : V} (e : H l = some (.lst vs)) (z : vs.length < sizeLine) (h : ∀ H2, (∀ M H0, Ext M H0 H → H0 l = none → Ext M H0 H2) → (∀ M, M l → Ext M H H2) → H2 l = some (.lst (vs ++ [y])) → Q .non H2) : rAppend (.ref l) [y] H Q := ⟨l, vs, y, rfl, rfl, e, z, h _ (fun _ _ x z => x.setNew z) (fun _ m => Ext.set m) upd_same⟩
theorem v_lenLn {a : Addr} {vs : List V} {n : Nat} (e : H a = some (.lst vs)) (hn : vs.length = n) (h : Q (.int (n : Nat)) H) : rLenU K [.ref a] H Q := ⟨_, _, rfl, .inl (.inl ⟨vs, .inl (.inl e), rfl⟩), by rw [hn]; exact h⟩
theorem Ext.drop {H0 : Hp} {p : Addr} {M : Addr → Prop} (h : Ext M H0 H) (hp : ∀ q, M q → H0 q = none) : Ext noM H0 H := fun q o _ e => h q o (fun z => by rw [hp q z] at e; cases e) e
theorem rd_ext {M : Addr → Prop} {H2 : Hp} {a : Addr} {u : HO} (h : Rd H a u) (x : Ext M H H2) (m : H a ≠ none → ¬ M a) : Rd H2 a u := by
  rcases h with e | ⟨o, e⟩
  · exact .inl (x _ _ (m (by rw [e]; exact fun z => nomatch z)) e)
  · exact .inr ⟨o, x _ _ (m (by rw [e]; exact fun z => nomatch z)) e⟩
theorem sql_ext {M : Addr → Prop} {H2 : Hp} {a : Addr} {vs : List V} (h : SqL K H a vs) (x : Ext M H H2) (m : H a ≠ none → ¬ M a) : SqL K H2 a vs := by
  rcases h with h | h
  · exact .inl (rd_ext h x m)
  · exact .inr h
theorem v_lenQ {a : Addr} {vs : List V} (e : SqL K H a vs) (h : Q (.int vs.length) H) : rLenU K [.ref a] H Q := ⟨_, _, rfl, .inl (.inl ⟨vs, e, rfl⟩), h⟩
theorem v_ixQ {a : Addr} {vs : List V} {i : Int} {v : V} (e : SqL K H a vs) (l : atI vs i = some v) (h : Q v H) : rSubU' K (.ref a) (.int i) H Q := .inl (.inl ⟨a, vs, i, v, rfl, rfl, e, l, h⟩)
theorem v_repr {x : V} (d : PyData) (e : Dp K H x d) (h1 : d.showable = true) (h2 : d.depth ≤ 100) (h3 : d.shown.length ≤ sizeLine) (h : Q (.str d.shown) H) : rRepr K [x] H Q := ⟨x, d, rfl, e, h1, h2, h3, h⟩
theorem i_seqQ {R : It → Hp → Prop} {a : Addr} {vs : List V} (e : SqT K H a vs) (h : R (Itt K a) H) : iAny K (tC (.ref a)) σ H R := .inl (.inr ⟨a, rfl, ⟨vs, e⟩, h⟩)
theorem v_ixTQ {a : Addr} {vs : List V} {i : Int} {v : V} (e : SqT K H a vs) (l : atI vs i = some v) (h : Q v H) : rSubU' K (.ref a) (.int i) H Q := .inl (.inr (.inl ⟨a, vs, i, v, rfl, rfl, e, l, h⟩))
theorem v_sortD {d : Addr} {kvs : List (Key × V)} {ks : List Int} (e : Rd H d (.dK kvs)) (hk : kvs.map (·.1) = ks.map Sum.inl) (h : ∀ (ys : List Int) (p : Addr) (H2 : Hp), ys.Perm ks → ys.Pairwise (· ≤ ·) → H p = none → Ext noM H H2 → H2 p = some (.lst (ys.map V.int)) → Q (.ref p) H2) :
    ∃ (a : Addr) (kvs : List (Key × V)) (ks : List Int), [V.ref d] = [V.ref a] ∧ Rd H a (.dK kvs) ∧ kvs.map (·.1) = ks.map Sum.inl ∧ ∀ (ys : List Int) (p : Addr), ys.Perm ks → ys.Pairwise (· ≤ ·) → H p = none → Q (.ref p) (upd H p (.lst (ys.map V.int))) := ⟨d, kvs, ks, rfl, e, hk, fun ys p h1 h2 h3 => h ys p _ h1 h2 h3 (Ext.new h3) upd_same⟩
theorem v_ixD {d : Addr} {kvs : List (Key × V)} {k : Key} {v : V} (e : H d = some (.dK kvs)) (l : valV kvs k = some v) (h : Q v H) : rSubU' K (.ref d) (kV k) H Q := .inr ⟨d, v, rfl, by rw [← l]; exact DGet.k e, h⟩
theorem e_attr {fa : List He.Fa} {f : Str} (h : te σ H fun x H1 => ∃ (d : Addr) (C : Str) (dx : Addr) (fs : List (Str × V)) (v : V), x = .ref d ∧ H1 d = some (.ins (He.ga K C) dx fs) ∧ hasF (isCls C) fa = true ∧ hasF (isNoat C f) fa = true ∧ fs.lookup f = some v ∧ Q v H1) : tAttr K fa te f σ H Q := h
theorem a_get {fa : List He.Fa} {f C : Str} {d dx : Addr} {fs : List (Str × V)} {v : V} {R : V → Prop} (e : H d = some (.ins (He.ga K C) dx fs)) (k1 : hasF (isCls C) fa = true) (k2 : hasF (isNoat C f) fa = true) (l : fs.lookup f = some v) (h : R v) :
    ∃ (d' : Addr) (C : Str) (dx : Addr) (fs : List (Str × V)) (v : V), V.ref d = .ref d' ∧ H d' = some (.ins (He.ga K C) dx fs) ∧ hasF (isCls C) fa = true ∧ hasF (isNoat C f) fa = true ∧ fs.lookup f = some v ∧ R v := ⟨d, C, dx, fs, v, rfl, e, k1, k2, l, h⟩
theorem e_meth {c : Cn} {m : Str} {na : Nat} {ks : List Str} {to : TE} {tA tK : TA} (h : to σ H fun x H1 => ∃ (d : Addr) (C : Str) (dx : Addr) (fs : List (Str × V)), x = .ref d ∧ H1 d = some (.ins (He.ga c.K C) dx fs) ∧
  hasF (isCls C) c.fa = true ∧ hasF (isMeth C m) c.fa = true ∧ fs.lookup m = none ∧ tArgs c (C, some m) na ks [.ref d] tA tK σ H1 Q) : tMeth c m na ks to tA tK σ H Q := h
theorem me_get {hot top : Bool} {fa : List He.Fa} {sh : List Shp} {Ph : Ky → Sp} {N : List Str} {sc : Scope} {fnn : Str → Bool} {W : WX} {xa : List Ex} {cx : Option (Addr × Value × Option Addr)} {m C : Str} {na : Nat} {ks kk : List Str} {nn : Nat} {pl : List Src} {tA tK : TA} {d dx : Addr} {fs : List (Str × V)} (e : H d = some (.ins (He.ga K C) dx fs)) (k1 : hasF (isCls C) fa = true) (k2 : hasF (isMeth C m) fa = true) (l : fs.lookup m = none)
    (hs : shpOf sh (C, some m) (1 + na) ks = some ⟨(C, some m), nn, kk, pl⟩) (h : tA σ H fun vs H1 => tK σ H1 fun zs H2 => vs.length = na ∧ zs.length = ks.length ∧ Ph (C, some m) (plug K pl ([.ref d] ++ vs) zs) H2 Q (WE W σ)) :
    ∃ (d' : Addr) (C : Str) (dx : Addr) (fs : List (Str × V)), V.ref d = .ref d' ∧ H d' = some (.ins (He.ga (Cn.K ⟨hot, top, K, fa, sh, Ph, N, sc, fnn, W, xa, cx⟩) C) dx fs) ∧ hasF (isCls C) (Cn.fa ⟨hot, top, K, fa, sh, Ph, N, sc, fnn, W, xa, cx⟩) = true ∧ hasF (isMeth C m) (Cn.fa ⟨hot, top, K, fa, sh, Ph, N, sc, fnn, W, xa, cx⟩) = true ∧ fs.lookup m = none ∧
      tArgs ⟨hot, top, K, fa, sh, Ph, N, sc, fnn, W, xa, cx⟩ (C, some m) na ks [.ref d'] tA tK σ H Q := ⟨d, C, dx, fs, rfl, e, k1, k2, l, _, hs, h⟩
def one (c : Nat) : Str := ⟨#[c]⟩
def ofL (cs : List Nat) : Str := ⟨cs.toArray⟩
theorem ofL_len {cs : List Nat} : (ofL cs).length = cs.length := by simp [ofL, Str.length]
theorem ofL_list {cs : List Nat} : (ofL cs).cps.toList = cs := by simp [ofL]
theorem join_ones : ∀ cs : List Nat, Str.join "" (cs.map one) = ofL cs
  | [] => rfl
  | [c] => rfl
  | c :: d :: cs => by
    show one c ++ ("" : Str) ++ Str.join "" ((d :: cs).map one) = _
    rw [join_ones (d :: cs)]
    refine Str.ext' ?_
    have e : ("" : Str).cps = #[] := by decide
    simp [Str.cps_append, e, one, ofL]
theorem v_join {a : Addr} {cs : List Nat} (e : H a = some (.lst (cs.map fun c => .str (one c)))) (l : cs.length ≤ 1000) (h : Q (.str (ofL cs)) H) : rJoin K (.str "") [.ref a] H Q := by
  refine ⟨"", a, cs.map one, rfl, rfl, .inl (.inl (.inl ?_)), ?_, ?_⟩
  · rw [List.map_map]
    exact e
  · have e1 : ((cs.map one).map (·.length)).sum = cs.length := by
      rw [List.map_map]
      clear e l h
      induction cs with
      | nil => rfl
      | cons c cs ih =>
        rw [List.map_cons, List.sum_cons, ih, List.length_cons]
        show 1 + _ = _
        omega
    rw [e1]
    have e2 : ("" : Str).length = 0 := by decide
    rw [e2]
    omega
  · have e : Txt.join "" (cs.map one) = ofL cs := (TL.join_eq _ _).trans (join_ones cs)
    rw [e]
    exact h
theorem v_isN (h : Q (.bl true) H) : rIsU .non .non H Q := ⟨rfl, h⟩
theorem v_isR {a : Addr} (h : Q (.bl false) H) : rIsU (.ref a) .non H Q := ⟨rfl, h⟩
theorem v_isI {i : Int} (h : Q (.bl false) H) : rIsU (.int i) .non H Q := ⟨rfl, h⟩
theorem v_isS {z : Str} (h : Q (.bl false) H) : rIsU (.str z) .non H Q := ⟨rfl, h⟩
theorem v_isB {b : Bool} (h : Q (.bl false) H) : rIsU (.bl b) .non H Q := ⟨rfl, h⟩
theorem v_isntN (h : Q (.bl false) H) : rIsntU .non .non H Q := ⟨rfl, h⟩
theorem v_isntR {a : Addr} (h : Q (.bl true) H) : rIsntU (.ref a) .non H Q := ⟨rfl, h⟩
theorem v_isntI {i : Int} (h : Q (.bl true) H) : rIsntU (.int i) .non H Q := ⟨rfl, h⟩
theorem v_isntS {z : Str} (h : Q (.bl true) H) : rIsntU (.str z) .non H Q := ⟨rfl, h⟩
theorem v_isntB {b : Bool} (h : Q (.bl true) H) : rIsntU (.bl b) .non H Q := ⟨rfl, h⟩
theorem at0 {y : V} {ys : List V} : atI (y :: ys) 0 = some y := by
  unfold atI ixN
  rw [if_pos (Int.le_refl 0), if_pos (by simp only [List.length_cons]; omega)]
  rfl
theorem atN {xs : List V} {k : Nat} {y : V} (h : xs[k]? = some y) : atI xs (k : Nat) = some y := by
  obtain ⟨hk, _⟩ := List.getElem?_eq_some_iff.mp h
  unfold atI ixN
  rw [if_pos (Int.natCast_nonneg k), if_pos (by omega)]
  exact h
theorem v_inS {n : Nat} {z : Str} (h : Q (.bl (decide (n ∈ z.cps.toList))) H) : rInU K (.str ⟨#[n]⟩) (.str z) H Q := .inr (.inl ⟨n, z, rfl, rfl, h⟩)
theorem v_inL {x : V} {a : Addr} {xs : List V} (e : H a = some (.lst xs)) (f1 : flatV x = true) (f2 : xs.all flatV = true) (h : Q (.bl (inV x xs)) H) : rInU K x (.ref a) H Q := .inl ⟨a, xs, rfl, .inl (.inl (.inl e)), f1, f2, by rw [if_neg Bool.false_ne_true]; exact h⟩
theorem v_all {a : Addr} {bs : List Bool} (e : H a = some (.lst (bs.map V.bl))) (h : Q (.bl (bs.all id)) H) : rAll K [.ref a] H Q := ⟨a, bs, rfl, .inl (.inl e), h⟩
theorem v_any {a : Addr} {bs : List Bool} (e : H a = some (.lst (bs.map V.bl))) (h : Q (.bl (bs.any id)) H) : rAny K [.ref a] H Q := ⟨a, bs, rfl, .inl (.inl e), h⟩
theorem i_rng1 {tA : TA} {R : It → Hp → Prop} (h : tA σ H fun vs H1 => ∃ j : Int, vs = [.int j] ∧ -(2 ^ 62) ≤ j ∧ j < 2 ^ 62 ∧ R (Itr 0 j.toNat) H1) : iRng1 tA σ H R := h
theorem i_rng2 {tA : TA} {R : It → Hp → Prop} (h : tA σ H fun vs H1 => ∃ i j : Int, vs = [.int i, .int j] ∧ (-(2 ^ 62) ≤ i ∧ i < 2 ^ 62 ∧ -(2 ^ 62) ≤ j ∧ j < 2 ^ 62) ∧ R (Itr i (j - i).toNat) H1) : iRng2 tA σ H R := h
theorem j_rng1 {j : Int} {R : Int → Prop} (h1 : -(2 ^ 62) ≤ j) (h2 : j < 2 ^ 62) (h : R j) : ∃ i : Int, [V.int j] = [.int i] ∧ -(2 ^ 62) ≤ i ∧ i < 2 ^ 62 ∧ R i := ⟨j, rfl, h1, h2, h⟩
end
end Rw

namespace Rw
open PySem PySem.Spec PyProof.Rows L2
/-! ### more of built-in functions -/
section
variable {X : Cx}
/-- sorted(d), int keys, as many as may be -/
def rSortDn : List V → Hp → VK → Prop := fun vs H Q => ∃ (a : Addr) (kvs : List (Key × V)) (ks : List Int), vs = [V.ref a] ∧ Rd H a (.dK kvs) ∧ kvs.map (·.1) = ks.map Sum.inl ∧
  ∀ (ys : List Int) (p : Addr), ys.Perm ks → ys.Pairwise (· ≤ ·) → H p = none → Q (.ref p) (upd H p (.lst (ys.map V.int)))
theorem sort_dict (hc : X.calm = true) : CallR X (.builtin "sorted") rSortDn := by
  rintro pins s σ H _ us Q I r ⟨a, kvs, ks, rfl, hd, hks, q⟩
  obtain ⟨u, rfl, rx⟩ := vals1 r
  obtain rfl : u = Value.ref a := rx
  obtain ⟨z, lo, vs, rel, dd⟩ := dk_rd I.hok hd
  obtain ⟨ep, hat⟩ := dd.dictAt
  have kk : vs.map (·.1) = ks.map Sum.inl := by rw [← hks] <;> exact rel.keys.symm
  have ll : vs.length = ks.length := by simpa using congrArg List.length kk
  have lk : kvs.length = ks.length := by simpa using congrArg List.length hks
  have small : vs.length ≤ sizeLine := by
    rw [ll, ← lk]
    first | exact z | omega
  refine Calls.call_function_entry kind_sorted plain_sorted entry_sorted (args_sorted1 _) ?_
  unfold Builtin.«sorted»
  apply wpAny_bind (m := checkCount "sorted" 1 1 _)
  apply wpAny_pure
  apply wpAny_bind
  refine PySem.W.kdu_collect (A := X.A.in1) (PySem.W.kdl_dict (knd := mixKind X.prog X.w) (kvs := vs) (ep := ep) lo) (I.ok.hd hc) hat small fun h' tk acc hk hacc => ?_
  have al : acc.toList.length = ks.length := by rw [Array.length_toList, hacc.1] <;> exact ll
  have ai : IntsAre acc.toList ks := by
    refine ints_each al fun j v e => ?_
    obtain ⟨k, x, e1, e2⟩ := hacc.2 j v (by rw [← Array.getElem?_toList] <;> exact e)
    have e3 : (ks.map (Sum.inl (β := Str)))[j]? = some k := by
      rw [← kk, List.getElem?_map, e1]
      rfl
    rw [List.getElem?_map] at e3
    obtain ⟨y, e4, e5⟩ := Option.map_eq_some_iff.mp e3
    subst e5
    rcases keyIs_shape (show keyIs (Sum.inl y) v = true from e2) with ⟨i, t, ek, ev⟩ | ⟨_, t, ek, _⟩
    · obtain rfl := Sum.inl.inj ek
      exact ⟨_, t, e4, ev⟩
    · cases ek
  have az : acc.toList.length ≤ sizeLine := by rw [al, ← ll] <;> exact small
  have I1 : Inv X pins σ H { s with heap := h', toks := tk } := I.kept hk
  apply wpAny_bind
  refine wpAny_newList ?_ az
  have at0 : (h'.push (seqObj "list" acc.toList.toArray 0)).get? h'.objs.size = some (seqObj "list" acc.toList.toArray 0) := Heap.get?_push_size _ rfl
  show wpAny _ _ _ _ _ { s with heap := h'.push (seqObj "list" acc.toList.toArray 0), toks := tk }
  apply wpAny_bind
  apply wpAny_holding
  refine wpAny_call_entry slot_list_sort ⟨_, at0, rfl⟩ entry_list_sort (SrtO.list_sort_ord SrtO.swo_int at0 az (fun h2 => SrtO.ints_sortable ai h2) fun out g1 g2 => ⟨.none, rfl, ?_⟩) (args_list_sort _)
  obtain ⟨k1, k2, k3⟩ := SrtO.ints_out ai g1 g2
  obtain ⟨e', he'⟩ := sortedHeap_at (vs := acc.toList) (out := out.toArray) at0
  have ol : ((out.map SrtO.iv).map V.int).length ≤ sizeLine := by
    rw [List.length_map, k2.length_eq, ← al]
    exact az
  apply wpAny_pure
  refine ⟨_, rfl, .ref h'.objs.size, upd H h'.objs.size (.lst ((out.map SrtO.iv).map V.int)), ?_, rfl, q _ _ k2 k3 (I1.hok.fresh (Nat.le_refl _))⟩
  refine I1.laid (t' := tk) (fun b u e => ?_) (Nat.le_refl _) ?_
  · have lt := Heap.lt_size e
    rw [sortedHeap_old (Nat.ne_of_lt lt) (by rw [size_push'] <;> exact Nat.lt_succ_of_lt lt)]
    exact Heap.get?_push_of_some _ e
  · exact ⟨ol, out, e', vals_of_ints k1, he'⟩
/-- sum(d.values()), values ints -/
def tSumVals (td : TE) : TE := fun σ H Q => td σ H fun x H1 => ∃ (a : Addr) (kvs : List (Key × V)) (ns : List Int), x = V.ref a ∧ Rd H1 a (.dK kvs) ∧ kvs.map (·.2) = ns.map V.int ∧ Q (.int ns.sum) H1
theorem preSum_list (ns : List Int) : ∀ k, k ≤ ns.length → preSum (fun i => ns.getD i 0) k = (ns.take k).sum
  | 0, _ => by simp [preSum]
  | k + 1, h => by
    have e : ns[k]? = some ns[k] := List.getElem?_eq_getElem h
    rw [preSum, preSum_list ns k (Nat.le_of_succ_le h), List.take_add_one, e, List.getD_eq_getElem?_getD, e, List.sum_append]
    simp
theorem sum_values {o : Expr} {p pos apos mpos : Pos} {td : TE} (hc : X.calm = true) (hg : Gl X "sum") (hm : X.mg "sum" = none) (hd : PE X o td) (hb : attributeBase o "values" X.env (eval o X.env) = eval o X.env := by rfl) (hl : (apos.endLine == mpos.line) = true := by rfl)
    (hse : starEach [Expr.Call (.Attribute o "values" apos) [] [] mpos] X.env = [(false, eval (Expr.Call (.Attribute o "values" apos) [] [] mpos) X.env)] := by rfl) : PE X (.Call (.Name "sum" p) [.Call (.Attribute o "values" apos) [] [] mpos] [] pos) (tSumVals td) := by
  constructor
  intro pins s σ H Q I h
  refine wpAny_Call_Name_kw (ld_blt I hg hm (u := .builtin "sum") (by decide +kernel) ?_ (by decide) (by decide))
  rw [hse]
  refine PySem.callWith_builtin1 (wpAny_Call_method0_late hb hl (thn (hd.run pins s σ H _ I h) fun v s1 ⟨x, H1, I1, r1, a, kvs, ns, ex, ha, hv, q⟩ => ?_))
  subst ex
  obtain rfl : v = Value.ref a := r1
  obtain ⟨_, sys, vs, rel, dof⟩ := dk_rd I1.hok ha
  obtain ⟨ep, dat⟩ := dof.dictAt
  obtain ⟨ob, es, ho, ex, _⟩ := id dat
  refine ⟨"dict", "dict.values", F.plainAttrs_dict, F.slot_dict_values, F.type_dict_values, ⟨ob, ho, ex.1⟩, ?_, Calls.callWith_builtin rfl (PySem.evalArgs_none ?_)⟩
  · intro b e
    cases e
    exact ⟨ob, ho, ex.2.1⟩
  refine call_meetsIn F.slot_dict_values ⟨ob, ho, ex.1⟩ F.entry_dict_values (F.args_dict_values_1 _) (meets_dict_values (mixKind X.prog X.w) a sys) ⟨⟨vs, dof⟩, ?_⟩
  generalize hv1 : s1.heap.push { cls := .type "dict_values", data := .fields #[.ref a] } = g1
  have old1 : ∀ b u, s1.heap.get? b = some u → g1.get? b = some u := fun b u e => by
    rw [← hv1]
    exact Heap.get?_push_of_some _ e
  have gsz : g1.objs.size = s1.heap.objs.size + 1 := by rw [← hv1] <;> exact Heap.size_push _ _
  have view : g1.get? s1.heap.objs.size = some { cls := .type "dict_values", data := .fields #[.ref a] } := by rw [← hv1] <;> exact Heap.get?_push_size _ rfl
  have dat1 : g1.DictAt (mixKind X.prog X.w) a vs ep := dat.keep old1
  have alt : a < s1.heap.objs.size := Heap.lt_size ho
  have same : vs.length = ns.length := by
    have e1 := congrArg List.length hv
    simp only [List.length_map] at e1
    rw [← e1]
    exact (KV.length rel).symm
  have tells : ∀ (i : Nat) (v : Value), (∃ k, vs[i]? = some (k, v)) → ∃ t, v = Value.int (ns.getD i 0) t := by
    rintro i v ⟨k, hk⟩
    obtain ⟨x, h1, h2⟩ := KV.at' rel hk
    have e1 : (ns.map V.int)[i]? = some x := by
      rw [← hv, List.getElem?_map, h1]
      rfl
    rw [List.getElem?_map] at e1
    obtain ⟨j, hj, e2⟩ := Option.map_eq_some_iff.mp e1
    subst e2
    obtain ⟨t, e3⟩ := h2
    rw [List.getD_eq_getElem?_getD, hj]
    exact ⟨t, e3⟩
  refine call_sum_walkG (wpAny_pyIter_values (v := s1.heap.objs.size) (d := a) ⟨_, view, rfl, rfl⟩ dat1 ?_)
  have ne : a ≠ g1.objs.size := Nat.ne_of_lt (by rw [gsz]; exact Nat.lt_succ_of_lt alt)
  refine ⟨_, _, _, _, _, _, _, rfl, Walks.dictValues (knd := mixKind X.prog X.w) (A := X.A.in1) (I.ok.hd hc) g1.objs.size a ne vs ep, ⟨⟨_, Heap.get?_push_size _ rfl, rfl, rfl⟩, dat1.keep fun b u e => Heap.get?_push_of_some _ e⟩, fun b hb => ?_, tells, fun h' tk t hk => ?_⟩
  · have bs : b = g1.objs.size ∨ b = a := by simpa using hb
    show b < (g1.push _).objs.size
    rw [Heap.size_push]
    rcases bs with z | z
    · rw [z]
      exact Nat.lt_succ_self _
    · rw [z, gsz]
      exact Nat.lt_succ_of_lt (Nat.lt_succ_of_lt alt)
  · have e := preSum_list ns ns.length (Nat.le_refl _)
    rw [List.take_length, ← same] at e
    rw [e]
    refine ⟨.int _, H1, I1.kept (t' := tk) fun b u eb => hk b u (fun mem => ?_) (Heap.get?_push_of_some _ (old1 b u eb)), ⟨t, rfl⟩, q⟩
    have eb2 : b = g1.objs.size := List.mem_singleton.mp mem
    have lt := Heap.lt_size eb
    rw [eb2, gsz] at lt
    exact absurd lt (Nat.not_lt.mpr (Nat.le_succ _))
end
section
variable {c : Cn} {a b d e o : Expr} {es : List Expr} {ta tb te to : TE} {tA tK : TA} {pos apos mpos p : Pos} {x : Str}
theorem g_sumVals (ho : GE c o to) (hc : c.hot = false := by rfl) (hg : GlN c "sum" := by rfl) (hf : hasF (isFree "sum") c.fa = true := by rfl) (hb : ∀ env w, attributeBase o "values" env w = w := by intro _ _; rfl) (hl : (apos.endLine == mpos.line) = true := by rfl)
    (hse : ∀ env, starEach [Expr.Call (.Attribute o "values" apos) [] [] mpos] env = [(false, eval (Expr.Call (.Attribute o "values" apos) [] [] mpos) env)] := by intro _; rfl) : GE c (.Call (.Name "sum" p) [.Call (.Attribute o "values" apos) [] [] mpos] [] pos) (tSumVals to) := fun X h =>
  sum_values (h.calm hc) (h.gln hg) (h.free hf) (ho X h) (hb X.env _) hl (hse X.env)
/-- sorted of a list of pairs of ints, tracked ones or the module's -/
def prS (K : PySem.W.Frag) (H : Hp) (p : Int × Int) (v : V) : Prop := ∃ t, v = .ref t ∧ SqT K H t [.int p.1, .int p.2]
def rSortedPT (K : PySem.W.Frag) : List V → Hp → VK → Prop := fun vs H Q => ∃ (a : Addr) (xs : List V) (ps : List (Int × Int)), vs = [V.ref a] ∧ SqL K H a xs ∧ Paired (prS K H) ps xs ∧
  ∀ ys qs p, Paired (prS K H) qs ys → qs.Perm ps → qs.Pairwise (fun a b => a.1 < b.1 ∨ a.1 = b.1 ∧ a.2 ≤ b.2) → H p = none → Q (.ref p) (upd H p (.lst ys))
theorem prS_all {K : PySem.W.Frag} {H : Hp} {k : V → Int × Int} : ∀ {ys : List V}, (∀ y ∈ ys, prS K H (k y) y) → Paired (prS K H) (ys.map k) ys
  | [], _ => .nil
  | y :: ys, h => .cons (h y (List.mem_cons_self ..)) (prS_all fun z hz => h z (List.mem_cons_of_mem _ hz))
theorem prS_mem {K : PySem.W.Frag} {H : Hp} : ∀ {ps : List (Int × Int)} {xs : List V}, Paired (prS K H) ps xs → ∀ x ∈ xs, ∃ p, prS K H p x
  | _, _, .nil, x, m => (List.not_mem_nil m).elim
  | _, _, .cons (a := p) h t, x, m => (List.mem_cons.mp m).elim (fun e => e ▸ ⟨p, h⟩) fun m => prS_mem t x m
theorem prS_map {K : PySem.W.Frag} {H : Hp} {k : V → Int × Int} (u : ∀ p q v, prS K H p v → prS K H q v → p = q) : ∀ {ps : List (Int × Int)} {xs : List V}, Paired (prS K H) ps xs → (∀ x ∈ xs, prS K H (k x) x) → xs.map k = ps
  | _, _, .nil, _ => rfl
  | _, _, .cons h t, a => by
    rw [List.map_cons, prS_map u t fun x m => a x (List.mem_cons_of_mem _ m), u _ _ _ (a _ (List.mem_cons_self ..)) h]
open Classical in
noncomputable def prK (K : PySem.W.Frag) (H : Hp) (v : V) : Int × Int := if h : ∃ p, prS K H p v then Classical.choose h else (0, 0)
theorem prK_ok {K : PySem.W.Frag} {H : Hp} {v : V} (h : ∃ p, prS K H p v) : prS K H (prK K H v) v := by
  unfold prK
  rw [dif_pos h]
  exact Classical.choose_spec h
theorem cr_sortedPT {X : Cx} : CallR X (.builtin "sorted") (rSortedPT X.K) := by
  intro pins s σ H vs us Q I r h
  obtain ⟨a, xs, ps, rfl, hs, hx, q⟩ := h
  obtain ⟨its, rv, hl, hz⟩ := I.list hs
  obtain ⟨u, rfl, ru⟩ := vals1 r
  obtain rfl : u = Value.ref a := ru
  have inj : ∀ p q v, prS X.K H p v → prS X.K H q v → p = q := fun p q v h1 h2 => by
    obtain ⟨t1, rfl, g1⟩ := h1
    obtain ⟨t2, e, g2⟩ := h2
    cases e
    have := I.tuple_inj g1 g2
    simp only [List.cons.injEq, V.int.injEq, and_true] at this
    exact Prod.ext this.1 this.2
  let k := prK X.K H
  have hk : ∀ x ∈ xs, prS X.K H (k x) x := fun x m => prK_ok (prS_mem hx x m)
  have hkm : xs.map k = ps := prS_map inj hx hk
  obtain ⟨e1, e2⟩ := refs_back rv fun x m => by
    obtain ⟨t, e, _⟩ := hk x m
    exact ⟨t, e⟩
  refine SrtO.sorted_pairsO (k := fun u => k (backV u)) hl.isList (by rw [← rv.length]; exact hz) (fun v hv => ?_) fun h' d out h1 h2 kp hd hn => ?_
  · obtain ⟨t, rfl⟩ := e2 v hv
    have hm : V.ref t ∈ xs := by rw [e1]; exact List.mem_map.mpr ⟨_, hv, rfl⟩
    obtain ⟨t', e, ht⟩ := hk _ hm
    cases e
    obtain ⟨its2, r2, ⟨o, ho, hc, n, hd⟩, _⟩ := I.tuple ht
    obtain ⟨u1, u2, rfl, ri, rj⟩ := vals2 r2
    obtain ⟨t1, rfl⟩ := ri
    obtain ⟨t2, rfl⟩ := rj
    exact ⟨t, o, t1, t2, n, rfl, ho, hc, hd⟩
  · have h3 : ∀ u ∈ out, ∃ a, u = Value.ref a := fun u hu => e2 u (h2.perm.mem_iff.mp hu)
    obtain ⟨n, hn⟩ := hn
    have hb : SrtO.Stb (ltP k) (out.map backV) xs := by
      rw [e1]
      exact SrtO.Stb.map (ltP_swo k) backV h2
    have hs : SrtO.Srtd (ltP k) (out.map backV) := SrtO.srtd_map h1
    refine ⟨.ref d, upd H d (.lst (out.map backV)), I.laid (t' := s.toks) kp hd ⟨?_, out, n, vals_back h3, hn⟩, rfl, q (out.map backV) ((out.map backV).map k) d (prS_all fun y hy => hk y (hb.perm.mem_iff.mp hy)) (by rw [← hkm]; exact hb.perm.map k) ?_ (I.hok.fresh hd)⟩
    · rw [hb.len]
      exact hz
    · refine List.pairwise_map.mpr (List.Pairwise.imp (fun {a b} h => ?_) hs)
      have := SrtO.lexB_no.mp h
      omega
def rSortU (K : PySem.W.Frag) : List V → Hp → VK → Prop := fun vs H Q => rSortedI K vs H Q ∨ rSortedS K vs H Q ∨ rSortedPT K vs H Q ∨ rSortDn vs H Q
theorem f_sorted (hc : c.hot = false := by rfl) : BFn c "sorted" "sorted" (rSortU c.K) := ⟨by decide +kernel, fun X h => by
  have := CallR.or (cr_sortedI (X := X)) (CallR.or (cr_sortedS (X := X)) (CallR.or (cr_sortedPT (X := X)) (sort_dict (X := X) (h.calm hc))))
  rw [h.hK] at this
  exact this, by decide, by decide⟩
theorem f_sum (hc : c.hot = false := by rfl) : BFn c "sum" "sum" (rSum c.K) := ⟨by decide +kernel, fun X h => by
  have := cr_sum (X := X) (h.calm hc)
  rw [h.hK] at this
  exact this, by decide, by decide⟩
theorem f_max1 (hc : c.hot = false := by rfl) : BFn c "max" "max" (rMax c.K) := ⟨by decide +kernel, fun X h => by
  have := cr_max (X := X) (h.calm hc)
  rw [h.hK] at this
  exact this, by decide, by decide⟩
theorem f_min1 (hc : c.hot = false := by rfl) : BFn c "min" "min" (rMin c.K) := ⟨by decide +kernel, fun X h => by
  have := cr_min (X := X) (h.calm hc)
  rw [h.hK] at this
  exact this, by decide, by decide⟩
/-- list(a list | a tuple | a dict) -/
def rListU (K : PySem.W.Frag) : List V → Hp → VK → Prop := fun xs H Q => (∃ p ys, xs = [.ref p] ∧ (SqL K H p ys ∨ SqT K H p ys) ∧ ∀ l, H l = none → Q (.ref l) (upd H l (.lst ys))) ∨
  ∃ (a : Addr) (kvs : List (Key × V)), xs = [.ref a] ∧ Rd H a (.dK kvs) ∧ ∀ p, H p = none → Q (.ref p) (upd H p (.lst (kvs.map fun q => kV q.1)))
theorem y_list (hc : c.hot = false := by rfl) : BTy c "list" "list" (rListU c.K) := ⟨by decide +kernel, fun X h => by
  have := CallR.or (call_list_of (X := X)) (call_listD (X := X) (h.calm hc))
  rw [h.hK] at this
  exact this, by decide, by decide⟩
theorem y_dict : BTy c "dict" "dict" (fun xs H Q => ∃ (a : Addr) (kvs : List (Key × V)), xs = [.ref a] ∧ Rd H a (.dK kvs) ∧ ∀ p, H p = none → Q (.ref p) (upd H p (.dK kvs))) := ⟨by decide +kernel, fun X h => call_dictD, by decide, by decide⟩
theorem y_tuple : BTy c "tuple" "tuple" (fun xs H Q => ∃ p ys, xs = [.ref p] ∧ ((SqL c.K H p ys ∧ ∀ l, H l = none → Q (.ref l) (upd H l (.tup ys))) ∨ (SqT c.K H p ys ∧ Q (.ref p) H))) := ⟨by decide +kernel, fun X h => by
  have := call_tuple_of (X := X)
  rw [h.hK] at this
  exact this, by decide, by decide⟩
end
end Rw

namespace Rw
open PySem PySem.Spec PyProof.Rows L2
/-! ### max(xs, default=d) -/
section
variable {prog : Program} {w : World} {A : Around} {R : Result → Shared → Prop} {I S : Addr} {fp wr : List Addr} {n : Nat} {P : Nat → Value → Prop} {St : Nat → Heap → Prop} {kw : List (Str × Value)}
abbrev loopAt (I S : Addr) (kw : List (Str × Value)) : Code := .builtin "max.loop" ⟨[.ref I, .none, .ref S], kw⟩
theorem upd_else {h : Heap} {f : Obj → Obj} {b : Addr} {o : Obj} (n : b ≠ S) (e : h.get? b = some o) : (h.update S f).get? b = some o := (Heap.get?_update_other _ _ (Ne.symm n)).trans e
abbrev MxEnd (n : Nat) (P : Nat → Value → Prop) (bt : Nat → Nat → Bool) (wr : List Addr) (S : Addr) (R : Result → Shared → Prop) (s : Shared) : Prop :=
  ∀ v h' tk, P (argBest bt (n - 1)) v → (∀ b o, b ∉ wr → b ≠ S → s.heap.get? b = some o → h'.get? b = some o) → R (.ok (.ret v)) { s with heap := h', toks := tk }
theorem max_more (W : Walks prog w A.in1 I fp wr n P St) (bt : Nat → Nat → Bool) (cmp : CmpOf prog w A.in1 .Gt P bt) (hSf : S ∉ fp) : ∀ (k j : Nat) (s : Shared) (vb : Value) (c : Nat), n - (j + 1) = k → j + 1 ≤ n → St (j + 1) s.heap → P (argBest bt j) vb →
    s.heap.get? S = some { cls := .type "list", dict := none, data := .seq #[vb, vb] c, slots := #[] } → MxEnd n P bt wr S R s → codeAny (model prog w) A (loopAt I S kw) R s := by
  have nS : S ∉ wr := fun h => hSf (W.sub _ h)
  have nm : (toString "max" ++ toString ".loop" : String) = "max.loop" := by decide
  intro k
  induction k with
  | zero =>
    intro j s vb c hk hj hst hPb hS hR
    have jn : j + 1 = n := by omega
    apply codeAny_builtin F.entry_max_loop
    rw [Around.under_plainId F.plain_max_loop _]
    show wpAny _ A.in1 (seqItems? (.ref S) >>= _) _ _ s
    apply wpAny_bind
    apply wpAny_seqItems hS rfl
    show wpAny _ A.in1 (tryCatch (pyNext (.ref I)) _ >>= _) _ _ s
    apply wpAny_bind
    refine wpAny_tryCatch (W.done s _ _ (jn ▸ hst) fun h' tk old => ?_)
    have hS2 := old S _ nS hS
    show wpAny _ A.in1 (updateSeq S (fun _ => #[]) >>= _) _ _ _
    apply wpAny_bind
    apply wpAny_updateSeq hS2 rfl
    apply wpAny_bind
    apply wpAny_letGo
    apply wpAny_pure
    refine hR vb _ tk ?_ fun b o w1 w2 e => upd_else w2 (old b o w1 e)
    rw [← jn]
    exact hPb
  | succ k ih =>
    intro j s vb c hk hj hst hPb hS hR
    have jn : j + 1 < n := by omega
    apply codeAny_builtin F.entry_max_loop
    rw [Around.under_plainId F.plain_max_loop _]
    show wpAny _ A.in1 (seqItems? (.ref S) >>= _) _ _ s
    apply wpAny_bind
    apply wpAny_seqItems hS rfl
    show wpAny _ A.in1 (tryCatch (pyNext (.ref I)) _ >>= _) _ _ s
    apply wpAny_bind
    refine wpAny_tryCatch (W.item (j + 1) s _ _ jn hst fun v h' tk hP hst' old => ?_)
    have hS2 := old S _ nS hS
    show wpAny _ A.in1 (tryCatch (holding [v, v] (richCompare .Gt v vb >>= _)) _ >>= _) _ _ _
    apply wpAny_bind
    apply wpAny_tryCatch
    apply wpAny_holding
    apply wpAny_bind
    refine cmp (j + 1) (argBest bt j) v vb _ _ _ hP hPb ?_
    apply wpAny_bind
    apply wpAny_holding
    apply wpAny_truthy_bool
    apply wpAny_bind
    apply wpAny_letGo
    apply wpAny_pure
    rcases hb : bt (j + 1) (argBest bt j) with _ | _
    · simp only [Bool.false_eq_true, if_false]
      apply wpAny_bind
      apply wpAny_letGo
      rw [nm]
      refine wpAny_pure ⟨plainId_quiet F.plain_max_loop _, ih (j + 1) _ vb c (by omega) jn hst' ?_ hS2 fun v' g t p o => hR v' g t p fun b u w1 w2 e => o b u w1 w2 (old b u w1 e)⟩
      simp only [argBest, hb, Bool.false_eq_true, if_false]
      exact hPb
    · simp only [if_true]
      apply wpAny_bind
      apply wpAny_updateSeq hS2 rfl
      apply wpAny_bind
      apply wpAny_letGo
      rw [nm]
      refine wpAny_pure ⟨plainId_quiet F.plain_max_loop _, ih (j + 1) _ v _ (by omega) jn (W.frame _ _ _ hst' fun b bf o e => upd_else (fun h => hSf (by rw [← h] <;> exact bf)) e) ?_ (Heap.get?_update_self _ hS2 rfl) fun v' g t p o => hR v' g t p fun b u w1 w2 e => o b u w1 w2 (upd_else w2 (old b u w1 e))⟩
      simp only [argBest, hb, if_true]
      exact hP
theorem max_first (W : Walks prog w A.in1 I fp wr n P St) (bt : Nat → Nat → Bool) (cmp : CmpOf prog w A.in1 .Gt P bt) (hSf : S ∉ fp) (hn : 0 < n) {s : Shared} {c : Nat} (hst : St 0 s.heap)
    (hS : s.heap.get? S = some { cls := .type "list", dict := none, data := .seq #[] c, slots := #[] }) (hR : MxEnd n P bt wr S R s) : codeAny (model prog w) A (loopAt I S kw) R s := by
  have nS : S ∉ wr := fun h => hSf (W.sub _ h)
  have nm : (toString "max" ++ toString ".loop" : String) = "max.loop" := by decide
  apply codeAny_builtin F.entry_max_loop
  rw [Around.under_plainId F.plain_max_loop _]
  show wpAny _ A.in1 (seqItems? (.ref S) >>= _) _ _ s
  apply wpAny_bind
  apply wpAny_seqItems hS rfl
  show wpAny _ A.in1 (tryCatch (pyNext (.ref I)) _ >>= _) _ _ s
  apply wpAny_bind
  refine wpAny_tryCatch (W.item 0 s _ _ hn hst fun v h' tk hP hst' old => ?_)
  have hS2 := old S _ nS hS
  show wpAny _ A.in1 (updateSeq S (fun _ => #[v, v]) >>= _) _ _ _
  apply wpAny_bind
  apply wpAny_updateSeq hS2 rfl
  rw [nm]
  exact wpAny_pure ⟨plainId_quiet F.plain_max_loop _, max_more W bt cmp hSf _ 0 _ v _ rfl hn (W.frame _ _ _ hst' fun b bf o e => upd_else (fun h => hSf (by rw [← h] <;> exact bf)) e) hP (Heap.get?_update_self _ hS2 rfl) fun v' g t p o => hR v' g t p fun b u w1 w2 e => o b u w1 w2 (upd_else w2 (old b u w1 e))⟩
/-- of none: the default -/
theorem max_none {d : Value} (W : Walks prog w A.in1 I fp wr 0 P St) (hSf : S ∉ fp) {s : Shared} {c : Nat} (hst : St 0 s.heap)
    (hS : s.heap.get? S = some { cls := .type "list", dict := none, data := .seq #[] c, slots := #[] }) (hR : ∀ h' tk, (∀ b o, b ∉ wr → s.heap.get? b = some o → h'.get? b = some o) → R (.ok (.ret d)) { s with heap := h', toks := tk }) :
    codeAny (model prog w) A (loopAt I S [("default", d)]) R s := by
  apply codeAny_builtin F.entry_max_loop
  rw [Around.under_plainId F.plain_max_loop _]
  show wpAny _ A.in1 (seqItems? (.ref S) >>= _) _ _ s
  apply wpAny_bind
  apply wpAny_seqItems hS rfl
  show wpAny _ A.in1 (tryCatch (pyNext (.ref I)) _ >>= _) _ _ s
  apply wpAny_bind
  refine wpAny_tryCatch (W.done s _ _ hst fun h' tk old => ?_)
  exact wpAny_bind (wpAny_rule (wpAny_pure (hR h' tk old)))
end
/-! ### min of pairs of ints -/
section
variable {prog : Program} {w : World} {A : Around} {R : Result → Shared → Prop} {I S : Addr} {fp wr : List Addr} {n : Nat} {P : Nat → Value → Prop} {St : Nat → Heap → Prop} {kw : List (Str × Value)}
abbrev loopMn (I S : Addr) (kw : List (Str × Value)) : Code := .builtin "min.loop" ⟨[.ref I, .none, .ref S], kw⟩
abbrev MnEnd (n : Nat) (P : Nat → Value → Prop) (bt : Nat → Nat → Bool) (wr : List Addr) (S : Addr) (R : Result → Shared → Prop) (s : Shared) : Prop :=
  ∀ v h' tk, P (argBest bt (n - 1)) v → (∀ b o, b ∉ wr → b ≠ S → s.heap.get? b = some o → h'.get? b = some o) → R (.ok (.ret v)) { s with heap := h', toks := tk }
theorem min_more (W : Walks prog w A.in1 I fp wr n P St) (bt : Nat → Nat → Bool) (G : Heap → Prop) (cmp : ∀ i j vi vj (s : Shared) (Q E : Value → Shared → Prop), G s.heap → P i vi → P j vj → Q (.bool (bt i j)) s → wpAny (model prog w) A.in1 (richCompare .Lt vi vj) Q E s) (gk : ∀ h h' : Heap, (∀ b o, b ∉ wr → b ≠ S → h.get? b = some o → h'.get? b = some o) → G h → G h') (hSf : S ∉ fp) : ∀ (k j : Nat) (s : Shared) (vb : Value) (c : Nat), n - (j + 1) = k → j + 1 ≤ n → G s.heap → St (j + 1) s.heap → P (argBest bt j) vb →
    s.heap.get? S = some { cls := .type "list", dict := none, data := .seq #[vb, vb] c, slots := #[] } → MnEnd n P bt wr S R s → codeAny (model prog w) A (loopMn I S kw) R s := by
  have nS : S ∉ wr := fun h => hSf (W.sub _ h)
  have nm : (toString "min" ++ toString ".loop" : String) = "min.loop" := by decide
  intro k
  induction k with
  | zero =>
    intro j s vb c hk hj gs hst hPb hS hR
    have jn : j + 1 = n := by omega
    apply codeAny_builtin F.entry_min_loop
    rw [Around.under_plainId F.plain_min_loop _]
    show wpAny _ A.in1 (seqItems? (.ref S) >>= _) _ _ s
    apply wpAny_bind
    apply wpAny_seqItems hS rfl
    show wpAny _ A.in1 (tryCatch (pyNext (.ref I)) _ >>= _) _ _ s
    apply wpAny_bind
    refine wpAny_tryCatch (W.done s _ _ (jn ▸ hst) fun h' tk old => ?_)
    have hS2 := old S _ nS hS
    show wpAny _ A.in1 (updateSeq S (fun _ => #[]) >>= _) _ _ _
    apply wpAny_bind
    apply wpAny_updateSeq hS2 rfl
    apply wpAny_bind
    apply wpAny_letGo
    apply wpAny_pure
    refine hR vb _ tk ?_ fun b o w1 w2 e => upd_else w2 (old b o w1 e)
    rw [← jn]
    exact hPb
  | succ k ih =>
    intro j s vb c hk hj gs hst hPb hS hR
    have jn : j + 1 < n := by omega
    apply codeAny_builtin F.entry_min_loop
    rw [Around.under_plainId F.plain_min_loop _]
    show wpAny _ A.in1 (seqItems? (.ref S) >>= _) _ _ s
    apply wpAny_bind
    apply wpAny_seqItems hS rfl
    show wpAny _ A.in1 (tryCatch (pyNext (.ref I)) _ >>= _) _ _ s
    apply wpAny_bind
    refine wpAny_tryCatch (W.item (j + 1) s _ _ jn hst fun v h' tk hP hst' old => ?_)
    have hS2 := old S _ nS hS
    show wpAny _ A.in1 (tryCatch (holding [v, v] (richCompare .Lt v vb >>= _)) _ >>= _) _ _ _
    apply wpAny_bind
    apply wpAny_tryCatch
    apply wpAny_holding
    apply wpAny_bind
    refine cmp (j + 1) (argBest bt j) v vb _ _ _ (gk _ h' (fun b o w1 _ e => old b o w1 e) gs) hP hPb ?_
    apply wpAny_bind
    apply wpAny_holding
    apply wpAny_truthy_bool
    apply wpAny_bind
    apply wpAny_letGo
    apply wpAny_pure
    rcases hb : bt (j + 1) (argBest bt j) with _ | _
    · simp only [Bool.false_eq_true, if_false]
      apply wpAny_bind
      apply wpAny_letGo
      rw [nm]
      refine wpAny_pure ⟨plainId_quiet F.plain_min_loop _, ih (j + 1) _ vb c (by omega) jn (gk _ h' (fun b o w1 _ e => old b o w1 e) gs) hst' ?_ hS2 fun v' g t p o => hR v' g t p fun b u w1 w2 e => o b u w1 w2 (old b u w1 e)⟩
      simp only [argBest, hb, Bool.false_eq_true, if_false]
      exact hPb
    · simp only [if_true]
      apply wpAny_bind
      apply wpAny_updateSeq hS2 rfl
      apply wpAny_bind
      apply wpAny_letGo
      rw [nm]
      refine wpAny_pure ⟨plainId_quiet F.plain_min_loop _, ih (j + 1) _ v _ (by omega) jn (gk _ _ (fun b o w1 w2 e => upd_else w2 (old b o w1 e)) gs) (W.frame _ _ _ hst' fun b bf o e => upd_else (fun h => hSf (by rw [← h] <;> exact bf)) e) ?_ (Heap.get?_update_self _ hS2 rfl) fun v' g t p o => hR v' g t p fun b u w1 w2 e => o b u w1 w2 (upd_else w2 (old b u w1 e))⟩
      simp only [argBest, hb, if_true]
      exact hP
theorem min_first (W : Walks prog w A.in1 I fp wr n P St) (bt : Nat → Nat → Bool) (G : Heap → Prop) (cmp : ∀ i j vi vj (s : Shared) (Q E : Value → Shared → Prop), G s.heap → P i vi → P j vj → Q (.bool (bt i j)) s → wpAny (model prog w) A.in1 (richCompare .Lt vi vj) Q E s) (gk : ∀ h h' : Heap, (∀ b o, b ∉ wr → b ≠ S → h.get? b = some o → h'.get? b = some o) → G h → G h') (hSf : S ∉ fp) (hn : 0 < n) {s : Shared} {c : Nat} (gs : G s.heap) (hst : St 0 s.heap)
    (hS : s.heap.get? S = some { cls := .type "list", dict := none, data := .seq #[] c, slots := #[] }) (hR : MnEnd n P bt wr S R s) : codeAny (model prog w) A (loopMn I S kw) R s := by
  have nS : S ∉ wr := fun h => hSf (W.sub _ h)
  have nm : (toString "min" ++ toString ".loop" : String) = "min.loop" := by decide
  apply codeAny_builtin F.entry_min_loop
  rw [Around.under_plainId F.plain_min_loop _]
  show wpAny _ A.in1 (seqItems? (.ref S) >>= _) _ _ s
  apply wpAny_bind
  apply wpAny_seqItems hS rfl
  show wpAny _ A.in1 (tryCatch (pyNext (.ref I)) _ >>= _) _ _ s
  apply wpAny_bind
  refine wpAny_tryCatch (W.item 0 s _ _ hn hst fun v h' tk hP hst' old => ?_)
  have hS2 := old S _ nS hS
  show wpAny _ A.in1 (updateSeq S (fun _ => #[v, v]) >>= _) _ _ _
  apply wpAny_bind
  apply wpAny_updateSeq hS2 rfl
  rw [nm]
  exact wpAny_pure ⟨plainId_quiet F.plain_min_loop _, min_more W bt G cmp gk hSf _ 0 _ v _ rfl hn (gk _ _ (fun b o w1 w2 e => upd_else w2 (old b o w1 e)) gs) (W.frame _ _ _ hst' fun b bf o e => upd_else (fun h => hSf (by rw [← h] <;> exact bf)) e) hP (Heap.get?_update_self _ hS2 rfl) fun v' g t p o => hR v' g t p fun b u w1 w2 e => o b u w1 w2 (upd_else w2 (old b u w1 e))⟩
end
end Rw
namespace Rw
open PySem PySem.Spec PyProof.Rows L2
theorem max_args_d (a v : Value) : argsOk "max" ⟨[a], [((("default" : Str)), v)]⟩ := by unfold argsOk; kernel_rfl
def rMaxD (K : PySem.W.Frag) : List V → List V → Hp → VK → Prop := fun xs zs H Q => ∃ (a : Addr) (ns : List Int) (d : V), xs = [.ref a] ∧ zs = [d] ∧ SqL K H a (ns.map V.int) ∧ (ns = [] → Q d H) ∧ ∀ m, m ∈ ns → (∀ y, y ∈ ns → y ≤ m) → Q (.int m) H
theorem max_dflt {X : Cx} (hc : X.calm = true) : CallRK X (.builtin "max") [("default" : Str)] (rMaxD X.K) := by
  rintro pins s σ H _ _ us ws Q I r rz ⟨a, ns, d, rfl, rfl, hs, q0, q1⟩
  obtain ⟨its, rv, hl, hz⟩ := I.list hs
  obtain ⟨u, rfl, rx⟩ := vals1 r
  obtain rfl : u = Value.ref a := rx
  obtain ⟨dv, rfl, rd⟩ := vals1 rz
  have hi := rv.ints
  have hlist := hl.isList
  refine kmb_tree F.kind_max F.plain_max F.entry_max (max_args_d _ _) ?_
  show wpAny _ X.A.in1 (Builtin.Builtins.bindParams "max" ["key", "default"] 0 ⟨[], [(("default" : Str), dv)]⟩ >>= _) _ _ s
  refine wpAny_bind (wpAny_of_eq (show Builtin.Builtins.bindParams "max" ["key", "default"] 0 ⟨[], [(("default" : Str), dv)]⟩ = pure [none, some dv] from rfl) ?_)
  apply wpAny_bind
  apply wpAny_pure
  apply wpAny_bind
  have alt : a < s.heap.objs.size := by obtain ⟨_, e, _⟩ := hlist; exact Heap.lt_size e
  refine wpAny_pyIter_list hlist ?_
  generalize hs2 : ({ s with heap := s.heap.push { cls := .type "list_iterator", data := .fields #[.ref a, .int 0 0] } } : Shared) = s2
  have h2 : s2.heap = s.heap.push { cls := .type "list_iterator", data := .fields #[.ref a, .int 0 0] } := by rw [← hs2]
  have sz2 : s2.heap.objs.size = s.heap.objs.size + 1 := by rw [h2] <;> exact Heap.size_push _ _
  have st2 : s2.heap.IsListIter s.heap.objs.size a 0 ∧ s2.heap.IsList a its.toArray := by
    rw [h2]
    exact ⟨⟨_, Heap.get?_push_size _ rfl, rfl, rfl⟩, hlist.push _⟩
  have old2 : ∀ b o, s.heap.get? b = some o → s2.heap.get? b = some o := fun b o e => by
    rw [h2]
    exact Heap.get?_push_of_some _ e
  apply wpAny_bind
  refine wpAny_newObj_type ?_
  have W := Walks.list (prog := X.prog) (w := X.w) (A := X.A.in1) (I.ok.hd hc) s.heap.objs.size a (Nat.ne_of_lt alt) its.toArray
  have nS : s2.heap.objs.size ∉ [s.heap.objs.size, a] := fun z => by
    rcases List.mem_cons.mp z with e | e
    · rw [sz2] at e
      exact absurd e (Nat.ne_of_gt (Nat.lt_succ_self _))
    · have e := List.mem_singleton.mp e
      rw [sz2] at e
      rw [← e] at alt
      exact absurd alt (Nat.not_lt.mpr (Nat.le_succ _))
  have nm : (toString "max" ++ toString ".loop" : String) = "max.loop" := by decide
  rw [nm]
  have st3 := W.frame 0 _ (s2.heap.push { cls := .type "list", dict := none, data := .seq #[], slots := #[] }) st2 fun b _ o e => Heap.get?_push_of_some _ e
  have keepI : ∀ (h' : Heap) (tk : Tok), (∀ b o, b ∉ [s.heap.objs.size] → b ≠ s2.heap.objs.size → (s2.heap.push { cls := .type "list", dict := none, data := .seq #[], slots := #[] }).get? b = some o → h'.get? b = some o) → Inv X pins σ H { s2 with heap := h', toks := tk } := fun h' tk k => by
    rw [← hs2]
    refine I.kept fun b o e => ?_
    have lt := Heap.lt_size e
    refine k b o (fun z => absurd (List.mem_singleton.mp z) (Nat.ne_of_lt lt)) (by rw [sz2] <;> exact Nat.ne_of_lt (Nat.lt_succ_of_lt lt)) (Heap.get?_push_of_some _ (old2 b o e))
  refine wpAny_pure ⟨plainId_quiet F.plain_max_loop _, ?_⟩
  match ns, hi, q0, q1, rv with
  | [], hi, q0, q1, rv =>
    have ei : its = [] := by
      have z := hi.length
      exact List.length_eq_zero_iff.mp (z.trans rfl)
    subst ei
    refine max_none W nS st3 (Heap.get?_push_size _ rfl) fun h' tk k => ?_
    exact ⟨d, H, keepI h' tk fun b o n1 _ e => k b o n1 e, rd, q0 rfl⟩
  | m :: ms, hi, q0, q1, rv =>
    have ln : its.length = (m :: ms).length := hi.length
    have val : ∀ i v, (its.toArray[i]? : Option Value) = some v → ∃ t, v = Value.int ((m :: ms).getD i 0) t := fun i v e => by
      have e' : its[i]? = some v := by simpa using e
      obtain ⟨x, ex, rx⟩ : ∃ x, ((m :: ms).map V.int)[i]? = some x ∧ RelV x v := by
        cases q : ((m :: ms).map V.int)[i]? with
        | none =>
          rw [rv.none_of q] at e'
          cases e'
        | some x =>
          obtain ⟨u, eu, ru⟩ := rv.get q
          rw [e'] at eu
          cases eu
          exact ⟨x, rfl, ru⟩
      rw [List.getElem?_map] at ex
      obtain ⟨j, ej, e2⟩ := Option.map_eq_some_iff.mp ex
      subst e2
      obtain ⟨t, e3⟩ := rx
      rw [List.getD_eq_getElem?_getD, ej]
      exact ⟨t, e3⟩
    refine max_first W _ (CmpOf.ints_gt (fun i => (m :: ms).getD i 0) val) nS (by simp [ln]) st3 (Heap.get?_push_size _ rfl) fun v h' tk hP k => ?_
    obtain ⟨t, ev⟩ := val _ v hP
    obtain ⟨b1, b2⟩ := argBest_gt (fun i => (m :: ms).getD i 0) (its.toArray.size - 1)
    have sz : its.toArray.size - 1 = ms.length := by simp [ln]
    rw [sz] at b1 b2 ev
    refine ⟨.int _, H, keepI h' tk k, ⟨t, ev⟩, q1 _ ?_ fun y hy => ?_⟩
    · have lt : argBest (fun i j => decide ((m :: ms).getD i 0 > (m :: ms).getD j 0)) ms.length < (m :: ms).length := Nat.lt_succ_of_le b1
      rw [List.getD_eq_getElem?_getD, List.getElem?_eq_getElem lt]
      exact List.getElem_mem lt
    · obtain ⟨j, hj, e⟩ := List.mem_iff_getElem.mp hy
      have e2 : (m :: ms).getD j 0 = y := by
        rw [List.getD_eq_getElem?_getD, List.getElem?_eq_getElem hj, e]
        rfl
      rw [← e2]
      exact b2 j (Nat.le_of_lt_succ hj)
/-- min(xs), xs a list of pairs of ints (k says which), one at least: the first of the least -/
def rMinP (K : PySem.W.Frag) : List V → Hp → VK → Prop := fun vs H Q => ∃ (a : Addr) (xs : List V) (k : Nat → Int × Int), vs = [V.ref a] ∧ SqL K H a xs ∧ xs ≠ [] ∧ (∀ i x, xs[i]? = some x → ∃ t, x = V.ref t ∧ SqT K H t [.int (k i).1, .int (k i).2]) ∧
  ∀ i m, xs[i]? = some m → (∀ j, j < xs.length → ¬ ((k j).1 < (k i).1 ∨ ((k j).1 = (k i).1 ∧ (k j).2 < (k i).2))) → Q m H
theorem best_lex (k : Nat → Int × Int) : ∀ n, argBest (fun i j => SrtO.lexB (k i) (k j)) n ≤ n ∧ ∀ j, j ≤ n → SrtO.lexB (k j) (k (argBest (fun i j => SrtO.lexB (k i) (k j)) n)) = false
  | 0 => ⟨Nat.le_refl _, fun j hj => by
    have e : j = 0 := Nat.le_zero.mp hj
    subst e
    show SrtO.lexB (k 0) (k 0) = false
    exact SrtO.lexB_no.mpr (by omega)⟩
  | n + 1 => by
    obtain ⟨h1, h2⟩ := best_lex k n
    rcases hb : SrtO.lexB (k (n + 1)) (k (argBest (fun i j => SrtO.lexB (k i) (k j)) n)) with _ | _
    · have e : argBest (fun i j => SrtO.lexB (k i) (k j)) (n + 1) = argBest (fun i j => SrtO.lexB (k i) (k j)) n := by
        show (if _ then _ else _) = _
        rw [if_neg (fun z => by have z : SrtO.lexB (k (n + 1)) (k (argBest (fun i j => SrtO.lexB (k i) (k j)) n)) = true := z; rw [hb] at z; cases z)]
      rw [e]
      refine ⟨Nat.le_succ_of_le h1, fun j hj => ?_⟩
      rcases Nat.lt_or_eq_of_le hj with lt | e
      · exact h2 j (Nat.le_of_lt_succ lt)
      · subst e
        exact hb
    · have e : argBest (fun i j => SrtO.lexB (k i) (k j)) (n + 1) = n + 1 := by
        show (if _ then _ else _) = _
        rw [if_pos hb]
      rw [e]
      refine ⟨Nat.le_refl _, fun j hj => ?_⟩
      rcases Nat.lt_or_eq_of_le hj with lt | e
      · have q := SrtO.lexB_no.mp (h2 j (Nat.le_of_lt_succ lt))
        have b := SrtO.lexB_iff.mp hb
        refine SrtO.lexB_no.mpr ?_
        omega
      · subst e
        exact SrtO.lexB_no.mpr (by omega)
theorem min_pairs {X : Cx} (hc : X.calm = true) (hu : X.A.units + 1 < cLine) : CallR X (.builtin "min") (rMinP X.K) := by
  rintro pins s σ H _ us Q I r ⟨a, xs, k, rfl, hs, hne, hx, q⟩
  obtain ⟨its, rv, hl, hz⟩ := I.list hs
  obtain ⟨u, rfl, rx⟩ := vals1 r
  obtain rfl : u = Value.ref a := rx
  have hlist := hl.isList
  have ln : xs.length = its.length := rv.length
  let kn : Nat → Int × Int := k
  have pr : ∀ i v, (its.toArray[i]? : Option Value) = some v → ∃ t y1 y2, v = Value.ref t ∧ IsTup s.heap t #[y1, y2] ∧ (∃ t1, y1 = Value.int (kn i).1 t1) ∧ ∃ t2, y2 = Value.int (kn i).2 t2 := fun i v e => by
    have e' : its[i]? = some v := by simpa using e
    obtain ⟨x, ex, rx⟩ : ∃ x, xs[i]? = some x ∧ RelV x v := by
      cases q : xs[i]? with
      | none =>
        rw [rv.none_of q] at e'
        cases e'
      | some x =>
        obtain ⟨u, eu, ru⟩ := rv.get q
        rw [e'] at eu
        cases eu
        exact ⟨x, rfl, ru⟩
    obtain ⟨t, et, ht⟩ := hx i x ex
    subst et
    obtain rfl : v = Value.ref t := rx
    obtain ⟨its2, r2, it2, _⟩ := I.tuple ht
    obtain ⟨u1, u2, rfl, ri, rj⟩ := vals2 r2
    exact ⟨t, u1, u2, rfl, it2, ri, rj⟩
  refine call_function_tree F.kind_min F.plain_min F.entry_min (F.args_min1 _) ?_
  show wpAny _ X.A.in1 (Builtin.Builtins.bindParams "min" ["key", "default"] 0 ⟨[], []⟩ >>= _) _ _ s
  apply wpAny_bind
  refine wpAny_of_eq (show Builtin.Builtins.bindParams "min" ["key", "default"] 0 ⟨[], []⟩ = pure [none, none] from rfl) ?_
  apply wpAny_bind
  apply wpAny_pure
  apply wpAny_bind
  have alt : a < s.heap.objs.size := by obtain ⟨_, e, _⟩ := hlist; exact Heap.lt_size e
  refine wpAny_pyIter_list hlist ?_
  generalize hs2 : ({ s with heap := s.heap.push { cls := .type "list_iterator", data := .fields #[.ref a, .int 0 0] } } : Shared) = s2
  have h2 : s2.heap = s.heap.push { cls := .type "list_iterator", data := .fields #[.ref a, .int 0 0] } := by rw [← hs2]
  have sz2 : s2.heap.objs.size = s.heap.objs.size + 1 := by rw [h2] <;> exact Heap.size_push _ _
  have st2 : s2.heap.IsListIter s.heap.objs.size a 0 ∧ s2.heap.IsList a its.toArray := by
    rw [h2]
    exact ⟨⟨_, Heap.get?_push_size _ rfl, rfl, rfl⟩, hlist.push _⟩
  have old2 : ∀ b o, s.heap.get? b = some o → s2.heap.get? b = some o := fun b o e => by
    rw [h2]
    exact Heap.get?_push_of_some _ e
  apply wpAny_bind
  refine wpAny_newObj_type ?_
  have W := Walks.list (prog := X.prog) (w := X.w) (A := X.A.in1) (I.ok.hd hc) s.heap.objs.size a (Nat.ne_of_lt alt) its.toArray
  have nS : s2.heap.objs.size ∉ [s.heap.objs.size, a] := fun z => by
    rcases List.mem_cons.mp z with e | e
    · rw [sz2] at e
      exact absurd e (Nat.ne_of_gt (Nat.lt_succ_self _))
    · have e := List.mem_singleton.mp e
      rw [sz2] at e
      rw [← e] at alt
      exact absurd alt (Nat.not_lt.mpr (Nat.le_succ _))
  have nm : (toString "min" ++ toString ".loop" : String) = "min.loop" := by decide
  rw [nm]
  have st3 := W.frame 0 _ (s2.heap.push { cls := .type "list", dict := none, data := .seq #[], slots := #[] }) st2 fun b _ o e => Heap.get?_push_of_some _ e
  let G : Heap → Prop := fun h => ∀ b o, s.heap.get? b = some o → h.get? b = some o
  have lts : ∀ {b : Addr} {o : Obj}, s.heap.get? b = some o → b ∉ [s.heap.objs.size] ∧ b ≠ s2.heap.objs.size := fun e => by
    have lt := Heap.lt_size e
    exact ⟨fun z => absurd (List.mem_singleton.mp z) (Nat.ne_of_lt lt), by rw [sz2] <;> exact Nat.ne_of_lt (Nat.lt_succ_of_lt lt)⟩
  have cmp : ∀ i j vi vj (s' : Shared) (Q E : Value → Shared → Prop), G s'.heap → (its.toArray[i]? : Option Value) = some vi → (its.toArray[j]? : Option Value) = some vj → Q (.bool (SrtO.lexB (kn i) (kn j))) s' → wpAny (model X.prog X.w) X.A.in1 (richCompare .Lt vi vj) Q E s' := by
    intro i j vi vj s' Q E g hi hj hq
    obtain ⟨t, y1, y2, rfl, ht, ⟨t1, e1⟩, ⟨t2, e2⟩⟩ := pr i vi hi
    obtain ⟨t', z1, z2, rfl, ht', ⟨t3, e3⟩, ⟨t4, e4⟩⟩ := pr j vj hj
    subst e1 e2 e3 e4
    have up : ∀ {t : Addr} {vs : Array Value}, IsTup s.heap t vs → IsTup s'.heap t vs := fun ⟨o, ho, r⟩ => ⟨o, g _ _ ho, r⟩
    have lex : HT.lexLt [(kn i).1, (kn i).2] [(kn j).1, (kn j).2] = SrtO.lexB (kn i) (kn j) := by
      rw [HT.lexLt_cons, HT.lexLt_cons, HT.lexLt_nil_nil]
      unfold SrtO.lexB
      split
      · split
        · rename_i e
          rw [e]
          exact (decide_eq_false (Int.lt_irrefl _)).symm
        · rfl
      · rfl
    refine (HT.lt_tupInts (ns := [(kn i).1, (kn i).2]) (ms := [(kn j).1, (kn j).2]) (up ht) (up ht') (.cons _ _ (.cons _ _ .nil)) (.cons _ _ (.cons _ _ .nil)) hu ?_ : wpAny (model X.prog X.w) X.A.in1 (compareOp .Lt (.ref t) (.ref t')) Q E s')
    rw [lex]
    exact hq
  have pos : 0 < its.toArray.size := by
    rw [List.size_toArray, ← ln]
    exact List.length_pos_iff.mpr hne
  refine wpAny_pure ⟨plainId_quiet F.plain_min_loop _, min_first W _ G cmp (fun h h' kk g b o e => kk b o (lts e).1 (lts e).2 (g b o e)) nS pos (fun b o e => Heap.get?_push_of_some _ (old2 b o e)) st3 (Heap.get?_push_size _ rfl) fun v h' tk hP kk => ?_⟩
  obtain ⟨b1, b2⟩ := best_lex kn (its.toArray.size - 1)
  have lt : argBest (fun i j => SrtO.lexB (kn i) (kn j)) (its.toArray.size - 1) < xs.length := by
    rw [List.size_toArray] at b1 pos ⊢
    rw [ln]
    omega
  have ex : xs[argBest (fun i j => SrtO.lexB (kn i) (kn j)) (its.toArray.size - 1)]? = some xs[argBest (fun i j => SrtO.lexB (kn i) (kn j)) (its.toArray.size - 1)] := List.getElem?_eq_getElem lt
  obtain ⟨u, eu, ru⟩ := rv.get ex
  have ev : (its[argBest (fun i j => SrtO.lexB (kn i) (kn j)) (its.toArray.size - 1)]? : Option Value) = some v := by simpa using hP
  rw [ev] at eu
  cases eu
  refine ⟨_, H, ?_, ru, q _ _ ex fun j hj => ?_⟩
  · rw [← hs2]
    exact I.kept fun b o e => kk b o (lts e).1 (lts e).2 (Heap.get?_push_of_some _ (old2 b o e))
  · have z := b2 j (by rw [List.size_toArray, ← ln]; omega)
    exact SrtO.lexB_no.mp z
end Rw

namespace Rw
open PySem PySem.Spec PyProof.Rows L2
section
variable {c : Cn} {a b d e o : Expr} {es : List Expr} {kws : List Keyword} {ta tb te to : TE} {tA tK : TA} {pos apos mpos p pt : Pos} {x y z m : Str}
/-- len of an instance, by its own __len__ -/
def rLenOwn (c : Cn) : List V → Hp → VK → Prop := fun xs H Q => ∃ (d : Addr) (C : Str) (dx : Addr) (fs : List (Str × V)) (s : Shp), xs = [.ref d] ∧ H d = some (.ins (He.ga c.K C) dx fs) ∧ hasF (isMeth C "__len__") c.fa = true ∧ shpOf c.sh (C, some ("__len__" : Str)) 1 [] = some s ∧
  c.Ph s.key (plug c.K s.plan [.ref d] []) H (fun v H2 => ∃ n : Nat, v = .int n ∧ n < 2 ^ 63 ∧ Q (.int n) H2) (fun _ _ _ => False)
theorem in1_guards {A : Around} (h : A.guards = some []) : A.in1.guards = some [] := h
theorem len_inst (hc : c.hot = false) (X : Cx) (h : Bd c X) : CallR X (.builtin "len") (rLenOwn c) := by
  rintro pins st σ H _ us Q I r ⟨d, C, dx, fs, s, rfl, e, hm, hs, q⟩
  obtain ⟨u, rfl, ru⟩ := vals1 r
  obtain rfl : u = Value.ref d := ru
  obtain ⟨mem, ek, en, eks⟩ := shpOf_ok hs
  obtain ⟨k, room, all⟩ := h.fns hc
  obtain ⟨fd, ps, g, F, kb⟩ := (all s mem).ex
  have me := h.meth hm
  obtain ⟨mA, O, _⟩ := ins_get I.hok e
  obtain ⟨od, J, _⟩ := O.look
  have kin := I.kIn
  rw [h.hK] at kin
  have bt := kb.to st [Value.ref d] [] I.kIn (by rw [en] <;> rfl) (by rw [eks] <;> rfl)
  have e0 : [] = s.ks.zip ([] : List Value) := by rw [eks] <;> rfl
  have ef : He.fAd c.K s.key = He.ma c.K (He.ga c.K C) "__len__" := by rw [ek] <;> rfl
  have room1 : Room k X.A.in1 := room.in1
  have run := F.run X.A.in1 X.stack st H ⟨[Value.ref d], s.ks.zip []⟩ _ _ _ (fun _ _ _ => False) room1 (in1_guards h.gu) I.env0.in1 bt (kb.rel (.cons (show L2.RelV (V.ref d) (Value.ref d) from rfl) .nil) .nil) q
  rw [ef, ← e0] at run
  refine Calls.call_function_entry kind_len plain_len entry_len (args_len1 _) ?_
  unfold Builtin.«len»
  apply wpAny_bind (m := oneArg "len" _)
  apply wpAny_pure
  apply wpAny_bind (m := callSpecial? (.ref d) (Str.ofString "__len__"))
  refine PySem.W.special_fn kin J me.at_ (beq_iff_eq.mp me.fn) (wpAny_call (codeAny_mono run fun res s2 zz => ?_))
  cases res with
  | error er =>
    obtain ⟨_, _, _, _, _, _, _, _, _, _, _, _, _, _, _, _, zz⟩ := zz
  | ok fl =>
    cases fl with
    | next => exact zz.elim
    | brk => exact zz.elim
    | cont => exact zz.elim
    | ret u =>
      obtain ⟨v, H3, I3, rv, n, ev, hn, q3⟩ := I.after zz
      subst ev
      obtain ⟨t, rfl⟩ := rv
      apply wpAny_bind
      apply wpAny_holding
      apply wpAny_pure
      apply wpAny_bind
      apply wpAny_letGo
      show wpAny _ _ (if ((n : Nat) : Int) < 0 then _ else _) _ _ _
      rw [if_neg (by omega)]
      show wpAny _ _ (if ((n : Nat) : Int) ≥ 2 ^ 63 then _ else _) _ _ _
      rw [if_neg (by omega)]
      apply wpAny_bind
      apply wpAny_mkInt
      exact wpAny_pure ⟨_, rfl, .int n, H3, I3.tok _, ⟨_, rfl⟩, q3⟩
theorem f_lenO (hc : c.hot = false := by rfl) : BFn c "len" "len" (rLenOwn c) := ⟨by decide +kernel, fun X h => len_inst hc X h, by decide, by decide⟩
/-- max(xs, default=d) -/
theorem g_maxD {kw : Keyword} (ha : GA c (e :: es) tA) (hk : GK c [kw] tK) (hc : c.hot = false := by rfl) (hg : GlN c "max" := by rfl) (hf : hasF (isFree "max") c.fa = true := by rfl)
    (he : ∀ env, backTo pos (starEach (e :: es) env) = (false, eval e env) :: backTo pos (starEach es env) := by intro _; rfl) (hpl : ∀ env, (backTo pos (starEach (e :: es) env)).any (·.1) = false := by intro _; rfl)
    (hall : ∀ env, (backToKw pos (keywordEach [kw] env)).all (·.1.isSome) = true := by intro _; rfl) (hno : ∀ env, (backToKw pos (keywordEach [kw] env)).any (·.1.isNone) = false := by intro _; rfl) (hks : ∀ env, (backToKw pos (keywordEach [kw] env)).filterMap (·.1) = [("default" : Str)] := by intro _; rfl) :
    GE c (.Call (.Name "max" p) (e :: es) [kw] pos) (tCKw (rMaxD c.K) tA tK) := fun X h => by
  have := pe_callBK (pos := pos) (p := p) (max_dflt (X := X) (h.calm hc)) (h.gln hg) (h.free hf) (by decide +kernel) (ha X h) (hk X h) (by decide) (by decide) (he X.env) (hpl X.env) (hall X.env) (hno X.env) (hks X.env)
  rw [h.hK] at this
  exact this
def rMinU (K : PySem.W.Frag) : List V → Hp → VK → Prop := fun xs H Q => rMin K xs H Q ∨ rMinP K xs H Q
theorem f_minU (hc : c.hot = false := by rfl) : BFn c "min" "min" (rMinU c.K) := ⟨by decide +kernel, fun X h => by
  have := CallR.or (cr_min (X := X) (h.calm hc)) (min_pairs (X := X) (h.calm hc) (by have := h.un; omega))
  rw [h.hK] at this
  exact this, by decide, by decide⟩
/-- a, b, c = e1, e2, e3 -/
theorem gs_par3 {e1 e2 e3 : Expr} {t1 t2 t3 : TE} {px py pz : Pos} {kt k2 pt2} (i j l : Nat) (h1 : GE c e1 t1) (h2 : GE c e2 t2) (h3 : GE c e3 t3) (hi : c.N[i]? = some x := by rfl) (hj : c.N[j]? = some y := by rfl) (hl : c.N[l]? = some z := by rfl) (hij : i ≠ j := by decide) (hil : i ≠ l := by decide) (hjl : j ≠ l := by decide)
    (hc : c.hot = false := by rfl) (hx : c.sc.names.lookup x = some .local := by rfl) (hy : c.sc.names.lookup y = some .local := by rfl) (hz : c.sc.names.lookup z = some .local := by rfl)
    (hw : ∀ env, env.scope = c.sc → swappedStores [.Tuple [.Name x px, .Name y py, .Name z pz] kt pt] (.Tuple [e1, e2, e3] k2 pt2) env = pure (some [x, y, z]) := by exact fun _ h => (sw_at h).trans rfl)
    (hs : ∀ env, swapsWithSole [.Tuple [.Name x px, .Name y py, .Name z pz] kt pt] (.Tuple [e1, e2, e3] k2 pt2) pos.line env = pure false := by intro _; rfl)
    (s1 : ∀ env, starEach [e1, e2, e3] env = (false, eval e1 env) :: starEach [e2, e3] env := by intro _; rfl) (s2 : ∀ env, starEach [e2, e3] env = (false, eval e2 env) :: starEach [e3] env := by intro _; rfl) (s3 : ∀ env, starEach [e3] env = (false, eval e3 env) :: starEach [] env := by intro _; rfl) :
    GS c (.Assign [.Tuple [.Name x px, .Name y py, .Name z pz] kt pt] (.Tuple [e1, e2, e3] k2 pt2) pos) (tPar3 i j l (tCons t1 (tCons t2 (tCons t3 tNil)))) := fun X h =>
  ps_par3 (h.calm hc) (by rw [h.hN]; exact h.nd) (by rw [h.hN]; exact hi) (by rw [h.hN]; exact hj) (by rw [h.hN]; exact hl) hij hil hjl (by rw [h.hsc]; exact hx) (by rw [h.hsc]; exact hy) (by rw [h.hsc]; exact hz)
    (pa_cons (h1 X h) (pa_cons (h2 X h) (pa_cons (h3 X h) pa_nil (s3 X.env)) (s2 X.env)) (s1 X.env)) (hw X.env h.hsc) (hs X.env)
end
section
variable {K : PySem.W.Frag} {H : Hp} {Q : VK}
theorem v_sortU {d : Addr} {kvs : List (Key × V)} {ks : List Int} (e : Rd H d (.dK kvs)) (hk : kvs.map (·.1) = ks.map Sum.inl) (h : ∀ (ys : List Int) (p : Addr) (H2 : Hp), ys.Perm ks → ys.Pairwise (· ≤ ·) → H p = none → Ext noM H H2 → H2 p = some (.lst (ys.map V.int)) → Q (.ref p) H2) : rSortU K [.ref d] H Q := .inr (.inr (.inr (v_sortD e hk h)))
theorem v_sumD {te : TE} {σ : L2.St} (h : te σ H fun x H1 => ∃ (a : Addr) (kvs : List (Key × V)) (ns : List Int), x = V.ref a ∧ Rd H1 a (.dK kvs) ∧ kvs.map (·.2) = ns.map V.int ∧ Q (.int ns.sum) H1) : tSumVals te σ H Q := h
theorem v_maxD {a : Addr} {ns : List Int} {d : V} (e : H a = some (.lst (ns.map V.int))) (h0 : ns = [] → Q d H) (h : ∀ m, m ∈ ns → (∀ y, y ∈ ns → y ≤ m) → Q (.int m) H) : rMaxD K [.ref a] [d] H Q := ⟨a, ns, d, rfl, rfl, .inl (.inl e), h0, h⟩
theorem e_ckw {r : List V → List V → Hp → VK → Prop} {t tk : TA} {σ : L2.St} (h : t σ H fun vs H1 => tk σ H1 fun zs H2 => r vs zs H2 Q) : tCKw r t tk σ H Q := h
end
section
variable {K : PySem.W.Frag} {H : Hp} {Q : VK}
theorem x_putD {d : Addr} {kvs : List (Key × V)} (k : Key) {v : V} {Qh : Hp → Prop} (e : H d = some (.dK kvs)) (z : kvs.length < sizeLine) (h : ∀ H2, Ext (at1 d) H H2 → H2 d = some (.dK (putK kvs k v)) → Qh H2) : rPutU (.ref d) (kV k) v H Qh :=
  .inr ⟨d, _, rfl, DPut.k e z, h _ (Ext.set rfl) upd_same⟩
theorem j_rng2 {i j : Int} {R : Int → Int → Prop} (h : -(2 ^ 62) ≤ i ∧ i < 2 ^ 62 ∧ -(2 ^ 62) ≤ j ∧ j < 2 ^ 62) (r : R i j) : ∃ i' j' : Int, [V.int i, V.int j] = [.int i', .int j'] ∧ (-(2 ^ 62) ≤ i' ∧ i' < 2 ^ 62 ∧ -(2 ^ 62) ≤ j' ∧ j' < 2 ^ 62) ∧ R i' j' := ⟨i, j, rfl, h, r⟩
/-- d.pop(k), there -/
theorem v_popD {d : Addr} {kvs : List (Key × V)} (k : Key) {v : V} (e : H d = some (.dK kvs)) (l : valV kvs k = some v) (h : ∀ H2, Ext (at1 d) H H2 → H2 d = some (.dK (dropK kvs k)) → Q v H2) : rDpop (.ref d) [kV k] H Q := ⟨d, kvs, k, rfl, e, .inl ⟨v, rfl, l, h _ (Ext.set rfl) upd_same⟩⟩
theorem v_getD {d : Addr} {kvs : List (Key × V)} (k : Key) {z : V} (e : H d = some (.dK kvs)) (h : Q ((valV kvs k).getD z) H) : rDget (.ref d) [kV k, z] H Q := ⟨d, kV k, valV kvs k, rfl, .inr ⟨z, rfl, DGet.k e, h⟩⟩
theorem v_slL {a : Addr} {xs : List V} {lo hi : Option Int} (e : H a = some (.lst xs)) (h : ∀ p H2, H p = none → Ext noM H H2 → H2 p = some (.lst (cutV xs lo hi)) → Q (.ref p) H2) : rSlU K (.ref a) lo hi H Q := .inl ⟨a, xs, rfl, .inl (.inl e), n_obj' h⟩
theorem v_lenD {d : Addr} {kvs : List (Key × V)} (e : H d = some (.dK kvs)) (h : Q (.int kvs.length) H) : rLenU K [.ref d] H Q := ⟨_, _, rfl, .inr ⟨d, kvs, rfl, .inl e, rfl⟩, h⟩
/-! rows by their places -/
def row (N : Nat) (g : Nat → V) : List V := (List.range N).map g
def put1 (g : Nat → V) (i : Nat) (v : V) : Nat → V := fun j => if j = i then v else g j
theorem row_len {N : Nat} {g : Nat → V} : (row N g).length = N := by simp [row]
theorem row_at {N i : Nat} {g : Nat → V} (h : i < N) : (row N g)[i]? = some (g i) := by
  unfold row
  rw [List.getElem?_map, List.getElem?_range h]
  rfl
theorem row_ext {N : Nat} {g g' : Nat → V} (h : ∀ i, i < N → g i = g' i) : row N g = row N g' := List.map_congr_left fun i hi => h i (List.mem_range.mp hi)
theorem row_set {N i : Nat} {g : Nat → V} {v : V} : (row N g).set i v = row N (put1 g i v) := by
  apply List.ext_getElem?
  intro j
  rw [List.getElem?_set]
  by_cases hj : j < N
  · rw [row_at hj, row_at hj, row_len]
    unfold put1
    by_cases e : i = j
    · subst e
      rw [if_pos rfl, if_pos hj, if_pos rfl]
    · rw [if_neg e, if_neg (fun z => e z.symm)]
  · have o1 : (row N g)[j]? = none := List.getElem?_eq_none (by rw [row_len]; omega)
    have o2 : (row N (put1 g i v))[j]? = none := List.getElem?_eq_none (by rw [row_len]; omega)
    rw [o1, o2, row_len]
    split
    · rw [if_neg (by omega)]
    · rfl
theorem row_rep {N : Nat} {v : V} : List.replicate N v = row N fun _ => v := by
  unfold row
  rw [List.map_const', List.length_range]
theorem ixN_nat {n k : Nat} (h : k < n) : ixN n (k : Nat) = some k := by
  unfold ixN
  rw [if_pos (Int.natCast_nonneg k), if_pos (by omega)]
  rfl
end
section
variable {K : PySem.W.Frag} {H : Hp} {Q : VK} {σ : L2.St}
theorem e_altL {t1 t2 : TE} (h : t1 σ H Q) : tEor t1 t2 σ H Q := .inl h
theorem e_altR {t1 t2 : TE} (h : t2 σ H Q) : tEor t1 t2 σ H Q := .inr h
theorem v_slLn {a : Addr} {xs : List V} {lo hi : Option Int} (e : H a = some (.lst xs)) (h : ∀ p H2, H p = none → Ext noM H H2 → (∃ ys, H2 p = some (.lst ys)) → Q (.ref p) H2) : rSlU K (.ref a) lo hi H Q := v_slL e fun p H2 h1 h2 h3 => h p H2 h1 h2 ⟨_, h3⟩
end
section
variable {K : PySem.W.Frag} {H : Hp} {Q : VK} {σ : L2.St} {D : Ends}
def SetA (K : PySem.W.Frag) (fa : List He.Fa) (f : Str) (y x : V) (H : Hp) (P : Hp → Prop) : Prop := ∃ (q : Addr) (C : Str) (dx : Addr) (fs : List (Str × V)), x = .ref q ∧ H q = some (.ins (He.ga K C) dx fs) ∧
  hasF (isCls C) fa = true ∧ hasF (isNoat C f) fa = true ∧ fs.length < 1000 ∧ P (upd H q (.ins (He.ga K C) dx (putF f y fs)))
theorem s_attr {fa : List He.Fa} {to tv : TE} {f : Str} (h : tv σ H fun y H1 => to σ H1 fun x H2 => SetA K fa f y x H2 (D.nx σ)) : sAttr K fa to tv f D σ H := h
theorem a_put {fa : List He.Fa} {f C : Str} {q dx : Addr} {fs : List (Str × V)} {y : V} {P : Hp → Prop} (e : H q = some (.ins (He.ga K C) dx fs)) (k1 : hasF (isCls C) fa = true) (k2 : hasF (isNoat C f) fa = true) (l : fs.length < 1000)
    (h : ∀ H2, Ext (at1 q) H H2 → H2 q = some (.ins (He.ga K C) dx (putF f y fs)) → P H2) : SetA K fa f y (.ref q) H P := ⟨q, C, dx, fs, rfl, e, k1, k2, l, h _ (Ext.set rfl) upd_same⟩
theorem v_rep {l : Addr} {v : V} {N : Nat} (e : H l = some (.lst [v])) (hN : N ≤ 1000000) (h : ∀ p H2, H p = none → Ext noM H H2 → H2 p = some (.lst (row N fun _ => v)) → Q (.ref p) H2) : rMulU (.ref l) (.int (N : Nat)) H Q := by
  refine ⟨[v], e, by omega, by omega, ?_, fun p np => ?_⟩
  · rw [List.length_singleton, Nat.one_mul, Int.toNat_natCast]
    exact Nat.le_trans hN (by decide)
  · refine h p _ np (Ext.new np) ?_
    rw [upd_same]
    have e : (List.replicate ((N : Nat) : Int).toNat [v]).flatten = row N fun _ => v := by
      rw [Int.toNat_natCast, ← row_rep]
      clear hN h
      induction N with
      | zero => rfl
      | succ n ih => rw [List.replicate_succ, List.flatten_cons, ih]; rfl
    rw [e]
end
section
variable {K : PySem.W.Frag} {H : Hp} {Q : VK}
theorem v_eqD0 {a b : Addr} {ks : List (Key × V)} (e : H a = some (.dK ks)) (e2 : H b = some (.dK [])) (h : Q (.bl (decide (ks = []))) H) : rEqU K (.ref a) (.ref b) H Q := .inr (.inr ⟨a, b, ks, rfl, rfl, e, e2, h⟩)
theorem v_neD0 {a b : Addr} {ks : List (Key × V)} (e : H a = some (.dK ks)) (e2 : H b = some (.dK [])) (h : Q (.bl (!decide (ks = []))) H) : rNeU K (.ref a) (.ref b) H Q := .inr (.inr ⟨a, b, ks, rfl, rfl, e, e2, h⟩)
theorem v_neDat {x y : V} (d e : PyData) (h1 : Dp K H x d) (h2 : Dp K H y e) (s1 : SeqAt.shaped d = true) (s2 : SeqAt.shaped e = true) (h : Q (.bl (!PyData.eqv d e)) H) : rNeU K x y H Q := .inr (.inl ⟨d, e, h1, h2, s1, s2, h⟩)
end
end Rw

namespace Rw
open PySem PySem.Spec PyProof.Rows L2
/-! ### more rules: dicts that are read, alternatives -/
section
variable {c : Cn} {a b d e o tg : Expr} {es : List Expr} {ta tb tc te to : TE} {t u : TT} {tA tK : TA} {ts us : TS} {wi wj : TI} {pos apos p p2 : Pos} {x y m : Str} {st : Stmt}
/-- a dict that may be locked beside an empty one -/
def rEqV : R2 := fun x y H Q => ∃ (a b : Addr) (ks : List (Key × V)), x = .ref a ∧ y = .ref b ∧ Rd H a (.dK ks) ∧ Rd H b (.dK []) ∧ Q (.bl (decide (ks = []))) H
def rNeV : R2 := fun x y H Q => ∃ (a b : Addr) (ks : List (Key × V)), x = .ref a ∧ y = .ref b ∧ Rd H a (.dK ks) ∧ Rd H b (.dK []) ∧ Q (.bl (!decide (ks = []))) H
theorem op_eqV {X : Cx} (hu : X.A.units < cLine) : OpR X (compareOp .Eq) rEqV := by
  rintro pins s σ H _ _ v u Q I rx ry ⟨a, b, ks, rfl, rfl, ea, eb, q⟩
  obtain rfl : v = Value.ref a := rx
  obtain rfl : u = Value.ref b := ry
  obtain ⟨_, ya, va, ra, da⟩ := (show ObjOk X.prog X.w H s.heap a (.dK ks) from ea.ok I.hok)
  obtain ⟨_, yb, vb, rb, db⟩ := (show ObjOk X.prog X.w H s.heap b (.dK []) from eb.ok I.hok)
  have l0 : vb.length = 0 := rb.length.symm
  have l1 : va.length = ks.length := ra.length.symm
  refine PySem.W.keq_eq (knd := mixKind X.prog X.w) (r := true) ya yb da db hu (fun e => ?_) (fin_bl I q ?_)
  · have z : va = [] := List.length_eq_zero_iff.mp (e.trans l0)
    rw [z]
    exact .nil
  · rw [l0, l1]
    cases ks <;> rfl
theorem op_neV {X : Cx} (hu : X.A.units < cLine) : OpR X (compareOp .NotEq) rNeV := by
  rintro pins s σ H _ _ v u Q I rx ry ⟨a, b, ks, rfl, rfl, ea, eb, q⟩
  obtain rfl : v = Value.ref a := rx
  obtain rfl : u = Value.ref b := ry
  obtain ⟨_, ya, va, ra, da⟩ := (show ObjOk X.prog X.w H s.heap a (.dK ks) from ea.ok I.hok)
  obtain ⟨_, yb, vb, rb, db⟩ := (show ObjOk X.prog X.w H s.heap b (.dK []) from eb.ok I.hok)
  have l0 : vb.length = 0 := rb.length.symm
  have l1 : va.length = ks.length := ra.length.symm
  refine PySem.W.keq_ne (knd := mixKind X.prog X.w) (r := true) ya yb da db hu (fun e => ?_) (fin_bl I q ?_)
  · have z : va = [] := List.length_eq_zero_iff.mp (e.trans l0)
    rw [z]
    exact .nil
  · rw [l0, l1]
    cases ks <;> rfl
def rEqW (K : PySem.W.Frag) : R2 := fun x y H Q => rEq x y H Q ∨ (rEqD K x y H Q ∨ rEqV x y H Q)
def rNeW (K : PySem.W.Frag) : R2 := fun x y H Q => rNe x y H Q ∨ (rNeD K x y H Q ∨ rNeV x y H Q)
theorem o_eqW (X : Cx) (h : Bd c X) : OpR X (compareOp .Eq) (rEqW c.K) := by
  have := OpR.or (op_eq (X := X)) (OpR.or (op_eqD (X := X) (by have := h.un; omega)) (op_eqV (X := X) (by have := h.un; omega)))
  rw [h.hK] at this
  exact this
theorem o_neW (X : Cx) (h : Bd c X) : OpR X (compareOp .NotEq) (rNeW c.K) := by
  have := OpR.or (op_ne (X := X)) (OpR.or (op_neD (X := X) (by have := h.un; omega)) (op_neV (X := X) (by have := h.un; omega)))
  rw [h.hK] at this
  exact this
theorem g_eqW (ha : GE c a ta) (hb : GE c b tb) (hm : behindInMarks .Eq b = false := by rfl) : GE c (.Compare a [.Eq] [b] pos) (tOp (rEqW c.K) ta tb) := fun X h => pe_cmpR (o_eqW X h) (ha X h) (hb X h) hm
theorem g_neW (ha : GE c a ta) (hb : GE c b tb) (hm : behindInMarks .NotEq b = false := by rfl) : GE c (.Compare a [.NotEq] [b] pos) (tOp (rNeW c.K) ta tb) := fun X h => pe_cmpR (o_neW X h) (ha X h) (hb X h) hm
theorem gt_eqW (ha : GE c a ta) (hb : GE c b tb) (hm : behindInMarks .Eq b = false := by rfl) : GT c (.Compare a [.Eq] [b] pos) (tTest (tOp (rEqW c.K) ta tb)) := fun X h => pt_cmpR (o_eqW X h) (ha X h) (hb X h) hm
theorem gt_neW (ha : GE c a ta) (hb : GE c b tb) (hm : behindInMarks .NotEq b = false := by rfl) : GT c (.Compare a [.NotEq] [b] pos) (tTest (tOp (rNeW c.K) ta tb)) := fun X h => pt_cmpR (o_neW X h) (ha X h) (hb X h) hm
/-! built-in methods: of dicts that may be locked, too -/
def tyU (K : PySem.W.Frag) (T : String) (x : V) (H : Hp) : Prop := tyV K T x H ∨ ∃ p kvs, x = .ref p ∧ T = "dict" ∧ Rd H p (.dK kvs)
theorem tyU_is {X : Cx} {pins : List (Addr × Obj)} {σ : L2.St} {H : Hp} {s : Shared} {T : String} {x : V} {v : Value} (I : Inv X pins σ H s) (r : RelV x v) (ty : tyU X.K T x H) :
    s.TypeIs v T ∧ ∀ a, v = .ref a → ∃ ob, s.heap.get? a = some ob ∧ ob.dict = none := by
  rcases ty with ty | ⟨p, kvs, rfl, rfl, hk⟩
  · exact tyV_is I r ty
  · cases r
    obtain ⟨_, _, _, _, o, _, _, e, ex, _⟩ := (show ObjOk X.prog X.w H s.heap p (.dK kvs) from hk.ok I.hok)
    refine ⟨⟨o, e, ex.1⟩, fun a e2 => ?_⟩
    cases e2
    exact ⟨o, e, ex.2.1⟩
def tBMU0 (K : PySem.W.Frag) (T : String) (r : V → List V → Hp → VK → Prop) (to : TE) : TE := fun σ H Q => to σ H fun x H1 => tyU K T x H1 ∧ r x [] H1 Q
def tBMU (K : PySem.W.Frag) (T : String) (r : V → List V → Hp → VK → Prop) (to : TE) (t : TA) : TE := fun σ H Q => to σ H fun x H1 => tyU K T x H1 ∧ t σ H1 fun xs H2 => r x xs H2 Q
theorem g_bmU0 {T id : String} {name : Str} {r : V → List V → Hp → VK → Prop} (m : BMt c T name id r) (ho : GE c o to) (hb : ∀ env w, attributeBase o name env w = w := by intro _ _; rfl) (hl : (apos.endLine == pos.line) = true := by rfl) :
    GE c (.Call (.Attribute o name apos) [] [] pos) (tBMU0 c.K T r to) := fun X h => ⟨fun pins s σ H Q I q => by
  refine wpAny_Call_method0_late (hb X.env _) hl (thn ((ho X h).run pins s σ H _ I q) fun v s1 ⟨x, H1, I1, r1, ty, q1⟩ => ?_)
  rw [← h.hK] at ty
  obtain ⟨h1, h2⟩ := tyU_is I1 r1 ty
  exact ⟨T, id, m.pa, m.slot, m.ty, h1, h2, Calls.callWith_builtin rfl (PySem.evalArgs_none (m.mt X h pins s1 σ H1 x [] v [] Q I1 r1 .nil q1))⟩⟩
theorem g_bmU {T id : String} {name : Str} {r : V → List V → Hp → VK → Prop} (m : BMt c T name id r) (ho : GE c o to) (ha : GA c (e :: es) tA) (hb : ∀ env w, attributeBase o name env w = w := by intro _ _; rfl)
    (hfew : ∀ env, ((backTo pos (starEach (e :: es) env)).all (fun x => !x.1) && (backToKw pos (keywordEach [] env)).all (fun x => x.1.isSome)
      && decide ((e :: es).length + ([] : List Keyword).length + (if ([] : List Keyword).isEmpty then 0 else 1) < 30)) = true := by intro _; rfl)
    (hl : (apos.endLine == pos.line) = true := by rfl) (hs : ∀ env, starEach (e :: es) env = (false, eval e env) :: starEach es env := by intro _; rfl) (hp : ∀ env, (backTo pos (starEach es env)).any (·.1) = false := by intro _; rfl) :
    GE c (.Call (.Attribute o name apos) (e :: es) [] pos) (tBMU c.K T r to tA) := fun X h => ⟨fun pins s σ H Q I q => by
  refine wpAny_Call_method_late (hb X.env _) (hfew X.env) hl rfl (thn ((ho X h).run pins s σ H _ I q) fun v s1 ⟨x, H1, I1, r1, ty, q1⟩ => ?_)
  rw [← h.hK] at ty
  obtain ⟨h1, h2⟩ := tyU_is I1 r1 ty
  refine ⟨T, id, m.pa, m.slot, m.ty, h1, h2, ?_⟩
  have hA := (ha X h).run pos pins s1 σ H1 _ I1 q1
  rw [hs X.env] at hA ⊢
  refine Calls.callWith_builtin (by show (false || (backTo pos (starEach es X.env)).any (·.1)) = false; rw [hp X.env] <;> rfl) (Calls.evalArgs_plain ?_)
  exact thn hA fun us s2 ⟨vs, H2, I2, r2, q2⟩ => m.mt X h pins s2 σ H2 x vs v us Q I2 r1 r2 q2⟩
/-! texts, tuples, lists: + -/
def rAddW (K : PySem.W.Frag) : R2 := fun x y H Q => rAddU x y H Q ∨ rCatT K x y H Q
theorem g_addW (ha : GE c a ta) (hb : GE c b tb) : GE c (.BinOp a .Add b pos) (tOp (rAddW c.K) ta tb) := fun X h => by
  have := pe_op (pos := pos) (OpR.or (o_add (X := X)) (o_addT (X := X))) (ha X h) (hb X h)
  rw [h.hK] at this
  exact this
/-! one of two readings of a statement -/
def tSor (t u : TS) : TS := fun D σ H => t D σ H ∨ u D σ H
theorem gs_alt (h1 : GS c st ts) (h2 : GS c st us) : GS c st (tSor ts us) := fun X b => ⟨fun pins s σ H D I q => q.elim ((h1 X b).run pins s σ H D I) ((h2 X b).run pins s σ H D I)⟩
/-! o[lo:hi] = another list -/
def gSsl (to : TE) (tl th : TO) : TG := fun v σ H Q => to σ H fun o H1 => tl σ H1 fun l H2 => th σ H2 fun u H3 => ∃ (la b : Addr) (xs ys : List V) (a z : Int), o = .ref la ∧ l = some a ∧ u = some z ∧ v = .ref b ∧ H3 la = some (.lst xs) ∧ H3 b = some (.lst ys) ∧ la ≠ b ∧ 0 ≤ a ∧ a ≤ z ∧ z ≤ xs.length ∧
  xs.length + ys.length ≤ sizeLine ∧ Q σ (upd H3 la (.lst (xs.take a.toNat ++ ys ++ xs.drop z.toNat)))
theorem gg_ssl {lo hi : Option Expr} {tl th : TO} {p2 : Pos} (ho : GE c o to) (hl : GO c lo tl) (hu : GO c hi th) (ha : ∀ env v, assign (.Subscript o (.Slice lo hi none p2) pos) env v = (do
      let ov ← holding [v] (eval o env)
      let iv ← holding [v, ov] (eval (.Slice lo hi none p2) env)
      standAt pos
      holding [v, ov, iv] (setItem ov iv v)
      release [iv, v, ov] []) := by intro _ _; rfl) : GG c (.Subscript o (.Slice lo hi none p2) pos) (gSsl to tl th) := fun X h => by
  refine ⟨fun pins s σ H v u Q I r q => ?_⟩
  rw [ha]
  refine wpAny_bind (wpAny_holding (thn ((ho X h).run pins s σ H _ I q) fun ov s1 ⟨x, H1, I1, r1, q1⟩ => ?_))
  refine wpAny_bind (wpAny_holding ?_)
  refine wpAny_Slice (thn ((hl X h).run pins s1 σ H1 _ I1 q1) fun vl s2 ⟨l, H2, I2, pl, q2⟩ => thn ((hu X h).run pins s2 σ H2 _ I2 q2) fun vu s3 ⟨y, H3, I3, pu, q3⟩ => ?_)
  rw [evalPart_none]
  refine wpAny_pure ?_
  have I4 : Inv X pins σ H3 { s3 with heap := s3.heap.push { cls := .type "slice", data := .fields #[vl, vu, .none] } } := I3.kept (t' := s3.toks) fun b ob q => Heap.get?_push_of_some _ q
  obtain ⟨la, b, xs, ys, a, z, rfl, rfl, rfl, rfl, hx, hy, ne, h0, haz, hz, hs, q4⟩ := q3
  obtain rfl : ov = Value.ref la := r1
  obtain rfl : u = Value.ref b := r
  cases pl with
  | int _ ta =>
    cases pu with
    | int _ tz =>
      refine wpAny_bind (wpAny_standAt (wpAny_bind (wpAny_holding ?_)))
      refine set_slice I4 hx hy ne (Heap.IsSliceOf.new ..) ⟨ta, rfl⟩ ⟨tz, rfl⟩ h0 haz hz hs fun s' I5 => ?_
      exact wpAny_release ⟨σ, _, I5, q4⟩
end
end Rw

namespace Rw
open PySem PySem.Spec PyProof.Rows L2
/-! ### what is known of exceptions' classes -/
def hasX (p : Ex → Bool) (xa : List Ex) : Bool := xa.any p
theorem hasX_of {q : Ex → Bool} {xa : List Ex} (h : hasX q xa = true) : ∃ f ∈ xa, q f = true := List.any_eq_true.mp h
def isExn (x : Str) : Ex → Bool
  | .exn y => decide (x = y)
  | _ => false
def isSub (x y : Str) (b : Bool) : Ex → Bool
  | .sub u v d => decide (x = u) && (decide (y = v) && decide (b = d))
  | _ => false
def isTyX (x : Str) (n : String) (b : Bool) : Ex → Bool
  | .ty u v d => decide (x = u) && (decide (n = v) && decide (b = d))
  | _ => false
def isNo (x f : Str) : Ex → Bool
  | .no u v => decide (x = u) && decide (f = v)
  | _ => false
def isIni (x : Str) : Ex → Bool
  | .ini y => decide (x = y)
  | _ => false
def isCve (x : Str) : Ex → Bool
  | .cve y => decide (x = y)
  | _ => false
def isCfn (x m y : Str) : Ex → Bool
  | .cfn u v z => decide (x = u) && (decide (m = v) && decide (y = z))
  | _ => false
def isExcF (x : Str) : He.Fa → Bool
  | .exc y => decide (x = y)
  | _ => false
structure ExnF (K : PySem.W.Frag) (C : Addr) : Prop where
  cl : (PySem.W.clsIn K C).isSome = true
  xf : XfC K C
  ca : PySem.W.findIn K (.ref C) "__class__" = some (some (.builtin "object.__class__"))
  sp : PySem.W.specialIn K (.builtin "object.__class__") "__get__" = some (some (.builtin "getset_descriptor.__get__"))
  tk : PySem.W.takesIn K (.builtin "object.__class__") = some true
  mo : PySem.W.mroIn K C (.type "object") = some true
section
variable {c : Cn} {X : Cx} {x y f m : Str} {b : Bool} {n : String}
theorem Bd.exn (h : Bd c X) (g : hasX (isExn x) c.xa = true) : ExnF c.K (He.ga c.K x) := by
  obtain ⟨f, hf, e⟩ := hasX_of g
  have q := h.xo f hf
  cases f with
  | exn y =>
    have e : x = y := of_decide_eq_true e
    subst e
    obtain ⟨q1, q⟩ := He.ba q
    obtain ⟨q2, q⟩ := He.ba q
    obtain ⟨q3, q⟩ := He.ba q
    obtain ⟨q4, q⟩ := He.ba q
    obtain ⟨q5, q6⟩ := He.ba q
    exact ⟨q1, xfB_ok q2, of_decide_eq_true q3, of_decide_eq_true q4, of_decide_eq_true q5, of_decide_eq_true q6⟩
  | _ => cases e
theorem Bd.sub (h : Bd c X) (g : hasX (isSub x y b) c.xa = true) : PySem.W.exmOne c.K (.ref (He.ga c.K x)) (.ref (He.ga c.K y)) = some b ∧ PySem.W.kitOne c.K (.ref (He.ga c.K x)) (.ref (He.ga c.K y)) = some b := by
  obtain ⟨f, hf, e⟩ := hasX_of g
  have q := h.xo f hf
  cases f with
  | sub u v d =>
    obtain ⟨e1, e⟩ := He.ba e
    obtain ⟨e2, e3⟩ := He.ba e
    have e1 : x = u := of_decide_eq_true e1
    have e2 : y = v := of_decide_eq_true e2
    have e3 : b = d := of_decide_eq_true e3
    subst e1 e2 e3
    obtain ⟨q1, q2⟩ := He.ba q
    exact ⟨of_decide_eq_true q1, of_decide_eq_true q2⟩
  | _ => cases e
theorem Bd.tyX (h : Bd c X) (g : hasX (isTyX x n b) c.xa = true) : PySem.W.kitOne c.K (.ref (He.ga c.K x)) (.type n) = some b := by
  obtain ⟨f, hf, e⟩ := hasX_of g
  have q := h.xo f hf
  cases f with
  | ty u v d =>
    obtain ⟨e1, e⟩ := He.ba e
    obtain ⟨e2, e3⟩ := He.ba e
    have e1 : x = u := of_decide_eq_true e1
    have e2 : n = v := of_decide_eq_true e2
    have e3 : b = d := of_decide_eq_true e3
    subst e1 e2 e3
    exact of_decide_eq_true q
  | _ => cases e
theorem Bd.noX (h : Bd c X) (g : hasX (isNo x f) c.xa = true) : PySem.W.findIn c.K (.ref (He.ga c.K x)) f = some none := by
  obtain ⟨u, hf, e⟩ := hasX_of g
  have q := h.xo u hf
  cases u with
  | no u v =>
    obtain ⟨e1, e2⟩ := He.ba e
    have e1 : x = u := of_decide_eq_true e1
    have e2 : f = v := of_decide_eq_true e2
    subst e1 e2
    exact of_decide_eq_true q
  | _ => cases e
theorem Bd.ini (h : Bd c X) (g : hasX (isIni x) c.xa = true) : OexC c.K (He.ga c.K x) ∧ PySem.W.findIn c.K (.ref (He.ga c.K x)) "__init__" = some (some (.ref (He.ma c.K (He.ga c.K x) "__init__"))) ∧ PySem.W.typeIn c.K (.ref (He.ma c.K (He.ga c.K x) "__init__")) = some (.type "function") := by
  obtain ⟨u, hf, e⟩ := hasX_of g
  have q := h.xo u hf
  cases u with
  | ini y =>
    have e : x = y := of_decide_eq_true e
    subst e
    obtain ⟨q1, q⟩ := He.ba q
    obtain ⟨q2, q3⟩ := He.ba q
    exact ⟨exiB_ok q1, of_decide_eq_true q2, of_decide_eq_true q3⟩
  | _ => cases e
theorem Bd.cve (h : Bd c X) (g : hasX (isCve x) c.xa = true) : PySem.W.readsIn c.K (He.ga c.K x) (.type "type") = true ∧ PySem.W.specialIn c.K (.ref (He.ga c.K x)) "__getattribute__" = some (some (.builtin "type.__getattribute__")) ∧
    PySem.W.findCls c.K (.ref (He.ga c.K x)) (.type "type") "__init__" = some (.val (.builtin "ValueError.__init__")) := by
  obtain ⟨u, hf, e⟩ := hasX_of g
  have q := h.xo u hf
  cases u with
  | cve y =>
    have e : x = y := of_decide_eq_true e
    subst e
    obtain ⟨q1, q⟩ := He.ba q
    obtain ⟨q2, q3⟩ := He.ba q
    exact ⟨q1, of_decide_eq_true q2, isVal_ok q3⟩
  | _ => cases e
theorem Bd.cfn (h : Bd c X) (g : hasX (isCfn x m y) c.xa = true) : PySem.W.readsIn c.K (He.ga c.K x) (.type "type") = true ∧ PySem.W.specialIn c.K (.ref (He.ga c.K x)) "__getattribute__" = some (some (.builtin "type.__getattribute__")) ∧
    PySem.W.findCls c.K (.ref (He.ga c.K x)) (.type "type") m = some (.val (.ref (He.fAd c.K (y, some m)))) ∧ PySem.W.handedIn (.ref (He.fAd c.K (y, some m))) = true := by
  obtain ⟨u, hf, e⟩ := hasX_of g
  have q := h.xo u hf
  cases u with
  | cfn u v z =>
    obtain ⟨e1, e⟩ := He.ba e
    obtain ⟨e2, e3⟩ := He.ba e
    have e1 : x = u := of_decide_eq_true e1
    have e2 : m = v := of_decide_eq_true e2
    have e3 : y = z := of_decide_eq_true e3
    subst e1 e2 e3
    obtain ⟨q1, q⟩ := He.ba q
    obtain ⟨q2, q⟩ := He.ba q
    obtain ⟨q3, q4⟩ := He.ba q
    exact ⟨q1, of_decide_eq_true q2, isVal_ok q3, q4⟩
  | _ => cases e
theorem Bd.excF (h : Bd c X) (g : hasF (isExcF x) c.fa = true) : PySem.W.excIn c.K (He.ga c.K x) He.veBase "ValueError.__new__" = true ∧ PySem.W.keepIn c.K (.ref (He.ga c.K x)) = true ∧ PySem.W.subIn c.K (.ref (He.ga c.K x)) (.type "BaseException") = some true ∧
    PySem.W.typeIn c.K (.ref (He.ga c.K x)) = some (.type "type") := by
  obtain ⟨f, hf, e⟩ := hasF_of g
  have q := h.fo f hf
  cases f with
  | exc y =>
    have e : x = y := of_decide_eq_true e
    subst e
    exact He.exc_ok q
  | _ => cases e
end
/-! ### isinstance(e, ..), e.f in an except suite -/
inductive ClsX (K : PySem.W.Frag) (xa : List Ex) (D : Str) : V → Bool → Prop
  | own {C : Str} {b : Bool} (h : hasX (isSub D C b) xa = true) : ClsX K xa D (.ref (He.ga K C)) b
  | ty {n : String} {b : Bool} (h : hasX (isTyX D n b) xa = true) : ClsX K xa D (.ty n) b
theorem ClsX.val {c : Cn} {X : Cx} (h : Bd c X) {D : Str} {v : V} {b : Bool} {u : Value} (k : ClsX c.K c.xa D v b) (r : RelV v u) : PySem.W.kitOne c.K (.ref (He.ga c.K D)) u = some b := by
  cases k with
  | own g =>
    cases (show u = Value.ref _ from r)
    exact (h.sub g).2
  | ty g =>
    cases (show u = Value.type _ from r)
    exact h.tyX g
theorem ClsX.all {c : Cn} {X : Cx} (h : Bd c X) {D : Str} : ∀ {vs : List V} {bs : List Bool} {us : List Value}, Paired (ClsX c.K c.xa D) vs bs → Vals vs us → PySem.W.kitAny c.K (.ref (He.ga c.K D)) us = some (bs.any id)
  | _, _, _, .nil, .nil => rfl
  | _, _, _, .cons (b := b) k ks, .cons r rs => by
    unfold PySem.W.kitAny
    rw [k.val h r]
    cases b with
    | true => rfl
    | false =>
      show PySem.W.kitAny _ _ _ = _
      rw [ClsX.all h ks rs]
      rfl
/-- the dict of the exception stands -/
def XdAt (H : Hp) (d : Option Addr) : Prop := match d with
  | none => True
  | some dd => ∃ fs, H dd = some (.xd fs)
def rIsX (c : Cn) : List V → Hp → VK → Prop := fun xs H Q => ∃ a D d y, c.cx = some (a, .ref (He.ga c.K D), d) ∧ hasX (isExn D) c.xa = true ∧ XdAt H d ∧ xs = [.ref a, y] ∧
  ((∃ b, ClsX c.K c.xa D y b ∧ Q (.bl b) H) ∨ ∃ tp cs bs, y = .ref tp ∧ SqT c.K H tp cs ∧ Paired (ClsX c.K c.xa D) cs bs ∧ Q (.bl (bs.any id)) H)
section
variable {c : Cn} {e : Expr} {te : TE} {pos : Pos} {n : Str}
theorem inst_at {X : Cx} {pins : List (Addr × Obj)} {σ : L2.St} {H : Hp} {s : Shared} {a D : Addr} {d : Option Addr} {oe : Obj} (I : Inv X pins σ H s) (hm : (a, oe) ∈ X.pn) (hz : Zc (.ref D) d oe) (hf : ∃ vs, oe.data = .fields vs) (hx : XdAt H d) :
    ∃ od, PySem.W.InstAt s.heap a oe D od := by
  obtain ⟨hget, _⟩ := I.pin (a, oe) (List.mem_append_left _ hm)
  obtain ⟨vs, hv⟩ := hf
  obtain ⟨oc, odc, oda, osl⟩ := oe
  obtain ⟨h1, h2⟩ := hz
  dsimp only at h1 h2 hv
  subst h1 h2 hv
  cases odc with
  | none => exact ⟨none, hget, rfl, rfl, trivial⟩
  | some dd =>
    obtain ⟨fs, hx⟩ := hx
    have ho : ObjOk X.prog X.w H s.heap dd (.xd fs) := I.hok dd _ hx
    obtain ⟨_, ⟨o, _, _, e1, _⟩, _⟩ := ho
    exact ⟨some o, hget, rfl, rfl, e1⟩
theorem f_isX : BFn c "isinstance" "isinstance" (rIsX c) := ⟨by decide +kernel, fun X h => by
  intro pins s σ H xs us Q I r hq
  obtain ⟨a, D, d, y, hcx, hex, hxd, rfl, hq⟩ := hq
  obtain ⟨oe, hm, hz, hf⟩ := h.pin _ _ _ hcx
  obtain ⟨u1, u2, rfl, r1, r2⟩ := vals2 r
  cases (show u1 = Value.ref a from r1)
  obtain ⟨od, J⟩ := inst_at I hm hz hf hxd
  have F := h.exn hex
  have kin : c.K.In s.heap := by
    rw [← h.hK]
    exact I.kIn
  have Z : PySem.W.KitX c.K (.ref a) (.ref (He.ga c.K D)) (fun h => PySem.W.InstAt h a oe (He.ga c.K D) od) := PySem.W.kitx_exc F.cl F.xf.ga F.xf.gg F.xf.exC F.ca F.sp F.tk F.mo
  rcases hq with ⟨b, k, q⟩ | ⟨tp, cs, bs, rfl, ht, k, q⟩
  · exact PySem.W.kia_one Z kin J (k.val h r2) (fun z => nomatch z) fun tk => ⟨.bl b, H, I.tok tk, rfl, q⟩
  · cases (show u2 = Value.ref tp from r2)
    have fin : ∀ {o : Obj} {its : List Value} {n : Nat}, s.heap.get? tp = some o → o.cls = .type "tuple" → o.data = .seq its.toArray n → Vals cs its → wpAny (model X.prog X.w) X.A (call (.builtin "isinstance") [.ref a, .ref tp]) (EP X pins σ Q) X.xe s := fun {o its n} h1 h2 h3 rv => by
      obtain ⟨oc, od', dt, sl⟩ := o
      simp only at h2 h3
      subst h2 h3
      exact PySem.W.kia_tup Z kin J h1 (ClsX.all h k rv) (fun z => nomatch z) fun tk => ⟨.bl (bs.any id), H, I.tok tk, rfl, q⟩
    rcases ht with (ht | ⟨ob, ht⟩) | ⟨o, its, n, h1, h2, h3, _, rv⟩
    · obtain ⟨_, its, rv, o, h1, h2, n, h3⟩ := (show ObjOk X.prog X.w H s.heap tp (.tup cs) from I.hok tp _ ht)
      exact fin h1 h2 h3 rv
    · obtain ⟨_, _, its, rv, o, h1, h2, n, h3⟩ := (show ObjOk X.prog X.w H s.heap tp (.frz ob (.tup cs)) from I.hok tp _ ht)
      exact fin h1 h2 h3 rv
    · exact fin (kin _ _ h1) h2 (its := its.toList) (by rw [h3]) rv, by decide, by decide⟩
def tXfc (c : Cn) (f : Str) (te : TE) : TE := fun σ H Q => te σ H fun x H1 => ∃ a D dd fs v, c.cx = some (a, .ref (He.ga c.K D), some dd) ∧ hasX (isExn D) c.xa = true ∧ hasX (isNo D f) c.xa = true ∧ x = .ref a ∧ H1 dd = some (.xd fs) ∧ fs.lookup f = some v ∧ Q v H1
theorem g_xf (he : GE c e te) (hb : ∀ env, attributeBase e n env (eval e env) = eval e env := by intro _; rfl) : GE c (.Attribute e n pos) (tXfc c n te) := fun X h => ⟨fun pins s σ H Q I hq => by
  refine attr_of (hb X.env) (thn ((he X h).run pins s σ H _ I hq) fun u s1 z => ?_)
  obtain ⟨x, H1, I1, rx, a, D, dd, fs, v, hcx, hex, hno, rfl, ea, l, q⟩ := z
  cases (show u = Value.ref a from rx)
  obtain ⟨oe, hm, hz, hf⟩ := h.pin _ _ _ hcx
  have F := h.exn hex
  have hno := h.noX hno
  have kin : c.K.In s1.heap := by
    rw [← h.hK]
    exact I1.kIn
  obtain ⟨ha, _⟩ := I1.pin (a, oe) (List.mem_append_left _ hm)
  obtain ⟨vs, hd⟩ := hf
  have hx : ObjOk X.prog X.w H1 s1.heap dd (.xd fs) := I1.hok dd _ ea
  obtain ⟨mA, hns, hr⟩ := hx
  obtain ⟨od, ho, hl⟩ := lookIn_ns hns
  obtain ⟨u, hu, ru⟩ := RelO.some_of (v := v) (o := mA n) (by rw [← l]; exact hr n)
  have J : PySem.W.InstAt s1.heap a oe (He.ga c.K D) (some od) := ⟨ha, hz.1, by unfold PySem.W.notCls; rw [hd] <;> rfl, by rw [hz.2]; exact ho⟩
  exact HandSPX.exc_get kin J F.xf.ga F.xf.gg F.xf.exC (PySem.W.findObj_own F.xf.hdC hno rfl (by rw [hl, hu])) (handed_of ru) ⟨v, H1, I1.tok _, ru, q⟩⟩
end
/-! ### raise -/
def GMk (c : Cn) (e : Expr) (t : L2.St → Hp → XK → Prop) : Prop := ∀ X, Bd c X → PMk X e t
section
variable {c : Cn} {e : Expr} {es : List Expr} {ta : TE} {tA : TA} {pos p p1 p2 : Pos} {x y m f : Str}
def tRaise (W : WX) (t : L2.St → Hp → XK → Prop) : TS := fun _ σ H => t σ H fun cls d H' => W cls d σ H'
theorem gs_raise {t : L2.St → Hp → XK → Prop} (he : GMk c e t) (hc : c.hot = false := by rfl) : GS c (.Raise (some e) none pos) (tRaise c.W t) := fun X h => ps_raise (h.calm hc) h.tk (he X h)
/-- X('m') -/
def mkPl (c : Cn) (x : Str) : L2.St → Hp → XK → Prop := fun _ H Q => Q (.ref (He.ga c.K x)) none H
theorem mk_pl {j} (hg : GlN c x := by rfl) (hf : hasF (isGlo x) c.fa = true := by rfl) (hx : hasF (isExcF x) c.fa = true := by rfl) (hdb : (x == ("__debug__" : Str)) = false := by decide) :
    GMk c (.Call (.Name x p) [.Constant (.str m) j p2] [] pos) (mkPl c x) := fun X h => by
  obtain ⟨q1, q2, q3, q4⟩ := h.excF hx
  have hm := h.glo hf
  have hK := h.hK
  unfold mkPl
  rw [← hK] at q1 q2 q3 q4 hm ⊢
  exact pmk_own PySem.F.excBase_ValueError q1 hm q2 (raises_own q3 q4) (h.gln hg) hdb
end
/-! ### own __init__ of an exception's class -/
/-- B.__init__(self, ..) -/
def tVeX (c : Cn) (ta : TA) : TE := fun σ H Q => ta σ H fun vs H1 => ∃ (a : Addr) (C : Str) (ws : List V), vs = .ref a :: ws ∧ ws.length ≤ 1000 ∧ hasX (isIni C) c.xa = true ∧ H1 a = some (exo a (He.ga c.K C) none) ∧ Q .non H1
/-- self.f = e, self an exception that is being made -/
def tOstX (c : Cn) (f : Str) (to te : TE) : TS := fun D σ H => te σ H fun y H1 => to σ H1 fun x H2 => ∃ (a : Addr) (C : Str), x = .ref a ∧ hasX (isIni C) c.xa = true ∧ hasX (isNo C f) c.xa = true ∧
  ((H2 a = some (exo a (He.ga c.K C) none) ∧ ∀ dx, H2 dx = none → dx ≠ a → D.nx σ (upd (upd H2 dx (exd dx [(f, y)])) a (exo a (He.ga c.K C) (some dx)))) ∨
    ∃ (dx : Addr) (fs : List (Str × V)), H2 a = some (exo a (He.ga c.K C) (some dx)) ∧ H2 dx = some (exd dx fs) ∧ fs.length ≤ 900 ∧ D.nx σ (upd H2 dx (exd dx ((f, y) :: fs))))
section
variable {c : Cn} {e o : Expr} {es : List Expr} {to te : TE} {tA : TA} {pos p p1 p2 : Pos} {x y m f : Str}
/-- what is evaluated, is evaluated -/
theorem pe_ev {X : Cx} {e : Expr} {te : TE} (h : PE X e te) {pins : List (Addr × Obj)} {s : Shared} {σ : L2.St} {H : Hp} {Q : VK} (I : Inv X pins σ H s) (q : te σ H Q) : wpAny (model X.prog X.w) X.A (eval e X.env) (EP X pins σ Q) X.xe s := h.run pins s σ H Q I q
theorem gs_ost {p' : Pos} (ho : GE c o to) (he : GE c e te) (hs : ∀ env, swapsWith e (some (.Attribute o f p')) pos.line env = pure false := by intro _; rfl) : GS c (.Assign [.Attribute o f p'] e pos) (tOstX c f to te) := fun X h => ⟨fun pins s σ H D I hq => by
  refine plainObj_wpAny_Assign_Attribute (thn (pe_ev (he X h) I hq) fun v s1 z1 => ?_) (hs X.env)
  obtain ⟨y, H1, I1, ry, z1⟩ := z1
  refine thn (pe_ev (ho X h) I1 z1) fun u s2 z2 => ?_
  obtain ⟨x, H2, I2, rx, a, C, rfl, g1, g2, q⟩ := z2
  cases (show u = Value.ref a from rx)
  obtain ⟨T, _, _⟩ := h.ini g1
  have hno := h.noX g2
  rw [← h.hK] at T hno q
  rcases q with ⟨ea, q⟩ | ⟨dx, fs, ea, ed, hl, q⟩
  · exact ost_new T I2 ea hno ry fun dx s' n1 n2 J => ⟨σ, _, J, q dx n1 n2⟩
  · exact ost_old T I2 ea ed hl hno ry fun s' J => ⟨σ, _, J, q⟩⟩
/-- B.__init__(self, ..), B a class over ValueError without an __init__ of its own -/
theorem g_cve (ha : GA c (e :: es) tA) (hg : GlN c x := by rfl) (hf : hasF (isGlo x) c.fa = true := by rfl) (hx : hasX (isCve x) c.xa = true := by rfl) (hdb : (x == ("__debug__" : Str)) = false := by decide)
    (ht : MethTree (.Name x p1) "__init__" p2 (e :: es) [] pos := by exact fun _ => ⟨_, rfl⟩)
    (he : ∀ env, starEach (e :: es) env = (false, eval e env) :: starEach es env := by intro _; rfl) (hpl : ∀ env, (backTo pos (starEach es env)).any (·.1) = false := by intro _; rfl) :
    GE c (.Call (.Attribute (.Name x p1) "__init__" p2) (e :: es) [] pos) (tVeX c tA) := fun X h => ⟨fun pins s σ H Q I hq => by
  obtain ⟨pl, ht⟩ := ht X.env
  obtain ⟨q1, q2, q3⟩ := h.cve hx
  have hm := h.glo hf
  rw [← h.hK] at hm q1 q2 q3
  refine PySem.W.methodCall_KW (ld_glob I (h.gln hg) hm ?_ hdb) ht
  refine PySem.W.method_cls I.kIn q2 (PySem.W.cls_value I.kIn q1 q3 (by decide +kernel) ?_)
  show wpAny _ _ (callWith pos (Value.builtin "ValueError.__init__") [] (backTo pos (starEach (e :: es) X.env)) []) _ _ _
  refine PyProof.Rows.callWith_method1 (thn ((ha X h).run pos pins _ σ H _ (I.tok _) hq) fun us s1 ⟨vs, H1, I1, r1, a, C, ws, ev, hl, g1, ea, q⟩ => ?_) (he X.env) (hpl X.env)
  subst ev
  obtain ⟨T, _, _⟩ := h.ini g1
  rw [← h.hK] at T ea
  cases r1 with
  | @cons _ u0 _ ur ra rw' =>
    cases (show u0 = Value.ref a from ra)
    exact oinit_ok T I1 ea (by rw [← Paired.length rw', sizeLine_eq]; omega) fun s' J => ⟨.non, H1, J, rfl, q⟩⟩
/-- C(e, ..), C with an own __init__ -/
def mkIni (c : Cn) (x : Str) (na : Nat) (tA : TA) : L2.St → Hp → XK → Prop := fun σ H Q => ∃ s, shpOf c.sh (x, some ("__init__" : Str)) (na + 1) [] = some s ∧ tA σ H fun vs H1 => vs.length = na ∧ ∀ a, H1 a = none →
  c.Ph s.key (plug c.K s.plan (.ref a :: vs) []) (upd H1 a (exo a (He.ga c.K x) none))
    (fun v H2 => v = .non ∧ ∃ (d : Addr) (fs : List (Str × V)), H2 a = some (exo a (He.ga c.K x) (some d)) ∧ H2 d = some (exd d fs) ∧ H1 d = none ∧ Q (.ref (He.ga c.K x)) (some d) (upd (del H2 a) d (.xd fs))) (fun _ _ _ => False)
theorem mk_ini (ha : GA c (e :: es) tA) (hg : GlN c x := by rfl) (hf : hasF (isGlo x) c.fa = true := by rfl) (hx : hasX (isIni x) c.xa = true := by rfl) (hc : c.hot = false := by rfl) (hl : (es.length < 100) := by exact Nat.le_of_ble_eq_true rfl) (hdb : (x == ("__debug__" : Str)) = false := by decide)
    (he : ∀ env, starEach (e :: es) env = (false, eval e env) :: starEach es env := by intro _; rfl) (hpl : ∀ env, (backTo pos (starEach es env)).any (·.1) = false := by intro _; rfl) :
    GMk c (.Call (.Name x p) (e :: es) [] pos) (mkIni c x (e :: es).length tA) := fun X h pins s σ H Q I hq => by
  obtain ⟨T, iC, tI⟩ := h.ini hx
  obtain ⟨nm, q, N, bs, bm, sn, sub, ab, col, dd, k0, k1, k2, k3, k5, hC, hbm⟩ := T.cls
  obtain ⟨sp, hs, hq⟩ := hq
  obtain ⟨mem, ek, en, eks⟩ := shpOf_ok hs
  have hm := h.glo hf
  have hK := h.hK
  rw [← hK] at hm
  refine wpAny_Call_Name_kw (ld_glob I (h.gln hg) hm ?_ hdb)
  refine PySem.W.callWith_K (h₀ := X.base) I.ok.mod.kin (by rw [hK]; exact T.kC) (thn ((ha X h).run pos pins s σ H _ I hq) fun us s1 ⟨vs, H1, I1, r1, hz, q1⟩ => ⟨I1.kIn, ?_⟩) (he X.env) (hpl X.env)
  rw [hK]
  show wpAny _ _ (call (.ref (He.ga c.K x)) us) _ _ _
  obtain ⟨hp, g, dr, tk, os⟩ := s1
  have a1 : hp.objs.size ≤ hp.objs.size + 1 := Nat.le_succ _
  have a2 : H1 (hp.objs.size + 1) = none := I1.hok.fresh a1
  have hq := q1 (hp.objs.size + 1) a2
  have kk : ∀ b o, hp.get? b = some o → ((hp.push (PySem.W.kdv_tup us)).push (PySem.HandSPX.excO (He.ga c.K x) hp.objs.size)).get? b = some o := fun b o z => Heap.get?_push_of_some _ (Heap.get?_push_of_some _ z)
  have hget : ((hp.push (PySem.W.kdv_tup us)).push (PySem.HandSPX.excO (He.ga c.K x) hp.objs.size)).get? (hp.objs.size + 1) = some (PySem.HandSPX.excO (He.ga c.K x) hp.objs.size) := by heap_get
  have I2 : Inv X pins σ (upd H1 (hp.objs.size + 1) (exo (hp.objs.size + 1) (He.ga c.K x) none)) ⟨(hp.push (PySem.W.kdv_tup us)).push (PySem.HandSPX.excO (He.ga c.K x) hp.objs.size), g, dr, tk, os⟩ := I1.laid (t' := tk) kk a1 (exo_ok hget)
  obtain ⟨k, room, all⟩ := h.fns hc
  obtain ⟨fd, ps, gg, F, kb⟩ := (all sp mem).ex
  have ef : He.fAd c.K sp.key = He.ma c.K (He.ga c.K x) "__init__" := by rw [ek] <;> rfl
  rw [ef] at F
  have r2 : Vals (V.ref (hp.objs.size + 1) :: vs) (Value.ref (hp.objs.size + 1) :: us) := .cons rfl r1
  have lu : us.length = (e :: es).length := by rw [← Paired.length r1, hz]
  have hus : us.length ≤ sizeLine := by
    rw [lu, sizeLine_eq, List.length_cons]
    omega
  have kin1 := I1.kIn
  rw [hK] at kin1
  have bt := kb.to ⟨(hp.push (PySem.W.kdv_tup us)).push (PySem.HandSPX.excO (He.ga c.K x) hp.objs.size), g, dr, tk, os⟩ (Value.ref (hp.objs.size + 1) :: us) [] I2.kIn (by rw [List.length_cons, lu, en]) (by rw [eks] <;> rfl)
  have rel := kb.rel r2 (zs := []) (ws := []) .nil
  rw [eks] at bt
  refine wpAny_call (PySem.HandSPX.call_own PySem.F.excBase_ValueError (fun Y => PySem.HandSPX.refsVE_contains Y bm hbm) (kin1 _ _ hC) (PySem.W.looks_findIn kin1 iC) (fun self => PySem.W.bind_fn kin1 self tI) hus
    (codeAny_mono (F.run _ X.stack _ _ ⟨Value.ref (hp.objs.size + 1) :: us, []⟩ _ _ _ (fun _ _ _ => False) (room.make _ us []) (make_guards h.gu) (I2.env0.make _ us []) bt rel hq) fun r s' z => ?_))
  cases r with
  | error er => 
    obtain ⟨_, _, _, _, _, _, _, _, _, _, _, _, w⟩ := z
    exact w.elim
  | ok fl =>
    cases fl with
    | ret u =>
      obtain ⟨v, H2, os2, bare2, un2, hok2, rv, ev, d, fs, ea, ed, hd1, q2⟩ := z
      subst ev
      obtain ⟨h2, g2, d2, t2, os'⟩ := s'
      exact ⟨rv, mk_end (raises_own (by rw [hK]; exact T.exC) (by rw [hK]; exact T.tyC)) I1 a1 kk un2 hok2 os2 bare2 ea ed hd1 q2⟩
    | next => exact False.elim z
    | brk => exact False.elim z
    | cont => exact False.elim z
end
end Rw

namespace Rw
open PySem PySem.Spec PyProof.Rows L2
/-! ### try: .., except X as n: .., several of them -/
/-- a clause: its class, its name's slot, what its suite does with the exception -/
structure HdW where
  cls : Str
  i : Option Nat
  ts : Addr → Value → Option Addr → TS
def unNm (i : Option Nat) (D : Ends) : Ends := match i with
  | none => D
  | some i => { nx := fun σ' H' => D.nx (σ'.set i none) H', rt := D.rt, bk := fun σ' H' => D.bk (σ'.set i none) H', ct := fun σ' H' => D.ct (σ'.set i none) H' }
def setNm (i : Option Nat) (a : Addr) (σ : L2.St) : L2.St := match i with
  | none => σ
  | some i => σ.set i (some (.ref a))
def wHs (c : Cn) (Wout : WX) (D : Ends) : List HdW → WX
  | [] => Wout
  | h :: r => fun cls d σ H => ∃ E b, cls = .ref (He.ga c.K E) ∧ hasX (isSub E h.cls b) c.xa = true ∧ (b = true → ∀ a, H a = none → h.ts a cls d (unNm h.i D) (setNm h.i a σ) H) ∧ (b = false → wHs c Wout D r cls d σ H)
/-- where the clause's name stands -/
def NmOk (c : Cn) (n : Option Str) (i : Option Nat) : Prop := match n, i with
  | none, none => True
  | some n, some i => c.N[i]? = some n ∧ c.sc.names.lookup n = some .local
  | _, _ => False
inductive HdsW (c : Cn) : List ExceptHandler → List HdW → Prop
  | nil : HdsW c [] []
  | cons {x : Str} {n : Option Str} {i : Option Nat} {ts : Addr → Value → Option Addr → TS} {b₀ : Stmt} {suite : List Stmt} {np pos' : Pos} {hds : List ExceptHandler} {l : List HdW} (hn : NmOk c n i) (hg : GlN c x) (hf : hasF (isGlo x) c.fa = true) (hdb : (x == ("__debug__" : Str)) = false)
      (hsu : ∀ (a : Addr) (cls : Value) (d : Option Addr), GB (c.su a cls d) (b₀ :: suite) (ts a cls d)) (r : HdsW c hds l) : HdsW c (.ExceptHandler (some (.Name x np)) n (b₀ :: suite) pos' :: hds) (⟨x, i, ts⟩ :: l)
def tTryW (c : Cn) (tb : WX → TS) (l : List HdW) : TS := fun D σ H => tb (wHs c c.W D l) D σ H
section
variable {c : Cn} {body : List Stmt} {h₀ : ExceptHandler} {hds : List ExceptHandler} {l : List HdW} {pos : Pos} {tb : WX → TS}
theorem gs_try (hb : ∀ W, GB (c.tr W) body (tb W)) (hh : HdsW c (h₀ :: hds) l) (ht : c.top = true := by rfl) : GS c (.Try body (h₀ :: hds) [] [] pos) (tTryW c tb l) := fun X h => by
  obtain ⟨hs, hf, _⟩ := h.stk ht
  have tk := h.tk
  refine ⟨fun pins s σ H D I hq => ?_⟩
  have ok := I.ok
  have hfr : X.A.frames = some (X.env :: X.outer) := by
    rw [ok.frames]
    rw [hs]
  refine wpAny_Try_except ?_
  let XE' : Value → Shared → Prop := fun e s₁ => wpAny (model X.prog X.w) X.A (noteFrame e X.env) (fun _ s₂ => wpAny (model X.prog X.w) X.A (setFlight e none) (fun _ s₃ => wpAny (model X.prog X.w) X.A (handleBy e X.env (h₀ :: hds)) (SP X pins D) X.xe s₃) X.xe s₂) X.xe s₁
  have T : Takes (X.tr (X.pn ++ pins) XE') (wHs c c.W D l) := by
    rintro u s' ⟨a, B, sI, pins', σ1, H1, cls, d, rfl, J0, nb, up, sky, na, os, ag, w⟩
    have J : Inv X pins σ1 H1 sI := Inv.ofTry J0 ok
    have sky1 : Sky B (X.env :: X.outer) a (Zc cls d) X.env.locals s'.heap := by
      rw [← hs]
      exact sky
    refine Sky.land Zc.steady hfr hf sky1 fun h3 fl up3 => ?_
    have J3 : Inv X pins σ1 H1 { s' with heap := h3 } := Inv.landed J nb fl.1 (up.trans up3) os ag
    obtain ⟨oe, vs, eo, ez, ed⟩ := fl.there
    have nfr : a ∉ frs (X.env :: X.outer) := fun hm => by
      obtain ⟨_, o', e', hnf⟩ := fl.2.2.1.mem hm
      rw [eo] at e'
      cases e'
      exact hnf _ ed
    have nL : a ≠ X.env.locals := fun z => nfr (List.mem_filterMap.mpr ⟨_, List.mem_cons_self, by rw [hf]; exact congrArg some z.symm⟩)
    have nF : a ∉ X.fs := fun hm => by
      obtain ⟨e, he, q⟩ := List.mem_filterMap.mp hm
      exact nfr (List.mem_filterMap.mpr ⟨_, List.mem_cons_of_mem _ he, q⟩)
    have S3 := J3.suite eo ed na nL nF
    have LT : PySem.W.Looks (model X.prog X.w) h3 (typeOf (.ref a)) cls := fun A Q E s k q => wpAny_typeOf_ref (k _ _ eo) (by
      rw [ez.1]
      exact q)
    have go : ∀ {gs : List ExceptHandler} {m : List HdW}, HdsW c gs m → wHs c c.W D m cls d σ1 H1 → wpAny (model X.prog X.w) X.A (handleBy (.ref a) X.env gs) (SP X pins D) X.xe { s' with heap := h3 } := by
      intro gs m hk
      induction hk with
      | nil =>
        intro w
        refine wpAny_handleBy_nil ?_
        obtain ⟨k1, k2, k3, oe, vs, T, oT, ts', he, hz, hd, h1, hr⟩ := id fl
        unfold PySem.passOn
        refine wpAny_bind (wpAny_field he hd h1 ?_)
        rw [if_neg (by simp : ¬ ((Value.ref T == Value.none) = true))]
        have fin : wpAny (model X.prog X.w) X.A (setFlight (.ref a) X.env.frame) (fun _ s4 => wpAny (model X.prog X.w) X.A (throw (.ref a) : Sem Flow) (SP X pins D) X.xe s4) X.xe { s' with heap := h3 } := by
          rw [hf]
          exact HandSPX.setFlight_upZ fl fun h4 hh4 up4 => wpAny_throw (tk _ _ ⟨a, B, sI, pins, σ1, H1, cls, d, rfl, J, nb, (up.trans up3).trans up4, .inr (.inr (by rw [hs]; exact hh4)), na, os, ag, w⟩)
        first
          | exact wpAny_bind (wpAny_pure (wpAny_bind fin))
          | exact wpAny_bind fin
      | @cons x n i ts b₀ suite np pos' gs2 l2 hn hg hgf hdb hsu r ih =>
        intro w
        obtain ⟨E, b, ecls, hsb, yes, no⟩ := w
        have hx := (h.sub hsb).1
        rw [← ecls, ← h.hK] at hx
        have hmg := h.glo hgf
        rw [← h.hK] at hmg
        refine wpAny_handleBy_cons (codeAny_handlers_test ?_) (by intro q; cases q)
        refine ld_glob (X := X.suite a ((a, oe) :: (X.pn ++ pins))) S3 (h.gln hg) hmg (Q := fun v s1 => _) ?_ hdb
        refine (PySem.W.exm_one (M := model X.prog X.w) J3.kIn LT hx).here ?_
        cases b with
        | false => exact ih (no rfl)
        | true =>
          have goal := yes rfl a na
          match n, i, hn with
          | none, none, _ =>
            refine codeAny_handlers_suite (HandSPX.lands_againZ fl fun h4 fl4 up4 => ?_)
            have J4 : Inv X pins σ1 H1 { s' with heap := h4 } := Inv.landed J nb fl4.1 ((up.trans up3).trans up4) os ag
            obtain ⟨oe4, vs4, he4, hz4, hd4⟩ := fl4.there
            have S4 := J4.suite he4 hd4 na nL nF
            refine wpAny_mono ((hsu a cls d _ (h.su a oe4 cls d (X.pn ++ pins) hz4 ⟨_, hd4⟩)).run [] _ _ H1 _ S4 goal) (fun f s6 hsp => ?_) (fun _ _ z => z.elim)
            cases f with
            | next => exact hsp.elim fun σ6 z => z.elim fun H6 z => ⟨σ6, H6, z.1.unsuite ok, z.2⟩
            | brk => exact hsp.elim fun σ6 z => z.elim fun H6 z => ⟨σ6, H6, z.1.unsuite ok, z.2⟩
            | cont => exact hsp.elim fun σ6 z => z.elim fun H6 z => ⟨σ6, H6, z.1.unsuite ok, z.2⟩
            | ret u =>
              obtain ⟨v6, σ6, H6, S6, z⟩ := hsp
              exact ⟨v6, σ6, H6, S6.unsuite ok, z⟩
          | some n, some i, hn =>
            have hi : X.N[i]? = some n := by
              rw [h.hN]
              exact hn.1
            have hln : X.env.kindOf n = some .local := by
              show X.env.scope.names.lookup n = _
              rw [h.hsc]
              exact hn.2
            have hND : X.N.Nodup := by
              rw [h.hN]
              exact h.nd
            refine codeAny_handlers_suite_as (HandSPX.lands_againZ fl fun h4 fl4 up4 => ?_)
            have J4 : Inv X pins σ1 H1 { s' with heap := h4 } := Inv.landed J nb fl4.1 ((up.trans up3).trans up4) os ag
            obtain ⟨oe4, vs4, he4, hz4, hd4⟩ := fl4.there
            have S4 := J4.suite he4 hd4 na nL nF
            refine store_ok (X := X.suite a ((a, oe4) :: (X.pn ++ pins))) (v := .ref a) S4 hND hi (.inl hln) rfl (fun s5 S5 => ?_) (.inr hln)
            refine wpAny_mono ((hsu a cls d _ (h.su a oe4 cls d (X.pn ++ pins) hz4 ⟨_, hd4⟩)).run [] s5 _ H1 _ S5 goal) (fun f s6 hsp => ?_) (fun _ _ z => z.elim)
            have unb : ∀ {σ6 : L2.St} {H6 : Hp} {Q : Shared → Prop}, Inv (X.suite a ((a, oe4) :: (X.pn ++ pins))) [] σ6 H6 s6 → (∀ s7, Inv X pins (σ6.set i none) H6 s7 → Q s7) →
                wpAny (model X.prog X.w) X.A (do bindName X.env n .none; unbindBehindTheSuite X.env n pos') (fun _ s7 => Q s7) X.xe s6 := fun S6 hq => gone_ok (S6.unsuite ok) hND hi hln hq
            cases f with
            | next => exact hsp.elim fun σ6 z => z.elim fun H6 z => unb z.1 fun s7 J7 => ⟨_, _, J7, z.2⟩
            | brk => exact hsp.elim fun σ6 z => z.elim fun H6 z => unb z.1 fun s7 J7 => ⟨_, _, J7, z.2⟩
            | cont => exact hsp.elim fun σ6 z => z.elim fun H6 z => unb z.1 fun s7 J7 => ⟨_, _, J7, z.2⟩
            | ret u =>
              obtain ⟨v6, σ6, H6, S6, z⟩ := hsp
              exact unb S6 fun s7 J7 => ⟨v6, _, _, J7, z⟩
    exact go hh w
  refine wpAny_mono ((hb (wHs c c.W D l) _ (h.tr (pn := X.pn ++ pins) (xe := XE') T PassesOwn.looking)).run [] s σ H D (I.toTry _) hq) (fun f s1 hsp => ?_) (fun e s1 he => he)
  cases f with
  | next => exact hsp.elim fun σ1 z => z.elim fun H1 z => wpAny_execs_nil ⟨σ1, H1, z.1.ofTry ok, z.2⟩
  | brk => exact hsp.elim fun σ1 z => z.elim fun H1 z => ⟨σ1, H1, z.1.ofTry ok, z.2⟩
  | cont => exact hsp.elim fun σ1 z => z.elim fun H1 z => ⟨σ1, H1, z.1.ofTry ok, z.2⟩
  | ret u =>
    obtain ⟨v, σ1, H1, J, z⟩ := hsp
    exact ⟨v, σ1, H1, J.ofTry ok, z⟩
end
end Rw

namespace Rw
open PySem PySem.Spec PyProof.Rows L2
section
variable {c : Cn} {a b e o : Expr} {es : List Expr} {ta tb te to : TE} {tA : TA} {pos apos p : Pos} {x m : Str}
/-! ### a new object that nobody will change -/
def tFrz (te : TE) : TE := fun σ H Q => te σ H fun v H1 => ∃ a u, v = .ref a ∧ H1 a = some u ∧ Mut (some u) ∧ ∀ od, Q v (upd H1 a (.frz od u))
theorem g_frz (h : GE c e te) : GE c e (tFrz te) := fun X b => ⟨fun pins s σ H Q I hq => thn ((h X b).run pins s σ H _ I hq) fun v s1 z => by
  obtain ⟨x, H1, I1, r, a, u, rfl, ea, mu, q⟩ := z
  obtain ⟨od, I2⟩ := I1.lock ea mu
  exact ⟨.ref a, _, I2, r, q od⟩⟩
/-! ### xs.count(y), xs.index(y), xs of flat items -/
theorem count_eqU {x : V} : ∀ {xs : List V} {us : List Value}, Vals xs us → xs.all flatV = true → us.countP (eqU x) = xs.countP fun y => eqV y x
  | _, _, .nil, _ => rfl
  | y :: xs, u :: us, .cons r t, f => by
    rw [List.all_cons, Bool.and_eq_true] at f
    rw [List.countP_cons, List.countP_cons, count_eqU t f.2, eqU_of r f.1]
def rCount (K : PySem.W.Frag) : V → List V → Hp → VK → Prop := fun x vs H Q => ∃ p xs y, x = .ref p ∧ vs = [y] ∧ SqL K H p xs ∧ flatV y = true ∧ xs.all flatV = true ∧ Q (.int ((xs.countP fun z => eqV z y : Nat) : Int)) H
theorem mt_count {X : Cx} : MtR X "list.count" (rCount X.K) := by
  intro pins s σ H x xs v us Q I rx rs h
  obtain ⟨p, ys, y, rfl, rfl, hq, fy, fs, q⟩ := h
  cases rx
  obtain ⟨u, rfl, ry⟩ := vals1 rs
  obtain ⟨its, r, pl, hz⟩ := I.list hq
  obtain ⟨⟨cls, dd, dt, sl⟩, n, ho, hc, hdd, hd⟩ := pl
  simp only at hc hdd hd
  subst hc
  subst hdd
  subst hd
  refine call_meets PySem.F.slot_list_count ⟨_, ho, rfl⟩ PySem.F.entry_list_count (PySem.F.args_list_count_2 _ _) (SeqAt.list_countAt p its.toArray n none sl u (eqU y))
    ⟨ho, fun w hw => mem_eqAt ry fy r fs w (by simpa using hw), ⟨.int ((ys.countP fun z => eqV z y : Nat) : Int), H, I.tok _, ⟨s.toks, by rw [← count_eqU r fs]⟩, q⟩⟩
theorem m_count : BMt c "list" "count" "list.count" (rCount c.K) := ⟨PySem.F.plainAttrs_list, PySem.F.slot_list_count, PySem.F.type_list_count, fun X h => by
  have := mt_count (X := X)
  rw [h.hK] at this
  exact this⟩
def rIndex (K : PySem.W.Frag) : V → List V → Hp → VK → Prop := fun x vs H Q => ∃ (p : Addr) (xs : List V) (y : V) (j : Nat), x = .ref p ∧ vs = [y] ∧ SqL K H p xs ∧ flatV y = true ∧ xs.all flatV = true ∧ (∃ z, xs[j]? = some z ∧ eqV z y = true) ∧ (∀ m z, m < j → xs[m]? = some z → eqV z y = false) ∧ Q (.int (j : Int)) H
theorem mt_index {X : Cx} : MtR X "list.index" (rIndex X.K) := by
  intro pins s σ H x xs v us Q I rx rs h
  obtain ⟨p, ys, y, j, rfl, rfl, hq, fy, fs, ⟨z, hy, hit⟩, hno, q⟩ := h
  cases rx
  obtain ⟨u, rfl, ry⟩ := vals1 rs
  obtain ⟨its, r, pl, hz⟩ := I.list hq
  obtain ⟨⟨cls, dd, dt, sl⟩, n, ho, hc, hdd, hd⟩ := pl
  simp only at hc hdd hd
  subst hc
  subst hdd
  subst hd
  have hl : its.toArray.size = ys.length := by rw [List.size_toArray, ← r.length]
  have hj : j < its.toArray.size := by rw [hl]; exact (List.getElem?_eq_some_iff.mp hy).1
  have at' : ∀ (m : Nat) (hm : m < its.toArray.size), ∃ z, ys[m]? = some z ∧ eqU y its.toArray[m] = eqV z y := fun m hm => by
    have hm' : m < ys.length := by rw [← hl]; exact hm
    obtain ⟨w, hw, hw'⟩ := r.get (i := m) (x := ys[m]) (by simp [hm'])
    refine ⟨ys[m], List.getElem?_eq_getElem hm', ?_⟩
    have e := (List.getElem?_eq_some_iff.mp hw).2
    rw [← eqU_of hw' (List.all_eq_true.mp fs _ (List.getElem_mem hm')), ← e]
    simp
  refine call_meets PySem.F.slot_list_index ⟨_, ho, rfl⟩ PySem.F.entry_list_index (PySem.F.args_list_index_2 _ _) (SeqAt.list_indexAt p its.toArray n none sl u (eqU y) j hj ?_ ?_ ?_)
    ⟨ho, fun w hw => mem_eqAt ry fy r fs w (by simpa using hw), ⟨.int (j : Int), H, I.tok _, ⟨_, rfl⟩, q⟩⟩
  · have : sizeLine < 2 ^ 62 := by decide
    omega
  · obtain ⟨z', h1, h2⟩ := at' j hj
    rw [hy] at h1
    cases h1
    rw [h2, hit]
  · intro m hm hmj
    obtain ⟨z', h1, h2⟩ := at' m hm
    rw [h2]
    exact hno m z' hmj h1
theorem m_index : BMt c "list" "index" "list.index" (rIndex c.K) := ⟨PySem.F.plainAttrs_list, PySem.F.slot_list_index, PySem.F.type_list_index, fun X h => by
  have := mt_index (X := X)
  rw [h.hK] at this
  exact this⟩
end
end Rw

namespace Rw
open PySem PySem.Spec PyProof.Rows L2
/-! ### trees: what a value is, objects and all -/
inductive T where
  | any | non | bl (b : Bool) | int (i : Int) | str (s : Str) | ty (n : String) | glo (x : Str)
  | tup (xs : List T) | frz (xs : List T) | lst (xs : List T) | dct (ks : List (Key × T)) | ins (C : Str) (fs : List (Str × T)) | exn (a : Addr) (d : Option Addr) (C : Str) (fs : List (Str × T)) | fzd
/-- sets of places -/
abbrev Sa := Addr → Prop
def Sub (A B : Sa) : Prop := ∀ q, A q → B q
def Dj (A B : Sa) : Prop := ∀ q, A q → B q → False
def Uni (A B : Sa) : Sa := fun q => A q ∨ B q
theorem Sub.rfl {A : Sa} : Sub A A := fun _ h => h
theorem Sub.trans {A B C : Sa} (h : Sub A B) (h2 : Sub B C) : Sub A C := fun q z => h2 q (h q z)
theorem Dj.sub {A B A' B' : Sa} (h : Dj A B) (h1 : Sub A' A) (h2 : Sub B' B) : Dj A' B' := fun q a b => h q (h1 q a) (h2 q b)
theorem Dj.symm {A B : Sa} (h : Dj A B) : Dj B A := fun q a b => h q b a
theorem Sub.l {A B : Sa} : Sub A (Uni A B) := fun _ h => .inl h
theorem Sub.r {A B : Sa} : Sub B (Uni A B) := fun _ h => .inr h
theorem noM_sub {A : Sa} : Sub noM A := fun _ h => h.elim
theorem noM_dj {A : Sa} : Dj noM A := fun _ h _ => h.elim
theorem dj_noM {A : Sa} : Dj A noM := fun _ _ h => h.elim
/-- a list that nobody may write -/
def FzL (K : PySem.W.Frag) (H : Hp) (a : Addr) (xs : List V) : Prop := (∃ o, H a = some (.frz o (.lst xs))) ∨
    ∃ (o : Obj) (its : Array Value) (n : Nat), K.lookup a = some o ∧ o.cls = .type "list" ∧ o.dict = none ∧ o.data = .seq its n ∧ its.size ≤ sizeLine ∧ Vals xs its.toList
theorem FzL.seq {K : PySem.W.Frag} {H : Hp} {a : Addr} {xs : List V} (h : FzL K H a xs) : SqL K H a xs := by
  rcases h with ⟨o, h⟩ | h
  · exact .inl (.inr ⟨o, h⟩)
  · exact .inr h
mutual
inductive Rp (K : PySem.W.Frag) (H : Hp) : V → T → Sa → Prop
  | any {v A} : Rp K H v .any A
  | non {A} : Rp K H .non .non A
  | bl {b A} : Rp K H (.bl b) (.bl b) A
  | int {i A} : Rp K H (.int i) (.int i) A
  | str {s A} : Rp K H (.str s) (.str s) A
  | ty {n A} : Rp K H (.ty n) (.ty n) A
  | glo {x A} : Rp K H (.ref (He.ga K x)) (.glo x) A
  | tup {a xs ts A} (h : SqT K H a xs) (r : RpL K H xs ts A) : Rp K H (.ref a) (.tup ts) A
  | frz {a xs ts A} (h : FzL K H a xs) (r : RpL K H xs ts noM) : Rp K H (.ref a) (.frz ts) A
  | lst {a xs ts A A1} (m : A a) (h : H a = some (.lst xs)) (s : ∀ q, A1 q → A q ∧ q ≠ a) (r : RpL K H xs ts A1) : Rp K H (.ref a) (.lst ts) A
  | dct {a kvs ks A A1} (m : A a) (h : Rd H a (.dK kvs)) (s : ∀ q, A1 q → A q ∧ q ≠ a) (e : kvs.map (·.1) = ks.map (·.1)) (nd : (ks.map (·.1)).Nodup) (r : RpL K H (kvs.map (·.2)) (ks.map (·.2)) A1) : Rp K H (.ref a) (.dct ks) A
  | ins {a C dx fs ts A A1} (m : A a) (h : H a = some (.ins (He.ga K C) dx fs)) (s : ∀ q, A1 q → A q ∧ q ≠ a) (e : fs.map (·.1) = ts.map (·.1)) (r : RpL K H (fs.map (·.2)) (ts.map (·.2)) A1) : Rp K H (.ref a) (.ins C ts) A
  | exn0 {a C A} : Rp K H (.ref a) (.exn a none C []) A
  | exn1 {a dd C fs ts A} (ne : ts ≠ []) (h : H dd = some (.xd fs)) (e : fs.map (·.1) = ts.map (·.1)) (r : RpL K H (fs.map (·.2)) (ts.map (·.2)) noM) : Rp K H (.ref a) (.exn a (some dd) C ts) A
  | fzd {a o A} (h : H a = some (.frz o (.dK []))) : Rp K H (.ref a) .fzd A
inductive RpL (K : PySem.W.Frag) (H : Hp) : List V → List T → Sa → Prop
  | nil {A} : RpL K H [] [] A
  | cons {x xs t ts A A1 A2} (h1 : Rp K H x t A1) (h2 : RpL K H xs ts A2) (s1 : Sub A1 A) (s2 : Sub A2 A) (d : Dj A1 A2) : RpL K H (x :: xs) (t :: ts) A
end

/-- what a change of the heap keeps of the places in A, and of all that never changes -/
structure Kp (K : PySem.W.Frag) (A : Sa) (H H' : Hp) : Prop where
  l : ∀ q xs, A q → H q = some (.lst xs) → H' q = some (.lst xs)
  d : ∀ q xs, A q → Rd H q (.dK xs) → Rd H' q (.dK xs)
  i : ∀ q C dx fs, A q → H q = some (.ins C dx fs) → H' q = some (.ins C dx fs)
  t : ∀ q xs, SqT K H q xs → SqT K H' q xs
  f : ∀ q xs, FzL K H q xs → FzL K H' q xs
  x : ∀ q fs, H q = some (.xd fs) → H' q = some (.xd fs)
  z : ∀ q o, H q = some (.frz o (.dK [])) → H' q = some (.frz o (.dK []))
theorem Kp.sub {K : PySem.W.Frag} {A B : Sa} {H H' : Hp} (k : Kp K A H H') (s : Sub B A) : Kp K B H H' :=
  ⟨fun q xs m => k.l q xs (s q m), fun q xs m => k.d q xs (s q m), fun q C dx fs m => k.i q C dx fs (s q m), k.t, k.f, k.x, k.z⟩
mutual
theorem Rp.mono {K : PySem.W.Frag} {H H' : Hp} : ∀ {v : V} {t : T} {A : Sa}, Rp K H v t A → Kp K A H H' → Rp K H' v t A
  | _, _, _, .any, _ => .any
  | _, _, _, .non, _ => .non
  | _, _, _, .bl, _ => .bl
  | _, _, _, .int, _ => .int
  | _, _, _, .str, _ => .str
  | _, _, _, .ty, _ => .ty
  | _, _, _, .glo, _ => .glo
  | _, _, _, .tup h r, k => .tup (k.t _ _ h) (RpL.mono r k)
  | _, _, _, .frz h r, k => .frz (k.f _ _ h) (RpL.mono r (k.sub noM_sub))
  | _, _, _, .lst m h s r, k => .lst m (k.l _ _ m h) s (RpL.mono r (k.sub fun q z => (s q z).1))
  | _, _, _, .dct m h s e nd r, k => .dct m (k.d _ _ m h) s e nd (RpL.mono r (k.sub fun q z => (s q z).1))
  | _, _, _, .ins m h s e r, k => .ins m (k.i _ _ _ _ m h) s e (RpL.mono r (k.sub fun q z => (s q z).1))
  | _, _, _, .exn0, _ => .exn0
  | _, _, _, .exn1 ne h e r, k => .exn1 ne (k.x _ _ h) e (RpL.mono r (k.sub noM_sub))
  | _, _, _, .fzd h, k => .fzd (k.z _ _ h)
theorem RpL.mono {K : PySem.W.Frag} {H H' : Hp} : ∀ {vs : List V} {ts : List T} {A : Sa}, RpL K H vs ts A → Kp K A H H' → RpL K H' vs ts A
  | _, _, _, .nil, _ => .nil
  | _, _, _, .cons h1 h2 s1 s2 d, k => .cons (Rp.mono h1 (k.sub s1)) (RpL.mono h2 (k.sub s2)) s1 s2 d
end
theorem Rp.weak {K : PySem.W.Frag} {H : Hp} : ∀ {v : V} {t : T} {A B : Sa}, Rp K H v t A → Sub A B → Rp K H v t B
  | _, _, _, _, .any, _ => .any
  | _, _, _, _, .non, _ => .non
  | _, _, _, _, .bl, _ => .bl
  | _, _, _, _, .int, _ => .int
  | _, _, _, _, .str, _ => .str
  | _, _, _, _, .ty, _ => .ty
  | _, _, _, _, .glo, _ => .glo
  | _, _, _, _, .tup h r, s => by
    refine .tup h ?_
    cases r with
    | nil => exact .nil
    | cons h1 h2 s1 s2 d => exact .cons h1 h2 (s1.trans s) (s2.trans s) d
  | _, _, _, _, .frz h r, _ => .frz h r
  | _, _, _, _, .lst m h z r, s => .lst (s _ m) h (fun q y => ⟨s _ (z q y).1, (z q y).2⟩) r
  | _, _, _, _, .dct m h z e nd r, s => .dct (s _ m) h (fun q y => ⟨s _ (z q y).1, (z q y).2⟩) e nd r
  | _, _, _, _, .ins m h z e r, s => .ins (s _ m) h (fun q y => ⟨s _ (z q y).1, (z q y).2⟩) e r
  | _, _, _, _, .exn0, _ => .exn0
  | _, _, _, _, .exn1 ne h e r, _ => .exn1 ne h e r
  | _, _, _, _, .fzd h, _ => .fzd h
theorem RpL.weak {K : PySem.W.Frag} {H : Hp} {vs : List V} {ts : List T} {A B : Sa} (r : RpL K H vs ts A) (s : Sub A B) : RpL K H vs ts B := by
  cases r with
  | nil => exact .nil
  | cons h1 h2 s1 s2 d => exact .cons h1 h2 (s1.trans s) (s2.trans s) d
/-- a place with an object that may be written -/
def Mt (H : Hp) (q : Addr) : Prop := (∃ xs, H q = some (.lst xs)) ∨ (∃ xs, H q = some (.dK xs)) ∨ ∃ C dx fs, H q = some (.ins C dx fs)
/-- a place that has something -/
def At (H : Hp) (q : Addr) : Prop := H q ≠ none
mutual
/-- only the places that have something count -/
theorem Rp.cut {K : PySem.W.Frag} {H : Hp} {P : Sa} (hl : ∀ q xs, H q = some (.lst xs) → P q) (hd : ∀ q xs, Rd H q (.dK xs) → P q) (hi : ∀ q C dx fs, H q = some (.ins C dx fs) → P q) : ∀ {v : V} {t : T} {A : Sa}, Rp K H v t A → Rp K H v t (fun q => A q ∧ P q)
  | _, _, _, .any => .any
  | _, _, _, .non => .non
  | _, _, _, .bl => .bl
  | _, _, _, .int => .int
  | _, _, _, .str => .str
  | _, _, _, .ty => .ty
  | _, _, _, .glo => .glo
  | _, _, _, .tup h r => .tup h (RpL.cut hl hd hi r)
  | _, _, _, .frz h r => .frz h r
  | _, _, _, .lst m h s r => .lst ⟨m, hl _ _ h⟩ h (fun q z => ⟨⟨(s q z.1).1, z.2⟩, (s q z.1).2⟩) (RpL.cut hl hd hi r)
  | _, _, _, .dct m h s e nd r => .dct ⟨m, hd _ _ h⟩ h (fun q z => ⟨⟨(s q z.1).1, z.2⟩, (s q z.1).2⟩) e nd (RpL.cut hl hd hi r)
  | _, _, _, .ins m h s e r => .ins ⟨m, hi _ _ _ _ h⟩ h (fun q z => ⟨⟨(s q z.1).1, z.2⟩, (s q z.1).2⟩) e (RpL.cut hl hd hi r)
  | _, _, _, .exn0 => .exn0
  | _, _, _, .exn1 ne h e r => .exn1 ne h e r
  | _, _, _, .fzd h => .fzd h
theorem RpL.cut {K : PySem.W.Frag} {H : Hp} {P : Sa} (hl : ∀ q xs, H q = some (.lst xs) → P q) (hd : ∀ q xs, Rd H q (.dK xs) → P q) (hi : ∀ q C dx fs, H q = some (.ins C dx fs) → P q) : ∀ {vs : List V} {ts : List T} {A : Sa}, RpL K H vs ts A → RpL K H vs ts (fun q => A q ∧ P q)
  | _, _, _, .nil => .nil
  | _, _, _, .cons h1 h2 s1 s2 d => .cons (Rp.cut hl hd hi h1) (RpL.cut hl hd hi h2) (fun q z => ⟨s1 q z.1, z.2⟩) (fun q z => ⟨s2 q z.1, z.2⟩) (fun q a b => d q a.1 b.1)
end
theorem Rp.at_ {K : PySem.W.Frag} {H : Hp} {v : V} {t : T} {A : Sa} (h : Rp K H v t A) : Rp K H v t (fun q => A q ∧ At H q) :=
  Rp.cut (fun q xs e => by unfold At; rw [e]; simp) (fun q xs e => by unfold At; rcases e with e | ⟨o, e⟩ <;> (rw [e]; simp)) (fun q C dx fs e => by unfold At; rw [e]; simp) h
/-! trees without any object that may be written -/
mutual
def T.im : T → Bool
  | .non => true
  | .bl _ => true
  | .int _ => true
  | .str _ => true
  | .ty _ => true
  | .glo _ => true
  | .tup xs => T.imL xs
  | .frz _ => true
  | .exn _ _ _ _ => true
  | .fzd => true
  | _ => false
def T.imL : List T → Bool
  | [] => true
  | x :: xs => x.im && T.imL xs
end
mutual
theorem Rp.im {K : PySem.W.Frag} {H : Hp} {B : Sa} : ∀ {v : V} {t : T} {A : Sa}, Rp K H v t A → t.im = true → Rp K H v t B
  | _, _, _, .any, h => by cases h
  | _, _, _, .non, _ => .non
  | _, _, _, .bl, _ => .bl
  | _, _, _, .int, _ => .int
  | _, _, _, .str, _ => .str
  | _, _, _, .ty, _ => .ty
  | _, _, _, .glo, _ => .glo
  | _, _, _, .tup h r, e => .tup h (RpL.weak (RpL.im r (by simpa [T.im] using e)) noM_sub)
  | _, _, _, .frz h r, _ => .frz h r
  | _, _, _, .lst m h s r, e => by cases e
  | _, _, _, .dct m h s _ _ r, e => by cases e
  | _, _, _, .ins m h s _ r, e => by cases e
  | _, _, _, .exn0, _ => .exn0
  | _, _, _, .exn1 ne h e r, _ => .exn1 ne h e r
  | _, _, _, .fzd h, _ => .fzd h
theorem RpL.im {K : PySem.W.Frag} {H : Hp} : ∀ {vs : List V} {ts : List T} {A : Sa}, RpL K H vs ts A → T.imL ts = true → RpL K H vs ts noM
  | _, _, _, .nil, _ => .nil
  | _, _, _, .cons h1 h2 s1 s2 d, e => by
    simp only [T.imL, Bool.and_eq_true] at e
    exact .cons (Rp.im (B := noM) h1 e.1) (RpL.im h2 e.2) Sub.rfl Sub.rfl noM_dj
end
theorem RpL.len {K : PySem.W.Frag} {H : Hp} : ∀ {vs : List V} {ts : List T} {A : Sa}, RpL K H vs ts A → vs.length = ts.length
  | _, _, _, .nil => rfl
  | _, _, _, .cons h1 h2 s1 s2 d => by rw [List.length_cons, List.length_cons, RpL.len h2]
/-- one of them -/
theorem RpL.get {K : PySem.W.Frag} {H : Hp} : ∀ {vs : List V} {ts : List T} {A : Sa} {k : Nat} {t : T}, RpL K H vs ts A → ts[k]? = some t → ∃ v, vs[k]? = some v ∧ Rp K H v t A
  | _, _, _, _, _, .nil, e => by simp at e
  | _, _, _, 0, _, .cons h1 h2 s1 s2 d, e => by
    simp only [List.getElem?_cons_zero, Option.some.injEq] at e
    subst e
    exact ⟨_, rfl, h1.weak s1⟩
  | _, _, _, k + 1, _, .cons h1 h2 s1 s2 d, e => by
    obtain ⟨v, e1, h⟩ := RpL.get (k := k) h2 (by simpa using e)
    exact ⟨v, by simpa using e1, h.weak s2⟩
theorem RpL.getV {K : PySem.W.Frag} {H : Hp} {vs : List V} {ts : List T} {A : Sa} {k : Nat} {v : V} (r : RpL K H vs ts A) (e : vs[k]? = some v) : ∃ t, ts[k]? = some t ∧ Rp K H v t A := by
  have hk : k < ts.length := by
    rw [← r.len]
    exact (List.getElem?_eq_some_iff.mp e).1
  obtain ⟨v', e1, h⟩ := r.get (List.getElem?_eq_getElem hk)
  rw [e] at e1
  cases e1
  exact ⟨_, List.getElem?_eq_getElem hk, h⟩
/-- one of them taken out, another one put in -/
theorem RpL.focus {K : PySem.W.Frag} {H : Hp} : ∀ {vs : List V} {ts : List T} {A : Sa} {k : Nat} {t : T}, RpL K H vs ts A → ts[k]? = some t → ∃ v B C, vs[k]? = some v ∧ Rp K H v t B ∧ Sub B A ∧ Sub C A ∧ Dj B C ∧
    ∀ H' v' t' B', Kp K C H H' → Rp K H' v' t' B' → Dj B' C → RpL K H' (vs.set k v') (ts.set k t') (Uni B' C)
  | _, _, _, _, _, .nil, e => by simp at e
  | _, _, _, 0, _, .cons (A1 := A1) (A2 := A2) h1 h2 s1 s2 d, e => by
    simp only [List.getElem?_cons_zero, Option.some.injEq] at e
    subst e
    exact ⟨_, A1, A2, rfl, h1, s1, s2, d, fun H' v' t' B' k r dj => .cons r (h2.mono k) Sub.l Sub.r dj⟩
  | _, _, _, k + 1, _, .cons (A1 := A1) (A2 := A2) h1 h2 s1 s2 d, e => by
    obtain ⟨v, B, C, e1, r, b1, c1, dj, w⟩ := RpL.focus (k := k) h2 (by simpa using e)
    refine ⟨v, B, Uni A1 C, by simpa using e1, r, b1.trans s2, fun q z => z.elim (s1 q) fun y => s2 q (c1 q y), fun q z y => y.elim (fun y => d q y (b1 q z)) fun y => dj q z y, fun H' v' t' B' k r dj' => ?_⟩
    refine .cons (h1.mono (k.sub Sub.l)) (w H' v' t' B' (k.sub Sub.r) r fun q z y => dj' q z (.inr y)) (fun q z => .inr (.inl z)) (fun q z => z.elim .inl fun y => .inr (.inr y)) fun q z y => y.elim (fun y => dj' q y (.inl z)) fun y => d q z (c1 q y)
theorem RpL.append {K : PySem.W.Frag} {H : Hp} : ∀ {vs ws : List V} {ts us : List T} {A B : Sa}, RpL K H vs ts A → RpL K H ws us B → Dj A B → RpL K H (vs ++ ws) (ts ++ us) (Uni A B)
  | _, _, _, _, _, _, .nil, h, _ => h.weak Sub.r
  | _, _, _, _, _, _, .cons h1 h2 s1 s2 d, h, dj => .cons h1 (RpL.append h2 h (dj.sub s2 Sub.rfl)) (fun q z => .inl (s1 q z)) (fun q z => z.elim (fun y => .inl (s2 q y)) .inr) fun q z y => y.elim (d q z) fun y => dj q (s1 q z) y
theorem Rp.one {K : PySem.W.Frag} {H : Hp} {v : V} {t : T} {A : Sa} (h : Rp K H v t A) : RpL K H [v] [t] A := .cons h .nil Sub.rfl (noM_sub) dj_noM
/-! changes of the heap -/
theorem Ext.kp {K : PySem.W.Frag} {A : Sa} {H H' : Hp} (x : Ext noM H H') : Kp K A H H' where
  l := fun q xs _ e => x q _ noM_not e
  d := fun q xs _ e => rd_ext e x fun _ => noM_not
  i := fun q C dx fs _ e => x q _ noM_not e
  t := fun q xs e => by
    rcases e with e | e
    · exact .inl (rd_ext e x fun _ => noM_not)
    · exact .inr e
  f := fun q xs e => by
    rcases e with ⟨o, e⟩ | e
    · exact .inl ⟨o, x q _ noM_not e⟩
    · exact .inr e
  x := fun q fs e => x q _ noM_not e
  z := fun q o e => x q _ noM_not e
theorem mt_no {H : Hp} {q : Addr} (m : Mt H q) : (∀ xs, H q ≠ some (.tup xs)) ∧ (∀ o u, H q ≠ some (.frz o u)) ∧ H q ≠ none := by
  rcases m with ⟨_, m⟩ | ⟨_, m⟩ | ⟨_, _, _, m⟩ <;> (refine ⟨fun xs e => ?_, fun o u e => ?_, fun e => ?_⟩ <;> (rw [m] at e; cases e))
theorem mt_xd {H : Hp} {q : Addr} (m : Mt H q) {fs : List (Str × V)} (e : H q = some (.xd fs)) : False := by
  rcases m with ⟨_, m⟩ | ⟨_, m⟩ | ⟨_, _, _, m⟩ <;> (rw [m] at e; cases e)
/-- all but the places in A, which may be written, is kept -/
theorem Ext.kpM {K : PySem.W.Frag} {A B : Sa} {H H' : Hp} (x : Ext A H H') (m : ∀ q, A q → Mt H q) (d : Dj B A) : Kp K B H H' where
  l := fun q xs b e => x q _ (fun a => d q b a) e
  d := fun q xs b e => rd_ext e x fun _ a => d q b a
  i := fun q C dx fs b e => x q _ (fun a => d q b a) e
  t := fun q xs e => by
    rcases e with e | e
    · rcases e with e | ⟨o, e⟩
      · exact .inl (.inl (x q _ (fun a => (mt_no (m q a)).1 xs e) e))
      · exact .inl (.inr ⟨o, x q _ (fun a => (mt_no (m q a)).2.1 o _ e) e⟩)
    · exact .inr e
  f := fun q xs e => by
    rcases e with ⟨o, e⟩ | e
    · exact .inl ⟨o, x q _ (fun a => (mt_no (m q a)).2.1 o _ e) e⟩
    · exact .inr e
  x := fun q fs e => x q _ (fun a => mt_xd (m q a) e) e
  z := fun q o e => x q _ (fun a => (mt_no (m q a)).2.1 o _ e) e
theorem Ext.nn {H H' : Hp} (x : Ext noM H H') {q : Addr} (e : H' q = none) : H q = none := by
  cases h : H q with
  | none => exact Eq.refl _
  | some o => rw [x q o noM_not h] at e; cases e
/-- a step: all but A is kept; what is A' then was A, or is new -/
structure Step (A : Sa) (H : Hp) (A' : Sa) (H' : Hp) : Prop where
  x : Ext A H H'
  g : ∀ q, A' q → A q ∨ H q = none
theorem Step.rfl {A : Sa} {H : Hp} : Step A H A H := ⟨Ext.rfl, fun _ h => .inl h⟩
theorem Step.trans {A A1 A2 : Sa} {H H1 H2 : Hp} (s : Step A H A1 H1) (s2 : Step A1 H1 A2 H2) : Step A H A2 H2 := by
  refine ⟨fun q o m e => s2.x q o (fun z => ?_) (s.x q o m e), fun q z => ?_⟩
  · rcases s.g q z with y | y
    · exact m y
    · rw [y] at e; cases e
  · rcases s2.g q z with y | y
    · exact s.g q y
    · by_cases a : A q
      · exact .inl a
      · cases h : H q with
        | none => exact .inr (Eq.refl _)
        | some o => rw [s.x q o a h] at y; cases y
theorem Step.sub {A A' B : Sa} {H H' : Hp} (s : Step A H A' H') (h : Sub B A') : Step A H B H' := ⟨s.x, fun q z => s.g q (h q z)⟩
theorem Step.ext {A : Sa} {H H' : Hp} (x : Ext noM H H') : Step A H A H' := ⟨x.up, fun _ h => .inl h⟩
theorem Step.more {A A' B : Sa} {H H' : Hp} (s : Step A H A' H') (d : ∀ q, B q → H q = none) : Step A H (Uni A' B) H' := ⟨s.x, fun q z => z.elim (s.g q) fun y => .inr (d q y)⟩
end Rw

namespace Rw
open PySem PySem.Spec PyProof.Rows L2
/-! ### what is told: a value, an exception, or nothing is said -/
structure Xc where
  cls : Str
  fs : List (Str × T)
inductive Rs (α : Type) where
  | ok (a : α) | exc (x : Xc) | bad
def Rs.bind {α β : Type} : Rs α → (α → Rs β) → Rs β
  | .ok a, f => f a
  | .exc x, _ => .exc x
  | .bad, _ => .bad
def Rs.post {α : Type} (r : Rs α) (o : α → Prop) (e : Xc → Prop) : Prop := match r with
  | .ok a => o a
  | .exc x => e x
  | .bad => False
theorem Rs.post_bind {α β : Type} {r : Rs α} {f : α → Rs β} {o : β → Prop} {e : Xc → Prop} : (r.bind f).post o e = r.post (fun a => (f a).post o e) e := by cases r <;> rfl
theorem Rs.post_mono {α : Type} {r : Rs α} {o o' : α → Prop} {e e' : Xc → Prop} (h : r.post o e) (h1 : ∀ a, o a → o' a) (h2 : ∀ x, e x → e' x) : r.post o' e' := by
  cases r with
  | ok a => exact h1 _ h
  | exc x => exact h2 _ h
  | bad => exact h
def ofO {α : Type} : Option α → Rs α
  | some a => .ok a
  | none => .bad
theorem ofO_post {α : Type} {r : Option α} {o : α → Prop} {e : Xc → Prop} (h : (ofO r).post o e) : ∃ a, r = some a ∧ o a := by
  cases r with
  | some a => exact ⟨a, rfl, h⟩
  | none => exact h.elim
/-! slots -/
inductive Sl where
  | no | bor (t : T) | lnd (t : T) | own (t : T) | par (t : T)
def Sl.t : Sl → Option T
  | .no => none
  | .bor t => some t
  | .lnd t => some t
  | .own t => some t
  | .par t => some t
abbrev Ev := List Sl
structure RpR (K : PySem.W.Frag) (H : Hp) (σ : L2.St) (τ : Ev) : Prop where
  len : τ.length ≤ σ.length
  sl : ∀ (i : Nat) (s : Sl) (t : T), τ[i]? = some s → s.t = some t → ∃ v B, σ[i]? = some (some v) ∧ Rp K H v t B
theorem RpR.ext {K : PySem.W.Frag} {H H' : Hp} {σ : L2.St} {τ : Ev} (h : RpR K H σ τ) (x : Ext noM H H') : RpR K H' σ τ :=
  ⟨h.len, fun i s t e1 e2 => by
    obtain ⟨v, B, e, r⟩ := h.sl i s t e1 e2
    exact ⟨v, B, e, r.mono x.kp⟩⟩
/-- the exception whose class and dict these are -/
def RpX (K : PySem.W.Frag) (H : Hp) (cls : Value) (d : Option Addr) (x : Xc) : Prop := cls = .ref (He.ga K x.cls) ∧ match d with
  | none => x.fs = []
  | some a => x.fs ≠ [] ∧ ∃ fs : List (Str × V), H a = some (.xd fs) ∧ fs.map (·.1) = x.fs.map (·.1) ∧ RpL K H (fs.map (·.2)) (x.fs.map (·.2)) noM
abbrev ExR (K : PySem.W.Frag) (W : WX) (H : Hp) (σ : L2.St) (x : Xc) : Prop := ∀ cls d H', Ext noM H H' → RpX K H' cls d x → W cls d σ H'
theorem ExR.ext {K : PySem.W.Frag} {W : WX} {H H1 : Hp} {σ : L2.St} {x : Xc} (h : ExR K W H σ x) (e : Ext noM H H1) : ExR K W H1 σ x := fun cls d H' z r => h cls d H' (e.trans z) r
/-! ### read-only expressions: what is told stands somewhere | is new -/
abbrev Nw (H : Hp) (B : Sa) : Prop := ∀ q, B q → H q = none
abbrev Fresh (H H' : Hp) (B : Sa) : Prop := ∀ q, B q → H q = none ∧ Mt H' q
theorem mt_ext {H H' : Hp} (x : Ext noM H H') {q : Addr} (m : Mt H q) : Mt H' q := by
  rcases m with ⟨a, m⟩ | ⟨a, m⟩ | ⟨a, b, c, m⟩
  · exact .inl ⟨a, x q _ noM_not m⟩
  · exact .inr (.inl ⟨a, x q _ noM_not m⟩)
  · exact .inr (.inr ⟨a, b, c, x q _ noM_not m⟩)
theorem Ext.fr {H0 H H' : Hp} {B : Sa} (x : Ext noM H0 H) (f : Fresh H H' B) : Fresh H0 H' B := fun q b => ⟨x.nn (f q b).1, (f q b).2⟩
theorem fresh_ext {H H1 H2 : Hp} {B : Sa} (f : Fresh H H1 B) (x : Ext noM H1 H2) : Fresh H H2 B := fun q b => ⟨(f q b).1, mt_ext x (f q b).2⟩
theorem fresh_no {H H' : Hp} : Fresh H H' noM := fun _ h => h.elim
theorem fresh_lst {H : Hp} {p : Addr} {vs : List V} (np : H p = none) : Fresh H (upd H p (.lst vs)) (fun q => q = p) := fun q e => by
  rw [e]
  exact ⟨np, .inl ⟨_, upd_same⟩⟩
theorem fresh_dK {H : Hp} {p : Addr} {vs : List (Key × V)} (np : H p = none) : Fresh H (upd H p (.dK vs)) (fun q => q = p) := fun q e => by
  rw [e]
  exact ⟨np, .inr (.inl ⟨_, upd_same⟩)⟩
abbrev OkR (K : PySem.W.Frag) (H : Hp) (Q : VK) (t : T) : Prop := ∀ v H' B, Ext noM H H' → Rp K H' v t B → Q v H'
abbrev OkF (K : PySem.W.Frag) (H : Hp) (Q : VK) (t : T) : Prop := ∀ v H' B, Ext noM H H' → Rp K H' v t B → Fresh H H' B → Q v H'
def SmR (K : PySem.W.Frag) (W : WX) (te : TE) (pe : Ev → Rs T) : Prop := ∀ σ τ H Q, RpR K H σ τ → (pe τ).post (OkR K H Q) (ExR K W H σ) → te σ H Q
def SmF (K : PySem.W.Frag) (W : WX) (te : TE) (pe : Ev → Rs T) : Prop := ∀ σ τ H Q, RpR K H σ τ → (pe τ).post (OkF K H Q) (ExR K W H σ) → te σ H Q
/-- tests -/
def SmT (K : PySem.W.Frag) (W : WX) (tt : TT) (pt : Ev → Rs Bool) : Prop := ∀ σ τ H (R : Bool → Hp → Prop), RpR K H σ τ → (pt τ).post (fun b => ∀ H', Ext noM H H' → R b H') (ExR K W H σ) → tt σ H R
/-- arguments: each somewhere | all new, apart -/
abbrev EachR (K : PySem.W.Frag) (H : Hp) (vs : List V) (ts : List T) : Prop := Paired (fun v t => ∃ B, Rp K H v t B) vs ts
def SmAR (K : PySem.W.Frag) (W : WX) (ta : TA) (pa : Ev → Rs (List T)) : Prop := ∀ σ τ H (Q : List V → Hp → Prop), RpR K H σ τ → (pa τ).post (fun ts => ∀ vs H', Ext noM H H' → EachR K H' vs ts → Q vs H') (ExR K W H σ) → ta σ H Q
def SmAF (K : PySem.W.Frag) (W : WX) (ta : TA) (pa : Ev → Rs (List T)) : Prop := ∀ σ τ H (Q : List V → Hp → Prop), RpR K H σ τ → (pa τ).post (fun ts => ∀ vs H' B, Ext noM H H' → RpL K H' vs ts B → Fresh H H' B → Q vs H') (ExR K W H σ) → ta σ H Q
section
variable {K : PySem.W.Frag} {W : WX} {te ta tb tc : TE} {pe pa pb pc : Ev → Rs T} {tA : TA} {pA : Ev → Rs (List T)} {t1 t2 : TT} {p1 p2 : Ev → Rs Bool}
theorem SmF.r (h : SmF K W te pe) : SmR K W te pe := fun σ τ H Q r z => h σ τ H Q r (Rs.post_mono z (fun t q v H' B x y _ => q v H' B x y) fun _ q => q)
def imP (pe : Ev → Rs T) : Ev → Rs T := fun τ => (pe τ).bind fun t => if t.im = true then .ok t else .bad
theorem SmR.f (h : SmR K W te pe) : SmF K W te (imP pe) := fun σ τ H Q r z => by
  refine h σ τ H Q r ?_
  unfold imP at z
  rw [Rs.post_bind] at z
  refine Rs.post_mono z (fun t q v H' B x y => ?_) fun _ q => q
  by_cases e : t.im = true
  · rw [if_pos e] at q
    exact q v H' noM x (y.im e) fun _ h => h.elim
  · rw [if_neg e] at q
    exact q.elim
/-! names and constants -/
def varP (i : Nat) : Ev → Rs T := fun τ => match τ[i]? with
  | some s => ofO s.t
  | none => .bad
theorem sm_var (i : Nat) : SmR K W (tVar i) (varP i) := fun σ τ H Q r z => by
  unfold varP at z
  cases e : τ[i]? with
  | none => rw [e] at z; exact z.elim
  | some s =>
    rw [e] at z
    obtain ⟨t, e2, q⟩ := ofO_post z
    obtain ⟨v, B, e3, y⟩ := r.sl i s t e e2
    exact ⟨v, e3, q v H B Ext.rfl y⟩
def cP (t : T) : Ev → Rs T := fun _ => .ok t
theorem sm_int {i : Int} : SmF K W (tC (.int i)) (cP (.int i)) := fun σ τ H Q r z => z _ H noM Ext.rfl .int fun _ h => h.elim
theorem sm_bl {i : Bool} : SmF K W (tC (.bl i)) (cP (.bl i)) := fun σ τ H Q r z => z _ H noM Ext.rfl .bl fun _ h => h.elim
theorem sm_str {i : Str} : SmF K W (tC (.str i)) (cP (.str i)) := fun σ τ H Q r z => z _ H noM Ext.rfl .str fun _ h => h.elim
theorem sm_non : SmF K W (tC .non) (cP .non) := fun σ τ H Q r z => z _ H noM Ext.rfl .non fun _ h => h.elim
theorem sm_ty {n : String} : SmF K W (tC (.ty n)) (cP (.ty n)) := fun σ τ H Q r z => z _ H noM Ext.rfl .ty fun _ h => h.elim
theorem sm_glo {x : Str} : SmF K W (tC (.ref (He.ga K x))) (cP (.glo x)) := fun σ τ H Q r z => z _ H noM Ext.rfl .glo fun _ h => h.elim
/-- a tuple of the module -/
theorem sm_tab {x : Str} (ts : List T) (h : ∃ vs : List V, (∀ H : Hp, SqT K H (He.ga K x) vs) ∧ ∀ H, RpL K H vs ts noM) : SmF K W (tC (.ref (He.ga K x))) (cP (.tup ts)) := fun σ τ H Q r z => by
  obtain ⟨vs, h1, h2⟩ := h
  exact z _ H noM Ext.rfl (.tup (h1 H) (h2 H)) fun _ h => h.elim
/-! two of them, one behind the other -/
def opP (f : T → T → Option T) (pa pb : Ev → Rs T) : Ev → Rs T := fun τ => (pa τ).bind fun x => (pb τ).bind fun y => ofO (f x y)
def OpS (K : PySem.W.Frag) (r : R2) (f : T → T → Option T) : Prop := ∀ x y s t Bx By H Q u, Rp K H x s Bx → Rp K H y t By → f s t = some u → OkF K H Q u → r x y H Q
theorem sm_op {r : R2} {f : T → T → Option T} (o : OpS K r f) (ha : SmR K W ta pa) (hb : SmR K W tb pb) : SmF K W (tOp r ta tb) (opP f pa pb) := fun σ τ H Q h z => by
  unfold opP at z
  rw [Rs.post_bind] at z
  refine ha σ τ H _ h (Rs.post_mono z (fun s q v H1 B x y => ?_) fun _ q => q)
  rw [Rs.post_bind] at q
  refine hb σ τ H1 _ (h.ext x) (Rs.post_mono q (fun t q2 v2 H2 B2 x2 y2 => ?_) fun _ q => q.ext x)
  obtain ⟨u, e, q3⟩ := ofO_post q2
  exact o v v2 s t B B2 H2 Q u (y.mono x2.kp) y2 e fun v3 H3 B3 x3 y3 f3 => q3 v3 H3 B3 ((x.trans x2).trans x3) y3 ((x.trans x2).fr f3)
/-- .. what is told may stand there already -/
def OpA (K : PySem.W.Frag) (r : R2) (f : T → T → Option T) : Prop := ∀ x y s t Bx By H Q u, Rp K H x s Bx → Rp K H y t By → f s t = some u → OkR K H Q u → r x y H Q
theorem sm_opA {r : R2} {f : T → T → Option T} (o : OpA K r f) (ha : SmR K W ta pa) (hb : SmR K W tb pb) : SmR K W (tOp r ta tb) (opP f pa pb) := fun σ τ H Q h z => by
  unfold opP at z
  rw [Rs.post_bind] at z
  refine ha σ τ H _ h (Rs.post_mono z (fun s q v H1 B x y => ?_) fun _ q => q)
  rw [Rs.post_bind] at q
  refine hb σ τ H1 _ (h.ext x) (Rs.post_mono q (fun t q2 v2 H2 B2 x2 y2 => ?_) fun _ q => q.ext x)
  obtain ⟨u, e, q3⟩ := ofO_post q2
  exact o v v2 s t B B2 H2 Q u (y.mono x2.kp) y2 e fun v3 H3 B3 x3 y3 => q3 v3 H3 B3 ((x.trans x2).trans x3) y3
def unP (f : T → Option T) (pa : Ev → Rs T) : Ev → Rs T := fun τ => (pa τ).bind fun x => ofO (f x)
def UnS (K : PySem.W.Frag) (r : V → Hp → VK → Prop) (f : T → Option T) : Prop := ∀ x s Bx H Q u, Rp K H x s Bx → f s = some u → OkF K H Q u → r x H Q
theorem sm_un {r : V → Hp → VK → Prop} {f : T → Option T} (o : UnS K r f) (ha : SmR K W ta pa) : SmF K W (tUn r ta) (unP f pa) := fun σ τ H Q h z => by
  unfold unP at z
  rw [Rs.post_bind] at z
  refine ha σ τ H _ h (Rs.post_mono z (fun s q v H1 B x y => ?_) fun _ q => q)
  obtain ⟨u, e, q3⟩ := ofO_post q
  exact o v s B H1 Q u y e fun v3 H3 B3 x3 y3 f3 => q3 v3 H3 B3 (x.trans x3) y3 (x.fr f3)
/-! arguments -/
def nilP : Ev → Rs (List T) := fun _ => .ok []
def consP (pe : Ev → Rs T) (pA : Ev → Rs (List T)) : Ev → Rs (List T) := fun τ => (pe τ).bind fun x => (pA τ).bind fun xs => .ok (x :: xs)
theorem sm_ar_nil : SmAR K W tNil nilP := fun σ τ H Q h z => z [] H Ext.rfl .nil
theorem each_mono {H H' : Hp} {vs : List V} {ts : List T} (h : EachR K H vs ts) (x : Ext noM H H') : EachR K H' vs ts := Paired.mono (fun v t ⟨B, r⟩ => ⟨B, r.mono x.kp⟩) h
theorem sm_ar_cons (he : SmR K W te pe) (hA : SmAR K W tA pA) : SmAR K W (tCons te tA) (consP pe pA) := fun σ τ H Q h z => by
  unfold consP at z
  rw [Rs.post_bind] at z
  refine he σ τ H _ h (Rs.post_mono z (fun s q v H1 B x y => ?_) fun _ q => q)
  rw [Rs.post_bind] at q
  exact hA σ τ H1 _ (h.ext x) (Rs.post_mono q (fun ts q2 vs H2 x2 e => q2 (v :: vs) H2 (x.trans x2) (.cons ⟨B, y.mono x2.kp⟩ e)) fun _ q => q.ext x)
theorem sm_af_nil : SmAF K W tNil nilP := fun σ τ H Q h z => z [] H noM Ext.rfl .nil fun _ h => h.elim
theorem sm_af_cons (he : SmF K W te pe) (hA : SmAF K W tA pA) : SmAF K W (tCons te tA) (consP pe pA) := fun σ τ H Q h z => by
  unfold consP at z
  rw [Rs.post_bind] at z
  refine he σ τ H _ h (Rs.post_mono z (fun s q v H1 B x y f => ?_) fun _ q => q)
  rw [Rs.post_bind] at q
  refine hA σ τ H1 _ (h.ext x) (Rs.post_mono q (fun ts q2 vs H2 B2 x2 e f2 => ?_) fun _ q => q.ext x)
  refine q2 (v :: vs) H2 (Uni B B2) (x.trans x2) (.cons (y.mono x2.kp) e Sub.l Sub.r fun q a b => (mt_no (f q a).2).2.2 (f2 q b).1) fun q b => b.elim (fresh_ext f x2 q) (x.fr f2 q)
/-- what a built-in function tells -/
def FnS (r : List V → Hp → VK → Prop) (K : PySem.W.Frag) (f : List T → Option T) : Prop := ∀ vs ts H Q u, EachR K H vs ts → f ts = some u → OkF K H Q u → r vs H Q
def cbP (f : List T → Option T) (pA : Ev → Rs (List T)) : Ev → Rs T := fun τ => (pA τ).bind fun ts => ofO (f ts)
theorem sm_cb {r : List V → Hp → VK → Prop} {f : List T → Option T} (o : FnS r K f) (hA : SmAR K W tA pA) : SmF K W (tCB r tA) (cbP f pA) := fun σ τ H Q h z => by
  unfold cbP at z
  rw [Rs.post_bind] at z
  refine hA σ τ H _ h (Rs.post_mono z (fun ts q vs H1 x y => ?_) fun _ q => q)
  obtain ⟨u, e, q3⟩ := ofO_post q
  exact o vs ts H1 Q u y e fun v3 H3 B3 x3 y3 f3 => q3 v3 H3 B3 (x.trans x3) y3 (x.fr f3)
/-! displays -/
def tupP (pA : Ev → Rs (List T)) : Ev → Rs T := fun τ => (pA τ).bind fun ts => if ts.length ≤ sizeLine then .ok (.tup ts) else .bad
def lstP (pA : Ev → Rs (List T)) : Ev → Rs T := fun τ => (pA τ).bind fun ts => if ts.length ≤ sizeLine then .ok (.lst ts) else .bad
theorem sm_tup (hA : SmAF K W tA pA) : SmF K W (tTup tA) (tupP pA) := fun σ τ H Q h z => by
  unfold tupP at z
  rw [Rs.post_bind] at z
  refine hA σ τ H _ h (Rs.post_mono z (fun ts q vs H1 B x y f => ?_) fun _ q => q)
  by_cases l : ts.length ≤ sizeLine
  · rw [if_pos l] at q
    refine ⟨by rw [y.len]; exact l, fun p np => q _ _ B (x.trans (Ext.new np)) (.tup (.inl (.inl upd_same)) (y.mono (Ext.new np).kp)) (fresh_ext f (Ext.new np))⟩
  · rw [if_neg l] at q
    exact q.elim
theorem new_lst {H : Hp} {p : Addr} {vs : List V} {ts : List T} {B : Sa} (np : H p = none) (y : RpL K H vs ts B) (m : ∀ q, B q → Mt H q) : Rp K (upd H p (.lst vs)) (.ref p) (.lst ts) (fun q => q = p ∨ B q) :=
  .lst (.inl rfl) upd_same (A1 := B) (fun q b => ⟨.inr b, fun e => (mt_no (m q b)).2.2 (by rw [e]; exact np)⟩) (y.mono (Ext.new np).kp)
theorem new_im {H : Hp} {p : Addr} {vs : List V} {ts : List T} (np : H p = none) (r : RpL K H vs ts noM) : Rp K (upd H p (.lst vs)) (.ref p) (.lst ts) (fun q => q = p) := (new_lst np r fun _ z => z.elim).weak fun q z => z.elim id fun z => z.elim
theorem sm_lst (hA : SmAF K W tA pA) : SmF K W (tLst tA) (lstP pA) := fun σ τ H Q h z => by
  unfold lstP at z
  rw [Rs.post_bind] at z
  refine hA σ τ H _ h (Rs.post_mono z (fun ts q vs H1 B x y f => ?_) fun _ q => q)
  by_cases l : ts.length ≤ sizeLine
  · rw [if_pos l] at q
    refine ⟨by rw [y.len]; exact l, fun p np => q _ _ _ (x.trans (Ext.new np)) (new_lst np y fun q b => (f q b).2) fun q b => b.elim (x.fr (fresh_lst np) q) (fresh_ext f (Ext.new np) q)⟩
  · rw [if_neg l] at q
    exact q.elim
/-! truth, tests -/
def testP (pe : Ev → Rs T) : Ev → Rs Bool := fun τ => (pe τ).bind fun t => match t with
  | .bl b => .ok b
  | _ => .bad
theorem sm_test (he : SmR K W te pe) : SmT K W (tTest te) (testP pe) := fun σ τ H R h z => by
  unfold testP at z
  rw [Rs.post_bind] at z
  refine he σ τ H _ h (Rs.post_mono z (fun t q v H1 B x y => ?_) fun _ q => q)
  cases t with
  | bl b =>
    cases y
    exact ⟨b, rfl, q H1 x⟩
  | _ => exact q.elim
def T.tru : T → Option Bool
  | .non => some false
  | .bl b => some b
  | .int i => some (i != 0)
  | .str s => if s.length ≤ sizeLine then some ((s.length : Int) != 0) else none
  | .tup xs => some (!xs.isEmpty)
  | .frz xs => some (!xs.isEmpty)
  | .lst xs => some (!xs.isEmpty)
  | _ => none
theorem isE {vs : List V} {ts : List T} (h : vs.length = ts.length) : vs.isEmpty = ts.isEmpty := by
  cases vs <;> cases ts <;> first | rfl | cases h
theorem tru_ok {H : Hp} {v : V} {t : T} {B : Sa} {k : Bool} (h : Rp K H v t B) (e : t.tru = some k) : TruV K v H k := by
  cases h with
  | non => cases e; rfl
  | bl => cases e; rfl
  | int => cases e; rfl
  | @str s _ =>
    have e : (if s.length ≤ sizeLine then some ((s.length : Int) != 0) else none) = some k := e
    split at e
    · cases e
      exact ⟨by assumption, rfl⟩
    · cases e
  | tup h r => cases e; exact .inr (.inl ⟨_, h, by rw [isE r.len]⟩)
  | frz h r => cases e; exact .inl ⟨_, h.seq, by rw [isE r.len]⟩
  | lst m h s r => cases e; exact .inl ⟨_, .inl (.inl h), by rw [isE r.len]⟩
  | _ => cases e
def truP (pe : Ev → Rs T) : Ev → Rs Bool := fun τ => (pe τ).bind fun t => ofO t.tru
theorem sm_tru (he : SmR K W te pe) : SmT K W (tTru K te) (truP pe) := fun σ τ H R h z => by
  unfold truP at z
  rw [Rs.post_bind] at z
  refine he σ τ H _ h (Rs.post_mono z (fun t q v H1 B x y => ?_) fun _ q => q)
  obtain ⟨k, e, q⟩ := ofO_post q
  exact ⟨k, tru_ok y e, q H1 x⟩
def andP (p1 p2 : Ev → Rs Bool) : Ev → Rs Bool := fun τ => (p1 τ).bind fun b => if b = true then p2 τ else .ok false
def orP (p1 p2 : Ev → Rs Bool) : Ev → Rs Bool := fun τ => (p1 τ).bind fun b => if b = true then .ok true else p2 τ
def notP (p1 : Ev → Rs Bool) : Ev → Rs Bool := fun τ => (p1 τ).bind fun b => .ok (!b)
theorem sm_and (h1 : SmT K W t1 p1) (h2 : SmT K W t2 p2) : SmT K W (tAnd t1 t2) (andP p1 p2) := fun σ τ H R h z => by
  unfold andP at z
  rw [Rs.post_bind] at z
  refine h1 σ τ H _ h (Rs.post_mono z (fun b q H1 x => ?_) fun _ q => q)
  cases b with
  | true => exact h2 σ τ H1 R (h.ext x) (Rs.post_mono q (fun b q H2 x2 => q H2 (x.trans x2)) fun _ q => q.ext x)
  | false => exact q H1 x
theorem sm_or (h1 : SmT K W t1 p1) (h2 : SmT K W t2 p2) : SmT K W (tOr t1 t2) (orP p1 p2) := fun σ τ H R h z => by
  unfold orP at z
  rw [Rs.post_bind] at z
  refine h1 σ τ H _ h (Rs.post_mono z (fun b q H1 x => ?_) fun _ q => q)
  cases b with
  | true => exact q H1 x
  | false => exact h2 σ τ H1 R (h.ext x) (Rs.post_mono q (fun b q H2 x2 => q H2 (x.trans x2)) fun _ q => q.ext x)
theorem sm_not (h1 : SmT K W t1 p1) : SmT K W (tNot t1) (notP p1) := fun σ τ H R h z => by
  unfold notP at z
  rw [Rs.post_bind] at z
  exact h1 σ τ H _ h (Rs.post_mono z (fun b q H1 x => q H1 x) fun _ q => q)
def ifP (p1 : Ev → Rs Bool) (pa pb : Ev → Rs T) : Ev → Rs T := fun τ => (p1 τ).bind fun b => if b = true then pa τ else pb τ
theorem sm_ifR (h1 : SmT K W t1 p1) (ha : SmR K W ta pa) (hb : SmR K W tb pb) : SmR K W (tIf t1 ta tb) (ifP p1 pa pb) := fun σ τ H Q h z => by
  unfold ifP at z
  rw [Rs.post_bind] at z
  refine h1 σ τ H _ h (Rs.post_mono z (fun b q H1 x => ?_) fun _ q => q)
  cases b with
  | true => exact ha σ τ H1 Q (h.ext x) (Rs.post_mono q (fun t q v H2 B x2 y => q v H2 B (x.trans x2) y) fun _ q => q.ext x)
  | false => exact hb σ τ H1 Q (h.ext x) (Rs.post_mono q (fun t q v H2 B x2 y => q v H2 B (x.trans x2) y) fun _ q => q.ext x)
theorem sm_if (h1 : SmT K W t1 p1) (ha : SmF K W ta pa) (hb : SmF K W tb pb) : SmF K W (tIf t1 ta tb) (ifP p1 pa pb) := fun σ τ H Q h z => by
  unfold ifP at z
  rw [Rs.post_bind] at z
  refine h1 σ τ H _ h (Rs.post_mono z (fun b q H1 x => ?_) fun _ q => q)
  cases b with
  | true => exact ha σ τ H1 Q (h.ext x) (Rs.post_mono q (fun t q v H2 B x2 y f => q v H2 B (x.trans x2) y (x.fr f)) fun _ q => q.ext x)
  | false => exact hb σ τ H1 Q (h.ext x) (Rs.post_mono q (fun t q v H2 B x2 y f => q v H2 B (x.trans x2) y (x.fr f)) fun _ q => q.ext x)
/-- and, or, not as values -/
def andVP (pa pb : Ev → Rs T) : Ev → Rs T := fun τ => (pa τ).bind fun t => (ofO t.tru).bind fun k => if k = true then pb τ else .ok t
def orVP (pa pb : Ev → Rs T) : Ev → Rs T := fun τ => (pa τ).bind fun t => (ofO t.tru).bind fun k => if k = true then .ok t else pb τ
def notVP (pa : Ev → Rs T) : Ev → Rs T := fun τ => (pa τ).bind fun t => (ofO t.tru).bind fun k => .ok (.bl (!k))
theorem sm_andV (ha : SmF K W ta pa) (hb : SmF K W tb pb) : SmF K W (tAndT K ta tb) (andVP pa pb) := fun σ τ H Q h z => by
  unfold andVP at z
  rw [Rs.post_bind] at z
  refine ha σ τ H _ h (Rs.post_mono z (fun t q v H1 B x y f => ?_) fun _ q => q)
  rw [Rs.post_bind] at q
  obtain ⟨k, e, q⟩ := ofO_post q
  refine ⟨k, tru_ok y e, ?_⟩
  cases k with
  | true => exact hb σ τ H1 Q (h.ext x) (Rs.post_mono q (fun t q v H2 B x2 y f => q v H2 B (x.trans x2) y (x.fr f)) fun _ q => q.ext x)
  | false => exact q v H1 B x y f
theorem sm_orV (ha : SmF K W ta pa) (hb : SmF K W tb pb) : SmF K W (tOrT K ta tb) (orVP pa pb) := fun σ τ H Q h z => by
  unfold orVP at z
  rw [Rs.post_bind] at z
  refine ha σ τ H _ h (Rs.post_mono z (fun t q v H1 B x y f => ?_) fun _ q => q)
  rw [Rs.post_bind] at q
  obtain ⟨k, e, q⟩ := ofO_post q
  refine ⟨k, tru_ok y e, ?_⟩
  cases k with
  | true => exact q v H1 B x y f
  | false => exact hb σ τ H1 Q (h.ext x) (Rs.post_mono q (fun t q v H2 B x2 y f => q v H2 B (x.trans x2) y (x.fr f)) fun _ q => q.ext x)
theorem sm_notV (ha : SmR K W ta pa) : SmF K W (tNotT K ta) (notVP pa) := fun σ τ H Q h z => by
  unfold notVP at z
  rw [Rs.post_bind] at z
  refine ha σ τ H _ h (Rs.post_mono z (fun t q v H1 B x y => ?_) fun _ q => q)
  rw [Rs.post_bind] at q
  obtain ⟨k, e, q⟩ := ofO_post q
  exact ⟨k, tru_ok y e, q _ H1 noM x .bl fun _ h => h.elim⟩
/-- a < b < c -/
def chainP (f g : T → T → Option T) (pa pb pc : Ev → Rs T) : Ev → Rs T := fun τ => (pa τ).bind fun x => (pb τ).bind fun y => (ofO (f x y)).bind fun z => match z with
  | .bl true => (pc τ).bind fun w => ofO (g y w)
  | .bl false => .ok (.bl false)
  | _ => .bad
theorem sm_chain {r r' : R2} {f g : T → T → Option T} (o : OpS K r f) (o' : OpS K r' g) (ha : SmR K W ta pa) (hb : SmR K W tb pb) (hc : SmR K W tc pc) : SmF K W (tChain r r' ta tb tc) (chainP f g pa pb pc) := fun σ τ H Q h z => by
  unfold chainP at z
  rw [Rs.post_bind] at z
  refine ha σ τ H _ h (Rs.post_mono z (fun s q v H1 B x y => ?_) fun _ q => q)
  rw [Rs.post_bind] at q
  refine hb σ τ H1 _ (h.ext x) (Rs.post_mono q (fun t q2 v2 H2 B2 x2 y2 => ?_) fun _ q => q.ext x)
  rw [Rs.post_bind] at q2
  obtain ⟨u, e, q3⟩ := ofO_post q2
  have x12 := x.trans x2
  refine o v v2 s t B B2 H2 _ u (y.mono x2.kp) y2 e fun v3 H3 B3 x3 y3 _ => ?_
  have x13 := x12.trans x3
  cases u with
  | bl b =>
    cases y3
    refine ⟨b, rfl, ?_⟩
    cases b with
    | true =>
      rw [if_pos rfl]
      dsimp only at q3
      rw [Rs.post_bind] at q3
      refine hc σ τ H3 _ (h.ext x13) (Rs.post_mono q3 (fun w q4 v4 H4 B4 x4 y4 => ?_) fun _ q => q.ext x13)
      obtain ⟨u5, e5, q5⟩ := ofO_post q4
      exact o' v2 v4 t w B2 B4 H4 Q u5 ((y2.mono x3.kp).mono x4.kp) y4 e5 fun v6 H6 B6 x6 y6 f6 => q5 v6 H6 B6 ((x13.trans x4).trans x6) y6 ((x13.trans x4).fr f6)
    | false =>
      rw [if_neg Bool.false_ne_true]
      exact q3 _ H3 noM x13 .bl fun _ h => h.elim
  | _ => exact q3.elim
/-! attributes -/
def fieldF (f : Str) : T → Option T
  | .ins _ fs => fs.lookup f
  | _ => none
def attrP (pe : Ev → Rs T) (f : Str) : Ev → Rs T := fun τ => (pe τ).bind fun t => ofO (fieldF f t)
theorem lk_cons {α : Type} (f g : Str) (y : α) (fs : List (Str × α)) : ((f, y) :: fs).lookup g = if g = f then some y else fs.lookup g := by
  by_cases h : g = f
  · subst h
    simp [List.lookup]
  · have e : (g == f) = false := by simpa using h
    rw [if_neg h]
    simp [List.lookup, e]
theorem lookup_ix : ∀ {ts : List (Str × T)} {f : Str} {t : T}, ts.lookup f = some t → ∃ k : Nat, (ts.map (·.2))[k]? = some t ∧ ∀ fs : List (Str × V), fs.map (·.1) = ts.map (·.1) → fs.lookup f = (fs.map (·.2))[k]?
  | (g, x) :: ts, f, t, h => by
    rw [lk_cons] at h
    by_cases e : f = g
    · rw [if_pos e] at h
      cases h
      refine ⟨0, rfl, fun fs hf => ?_⟩
      cases fs with
      | nil => simp at hf
      | cons p fs =>
        obtain ⟨g', v⟩ := p
        simp only [List.map_cons, List.cons.injEq] at hf
        rw [lk_cons, if_pos (e.trans hf.1.symm)]
        rfl
    · rw [if_neg e] at h
      obtain ⟨k, e1, e2⟩ := lookup_ix h
      refine ⟨k + 1, by simpa using e1, fun fs hf => ?_⟩
      cases fs with
      | nil => simp at hf
      | cons p fs =>
        obtain ⟨g', v⟩ := p
        simp only [List.map_cons, List.cons.injEq] at hf
        rw [lk_cons, if_neg (fun z => e (z.trans hf.1)), e2 fs hf.2]
        simp
  | [], _, _, h => by simp at h
def isInsOf (p : Str → Bool) : T → Bool
  | .ins C _ => p C
  | _ => false
def attrPc (ok : Str → Bool) (pe : Ev → Rs T) (f : Str) : Ev → Rs T := fun τ => (pe τ).bind fun t => if isInsOf ok t = true then ofO (fieldF f t) else .bad
def attrOk (fa : List He.Fa) (f : Str) (C : Str) : Bool := hasF (isCls C) fa && hasF (isNoat C f) fa
theorem sm_attr {fa : List He.Fa} {f : Str} (he : SmR K W te pe) : SmR K W (tAttr K fa te f) (attrPc (attrOk fa f) pe f) := fun σ τ H Q h z => by
  unfold attrPc at z
  rw [Rs.post_bind] at z
  refine he σ τ H _ h (Rs.post_mono z (fun t q v H1 B x y => ?_) fun _ q => q)
  by_cases ok : isInsOf (attrOk fa f) t = true
  · rw [if_pos ok] at q
    obtain ⟨u, e, q2⟩ := ofO_post q
    cases y with
    | ins m hh s ee r =>
      obtain ⟨k, e1, e2⟩ := lookup_ix e
      obtain ⟨v', e3, rv⟩ := r.get e1
      unfold isInsOf attrOk at ok
      simp only [Bool.and_eq_true] at ok
      exact ⟨_, _, _, _, v', rfl, hh, ok.1, ok.2, (e2 _ ee).trans e3, q2 v' H1 _ x rv⟩
    | _ => cases e
  · rw [if_neg ok] at q
    exact q.elim
end
end Rw

namespace Rw
open PySem PySem.Spec PyProof.Rows L2
section
variable {K : PySem.W.Frag}
/-! ints -/
def f_add : T → T → Option T
  | .int i, .int j => some (.int (i + j))
  | .str a, .str b => if a.length + b.length ≤ sizeLine then some (.str (a ++ b)) else none
  | .lst xs, .lst ys => if (T.imL xs && T.imL ys) = true ∧ xs.length + ys.length ≤ sizeLine then some (.lst (xs ++ ys)) else none
  | .tup xs, .tup ys => if (T.imL xs && T.imL ys) = true ∧ xs.isEmpty = false ∧ xs.length + ys.length ≤ sizeLine then some (.tup (xs ++ ys)) else none
  | _, _ => none
theorem o_f_add : OpS K (rAddW K) f_add := fun x y s t Bx By H Q u rx ry e h => by
  cases rx with
  | int =>
    cases ry with
    | int => cases e; exact .inl (h _ H noM Ext.rfl .int fresh_no)
    | _ => cases e
  | @str a _ =>
    cases ry with
    | @str b _ =>
      have e : (if a.length + b.length ≤ sizeLine then some (T.str (a ++ b)) else none) = some u := e
      split at e
      · cases e
        exact .inl ⟨by assumption, h _ H noM Ext.rfl .str fresh_no⟩
      · cases e
    | _ => cases e
  | @lst a vs ts _ A1 m1 h1 s1 r1 =>
    cases ry with
    | @lst b ws us _ A2 m2 h2 s2 r2 =>
      have e : (if (T.imL ts && T.imL us) = true ∧ ts.length + us.length ≤ sizeLine then some (T.lst (ts ++ us)) else none) = some u := e
      split at e
      · rename_i z
        obtain ⟨z1, z2⟩ := z
        rw [Bool.and_eq_true] at z1
        cases e
        refine .inl ⟨vs, ws, h1, h2, by rw [r1.len, r2.len]; exact z2, fun p np => h _ _ _ (Ext.new np) (new_im np (((r1.im z1.1).append (r2.im z1.2) noM_dj).weak fun q z => z.elim id id)) (fresh_lst np)⟩
      · cases e
    | _ => cases e
  | @tup a vs ts _ h1 r1 =>
    cases ry with
    | @tup b ws us _ h2 r2 =>
      have e : (if (T.imL ts && T.imL us) = true ∧ ts.isEmpty = false ∧ ts.length + us.length ≤ sizeLine then some (T.tup (ts ++ us)) else none) = some u := e
      split at e
      · rename_i z
        obtain ⟨z1, z3, z2⟩ := z
        rw [Bool.and_eq_true] at z1
        cases e
        refine .inr ⟨a, b, vs, ws, rfl, rfl, h1, h2, fun e => ?_, by rw [r1.len, r2.len]; exact z2, fun e => ?_, fun _ p np => ?_⟩
        · have := isE r1.len
          rw [e, z3] at this
          cases this
        · subst e
          cases us with
          | nil =>
            exact h _ H noM Ext.rfl (.tup h1 (by rw [List.append_nil]; exact r1.im z1.1)) fresh_no
          | cons _ _ => cases r2
        · exact h _ _ noM (Ext.new np) (.tup (.inl (.inl upd_same)) ((((r1.im z1.1).append (r2.im z1.2) noM_dj).weak fun q z => z.elim id id).mono (Ext.new np).kp)) fresh_no
      · cases e
    | _ => cases e
  | _ => cases e
def f_ii (c : Int → Int → Bool) (g : Int → Int → Int) : T → T → Option T
  | .int i, .int j => if c i j = true then some (.int (g i j)) else none
  | _, _ => none
def f_ib (g : Int → Int → Bool) : T → T → Option T
  | .int i, .int j => some (.bl (g i j))
  | _, _ => none
theorem o_ii {r : R2} {c : Int → Int → Bool} {g : Int → Int → Int} (hr : ∀ i j H (Q : VK), c i j = true → Q (.int (g i j)) H → r (.int i) (.int j) H Q) : OpS K r (f_ii c g) := fun x y s t Bx By H Q u rx ry e h => by
  cases rx with
  | @int i _ =>
    cases ry with
    | @int j _ =>
      have e : (if c i j = true then some (T.int (g i j)) else none) = some u := e
      split at e
      · cases e
        exact hr i j H Q (by assumption) (h _ H noM Ext.rfl .int fresh_no)
      · cases e
    | _ => cases e
  | _ => cases e
theorem o_ib {r : R2} {g : Int → Int → Bool} (hr : ∀ i j H (Q : VK), Q (.bl (g i j)) H → r (.int i) (.int j) H Q) : OpS K r (f_ib g) := fun x y s t Bx By H Q u rx ry e h => by
  cases rx with
  | @int i _ =>
    cases ry with
    | @int j _ => cases e; exact hr i j H Q (h _ H noM Ext.rfl .bl fresh_no)
    | _ => cases e
  | _ => cases e
def f_sub : T → T → Option T := f_ii (fun _ _ => true) (fun i j => i - j)
theorem o_f_sub : OpS K rSubU f_sub := o_ii fun i j H Q _ h => v_sub h
def cMul (i j : Int) : Bool := (decide (-(2 ^ 64) < i) && decide (i < 2 ^ 64)) || (decide (-(2 ^ 64) < j) && decide (j < 2 ^ 64))
def f_mul : T → T → Option T
  | .int i, .int j => if cMul i j = true then some (.int (i * j)) else none
  | .lst xs, .int k => if T.imL xs = true ∧ -(2 ^ 63) ≤ k ∧ k < 2 ^ 63 ∧ xs.length * k.toNat ≤ sizeLine then some (.lst (List.replicate k.toNat xs).flatten) else none
  | _, _ => none
theorem cMul_ok {i j : Int} (h : cMul i j = true) : CMul i j := by
  unfold cMul at h
  simp only [Bool.or_eq_true, Bool.and_eq_true, decide_eq_true_eq] at h
  exact h
theorem rpl_rep {H : Hp} {vs : List V} {ts : List T} (r : RpL K H vs ts noM) : ∀ n : Nat, RpL K H (List.replicate n vs).flatten (List.replicate n ts).flatten noM
  | 0 => .nil
  | n + 1 => by
    rw [List.replicate_succ, List.replicate_succ, List.flatten_cons, List.flatten_cons]
    exact (r.append (rpl_rep r n) noM_dj).weak fun q z => z.elim id id
theorem o_f_mul : OpS K rMulU f_mul := fun x y s t Bx By H Q u rx ry e h => by
  cases rx with
  | @int i _ =>
    cases ry with
    | @int j _ =>
      have e : (if cMul i j = true then some (T.int (i * j)) else none) = some u := e
      split at e
      · cases e
        exact v_mul (cMul_ok (by assumption)) (h _ H noM Ext.rfl .int fresh_no)
      · cases e
    | _ => cases e
  | @lst a vs ts _ A1 m1 h1 s1 r1 =>
    cases ry with
    | @int k _ =>
      have e : (if T.imL ts = true ∧ -(2 ^ 63) ≤ k ∧ k < 2 ^ 63 ∧ ts.length * k.toNat ≤ sizeLine then some (T.lst (List.replicate k.toNat ts).flatten) else none) = some u := e
      split at e
      · rename_i z
        obtain ⟨z1, z2, z3, z4⟩ := z
        cases e
        refine ⟨vs, h1, z2, z3, by rw [r1.len]; exact z4, fun p np => h _ _ _ (Ext.new np) (new_im np (rpl_rep (r1.im z1) _)) (fresh_lst np)⟩
      · cases e
    | _ => cases e
  | _ => cases e
def f_mod : T → T → Option T := f_ii (fun _ j => decide (0 < j)) (fun i j => i % j)
theorem o_f_mod : OpS K rModU f_mod := o_ii fun i j H Q c h => v_mod (of_decide_eq_true c) h
def f_div : T → T → Option T := f_ii (fun _ j => decide (0 < j) && decide (j < 2 ^ 30)) (fun i j => i / j)
theorem o_f_div : OpS K rDivU f_div := o_ii fun i j H Q c h => v_div (by
  simp only [Bool.and_eq_true, decide_eq_true_eq] at c
  exact c) h
def f_pow : T → T → Option T := f_ii (fun i j => decide (i = 10) && (decide (0 ≤ j) && decide (j < 64)) || decide (i = 2) && (decide (0 ≤ j) && decide (j < 64))) (fun i j => i ^ j.toNat)
def f_neg : T → Option T
  | .int i => some (.int (-i))
  | _ => none
theorem o_f_neg : UnS K rNegU f_neg := fun x s Bx H Q u rx e h => by
  cases rx with
  | int => cases e; exact v_neg (h _ H noM Ext.rfl .int fresh_no)
  | _ => cases e
def f_lt : T → T → Option T := f_ib fun i j => decide (i < j)
def f_le : T → T → Option T := f_ib fun i j => decide (i ≤ j)
def f_gt : T → T → Option T := f_ib fun i j => decide (j < i)
def f_ge : T → T → Option T := f_ib fun i j => decide (j ≤ i)
theorem o_f_lt : OpS K rLtU f_lt := o_ib fun i j H Q h => v_lt h
theorem o_f_le : OpS K rLeU f_le := o_ib fun i j H Q h => v_le h
theorem o_f_gt : OpS K rGtU f_gt := o_ib fun i j H Q h => v_gt h
theorem o_f_ge : OpS K rGeU f_ge := o_ib fun i j H Q h => v_ge h
/-! data -/
def T.sv : T → Option V
  | .non => some .non
  | .bl b => some (.bl b)
  | .int i => some (.int i)
  | .str s => some (.str s)
  | _ => none
theorem sv_ok {H : Hp} {v : V} {t : T} {B : Sa} (r : Rp K H v t B) {x : V} (e : t.sv = some x) : v = x := by
  cases r <;> first | (cases e; done) | (cases e; rfl)
mutual
def T.dat : T → Option PyData
  | .non => some .none
  | .bl b => some (.bool b)
  | .int i => some (.int i)
  | .str s => some (.str s)
  | .tup xs => (T.datL xs).map .tuple
  | .frz xs => (T.datL xs).map .list
  | .lst xs => (T.datL xs).map .list
  | _ => none
def T.datL : List T → Option (List PyData)
  | [] => some []
  | x :: xs => match x.dat, T.datL xs with
    | some d, some ds => some (d :: ds)
    | _, _ => none
end
mutual
theorem Rp.dp {H : Hp} : ∀ {v : V} {t : T} {B : Sa} {d : PyData}, Rp K H v t B → t.dat = some d → Dp K H v d
  | _, _, _, _, .any, e => by cases e
  | _, _, _, _, .non, e => by cases e; exact .non
  | _, _, _, _, .bl, e => by cases e; exact .bl _
  | _, _, _, _, .int, e => by cases e; exact .int _
  | _, _, _, _, .str, e => by cases e; exact .str _
  | _, _, _, _, .ty, e => by cases e
  | _, _, _, _, .glo, e => by cases e
  | _, _, _, _, .tup h r, e => by
    simp only [T.dat, Option.map_eq_some_iff] at e
    obtain ⟨ds, e, rfl⟩ := e
    exact .tup h (RpL.dp r e)
  | _, _, _, _, .frz h r, e => by
    simp only [T.dat, Option.map_eq_some_iff] at e
    obtain ⟨ds, e, rfl⟩ := e
    exact .lst h.seq (RpL.dp r e)
  | _, _, _, _, .lst m h s r, e => by
    simp only [T.dat, Option.map_eq_some_iff] at e
    obtain ⟨ds, e, rfl⟩ := e
    exact .lst (.inl (.inl h)) (RpL.dp r e)
  | _, _, _, _, .dct m h s _ _ r, e => by cases e
  | _, _, _, _, .ins m h s _ r, e => by cases e
  | _, _, _, _, .exn0, e => by cases e
  | _, _, _, _, .exn1 _ _ _ _, e => by cases e
  | _, _, _, _, .fzd _, e => by cases e
theorem RpL.dp {H : Hp} : ∀ {vs : List V} {ts : List T} {B : Sa} {ds : List PyData}, RpL K H vs ts B → T.datL ts = some ds → DpAll K H vs ds
  | _, _, _, _, .nil, e => by cases e; exact .nil
  | _, _, _, ds, .cons (t := t) (ts := ts) h1 h2 s1 s2 d, e => by
    simp only [T.datL] at e
    split at e
    · rename_i d' ds' e1 e2
      cases e
      exact .cons (Rp.dp h1 e1) (RpL.dp h2 e2)
    · cases e
end
def eqF (s t : T) : Option Bool := match s.sv, t.sv with
  | some x, some y => if scal x y = true then some (decide (x = y)) else none
  | _, _ => match s, t with
    | .dct ks, .dct [] => some ks.isEmpty
    | _, _ => match s.dat, t.dat with
      | some d, some e => if SeqAt.shaped d = true ∧ SeqAt.shaped e = true then some (PyData.eqv d e) else none
      | _, _ => none
def f_eq (s t : T) : Option T := (eqF s t).map .bl
def f_ne (s t : T) : Option T := (eqF s t).map fun b => .bl (!b)
theorem dct_e {kvs : List (Key × V)} {ks : List (Key × T)} (e : kvs.map (·.1) = ks.map (·.1)) : decide (kvs = []) = ks.isEmpty := by
  cases kvs <;> cases ks <;> first | rfl | simp at e
theorem o_eqs {r : R2} {f : T → T → Option T} {n : Bool → Bool} (hf : ∀ s t, f s t = (eqF s t).map fun b => .bl (n b)) (h1 : ∀ x y H (Q : VK), scal x y = true → Q (.bl (n (decide (x = y)))) H → r x y H Q)
    (h2 : ∀ (a b : Addr) (ks : List (Key × V)) H (Q : VK), Rd H a (.dK ks) → Rd H b (.dK []) → Q (.bl (n (decide (ks = [])))) H → r (.ref a) (.ref b) H Q)
    (h3 : ∀ x y d e H (Q : VK), Dp K H x d → Dp K H y e → SeqAt.shaped d = true → SeqAt.shaped e = true → Q (.bl (n (PyData.eqv d e))) H → r x y H Q) : OpS K r f := fun x y s t Bx By H Q u rx ry e h => by
  rw [hf] at e
  obtain ⟨b, eb, rfl⟩ := Option.map_eq_some_iff.mp e
  clear e
  have q : ∀ b', b' = b → Q (.bl (n b')) H := fun b' e' => by rw [e']; exact h _ H noM Ext.rfl .bl fresh_no
  unfold eqF at eb
  split at eb
  · rename_i v w e1 e2
    split at eb
    · rename_i sc
      cases eb
      rw [sv_ok rx e1, sv_ok ry e2]
      exact h1 _ _ _ _ sc (q _ rfl)
    · cases eb
  · split at eb
    · cases eb
      cases rx with
      | @dct _ kvs _ _ _ m1 g1 s1 e1 nd1 r1 =>
        cases ry with
        | @dct _ lvs _ _ _ m2 g2 s2 e2 nd2 r2 =>
          have z : lvs = [] := by
            cases lvs with
            | nil => rfl
            | cons _ _ => simp at e2
          subst z
          exact h2 _ _ _ _ _ g1 g2 (q _ (dct_e e1))
    · split at eb
      · rename_i d d' e1 e2
        split at eb
        · rename_i sh
          cases eb
          exact h3 _ _ d d' _ _ (rx.dp e1) (ry.dp e2) sh.1 sh.2 (q _ rfl)
        · cases eb
      · cases eb
theorem o_f_eq : OpS K (rEqW K) f_eq := o_eqs (n := id) (fun _ _ => rfl) (fun x y H Q s q => .inl ⟨s, q⟩) (fun a b ks H Q h1 h2 q => .inr (.inr ⟨a, b, ks, rfl, rfl, h1, h2, q⟩)) fun x y d e H Q h1 h2 s1 s2 q => .inr (.inl ⟨d, e, h1, h2, s1, s2, q⟩)
theorem o_f_ne : OpS K (rNeW K) f_ne := o_eqs (n := not) (fun _ _ => rfl) (fun x y H Q s q => .inl ⟨s, q⟩) (fun a b ks H Q h1 h2 q => .inr (.inr ⟨a, b, ks, rfl, rfl, h1, h2, q⟩)) fun x y d e H Q h1 h2 s1 s2 q => .inr (.inl ⟨d, e, h1, h2, s1, s2, q⟩)
/-! None -/
def T.isN : T → Option Bool
  | .non => some true
  | .any => none
  | _ => some false
def f_is : T → T → Option T := fun s t => match t with
  | .non => s.isN.map .bl
  | _ => none
def f_isnt : T → T → Option T := fun s t => match t with
  | .non => s.isN.map fun b => .bl (!b)
  | _ => none
theorem isN_ok {H : Hp} {v : V} {t : T} {B : Sa} (r : Rp K H v t B) {b : Bool} (e : t.isN = some b) : decide (v = .non) = b := by
  cases r <;> first | (cases e; done) | (cases e; simp)
theorem o_f_is : OpS K rIsU f_is := fun x y s t Bx By H Q u rx ry e h => by
  cases ry with
  | non =>
    obtain ⟨b, eb, rfl⟩ := Option.map_eq_some_iff.mp (show s.isN.map T.bl = some u from e)
    exact ⟨rfl, by rw [isN_ok rx eb]; exact h _ H noM Ext.rfl .bl fresh_no⟩
  | _ => cases e
theorem o_f_isnt : OpS K rIsntU f_isnt := fun x y s t Bx By H Q u rx ry e h => by
  cases ry with
  | non =>
    obtain ⟨b, eb, rfl⟩ := Option.map_eq_some_iff.mp (show (s.isN.map fun b => T.bl (!b)) = some u from e)
    exact ⟨rfl, by rw [isN_ok rx eb]; exact h _ H noM Ext.rfl .bl fresh_no⟩
  | _ => cases e
/-! dicts -/
def val {α : Type} (ks : List (Key × α)) (k : Key) : Option α := (ks.find? fun p => decide (p.1 = k)).map (·.2)
def put {α : Type} (ks : List (Key × α)) (k : Key) (v : α) : List (Key × α) := if ks.any (fun p => decide (p.1 = k)) = true then ks.map (fun p => if p.1 = k then (p.1, v) else p) else ks ++ [(k, v)]
def drop {α : Type} (ks : List (Key × α)) (k : Key) : List (Key × α) := ks.filter fun p => decide (p.1 ≠ k)
def T.key : T → Option Key
  | .int i => some (.inl i)
  | .str s => some (.inr s)
  | _ => none
theorem key_ok {H : Hp} {v : V} {t : T} {B : Sa} (r : Rp K H v t B) {k : Key} (e : t.key = some k) : v = kV k := by
  cases r <;> first | (cases e; done) | (cases e; rfl)
theorem val_at : ∀ {ks : List (Key × T)} {k : Key} {t : T}, val ks k = some t → ∃ i : Nat, (ks.map (·.2))[i]? = some t ∧ ∀ kvs : List (Key × V), kvs.map (·.1) = ks.map (·.1) → valV kvs k = (kvs.map (·.2))[i]?
  | [], _, _, h => by cases h
  | (g, x) :: ks, k, t, h => by
    by_cases e : g = k
    · subst e
      have h : some x = some t := by simpa [val] using h
      cases h
      refine ⟨0, rfl, fun kvs hk => ?_⟩
      cases kvs with
      | nil => simp at hk
      | cons p kvs =>
        simp only [List.map_cons, List.cons.injEq] at hk
        rw [valV_pos (p := p) hk.1]
        rfl
    · have h : val ks k = some t := by simpa [val, e] using h
      obtain ⟨i, e1, e2⟩ := val_at h
      refine ⟨i + 1, by simpa using e1, fun kvs hk => ?_⟩
      cases kvs with
      | nil => simp at hk
      | cons p kvs =>
        simp only [List.map_cons, List.cons.injEq] at hk
        rw [valV_neg (p := p) (fun z => e (hk.1.symm.trans z)), e2 kvs hk.2]
        simp
theorem val_no : ∀ {ks : List (Key × T)} {k : Key}, val ks k = none → ∀ kvs : List (Key × V), kvs.map (·.1) = ks.map (·.1) → valV kvs k = none
  | [], _, _, kvs, hk => by
    cases kvs with
    | nil => rfl
    | cons _ _ => simp at hk
  | (g, x) :: ks, k, h, kvs, hk => by
    by_cases e : g = k
    · simp [val, e] at h
    · have h : val ks k = none := by simpa [val, e] using h
      cases kvs with
      | nil => simp at hk
      | cons p kvs =>
        simp only [List.map_cons, List.cons.injEq] at hk
        rw [valV_neg (p := p) (fun z => e (hk.1.symm.trans z))]
        exact val_no h kvs hk.2
theorem val_some {ks : List (Key × T)} {kvs : List (Key × V)} (hk : kvs.map (·.1) = ks.map (·.1)) (k : Key) : (valV kvs k).isSome = (val ks k).isSome := by
  cases e : val ks k with
  | none => rw [val_no e kvs hk]; rfl
  | some t =>
    obtain ⟨i, e1, e2⟩ := val_at e
    have hi := (List.getElem?_eq_some_iff.mp e1).1
    have l := congrArg List.length hk
    simp only [List.length_map] at l hi
    rw [e2 kvs hk, List.getElem?_eq_getElem (by rw [List.length_map, l]; exact hi)]
    rfl
theorem val_rp {H : Hp} {ks : List (Key × T)} {kvs : List (Key × V)} {A : Sa} {k : Key} {t : T} (hk : kvs.map (·.1) = ks.map (·.1)) (r : RpL K H (kvs.map (·.2)) (ks.map (·.2)) A) (e : val ks k = some t) : ∃ v, valV kvs k = some v ∧ Rp K H v t A := by
  obtain ⟨i, e1, e2⟩ := val_at e
  obtain ⟨v, e3, q⟩ := r.get e1
  exact ⟨v, (e2 kvs hk).trans e3, q⟩
/-! in -/
def T.svs : List T → Option (List V)
  | [] => some []
  | x :: xs => match x.sv, T.svs xs with
    | some v, some vs => some (v :: vs)
    | _, _ => none
theorem svs_ok {H : Hp} : ∀ {vs : List V} {ts : List T} {B : Sa} {xs : List V}, RpL K H vs ts B → T.svs ts = some xs → vs = xs ∧ xs.all flatV = true
  | _, _, _, _, .nil, e => by cases e; exact ⟨rfl, rfl⟩
  | _, _, _, _, .cons (t := t) (ts := ts) h1 h2 s1 s2 d, e => by
    simp only [T.svs] at e
    split at e
    · rename_i v vs e1 e2
      cases e
      obtain ⟨q1, q2⟩ := svs_ok h2 e2
      rw [sv_ok h1 e1, q1]
      refine ⟨rfl, ?_⟩
      rw [List.all_cons, q2, Bool.and_true]
      cases t <;> first | (cases e1; done) | (cases e1; rfl)
    · cases e
def T.items : T → Option (List T)
  | .lst xs => some xs
  | .tup xs => some xs
  | .frz xs => some xs
  | _ => none
theorem items_ok {H : Hp} {v : V} {t : T} {B : Sa} (r : Rp K H v t B) {ts : List T} (e : t.items = some ts) : ∃ p vs, v = .ref p ∧ (SqL K H p vs ∨ SqT K H p vs) ∧ RpL K H vs ts B := by
  cases r with
  | tup h r => cases e; exact ⟨_, _, rfl, .inr h, r⟩
  | frz h r => cases e; exact ⟨_, _, rfl, .inl h.seq, r.weak noM_sub⟩
  | lst m h s r => cases e; exact ⟨_, _, rfl, .inl (.inl (.inl h)), r.weak fun q z => (s q z).1⟩
  | _ => cases e
def inF (s t : T) : Option Bool := match t with
  | .str z => match s with
    | .str ⟨⟨[n]⟩⟩ => some (decide (n ∈ z.cps.toList))
    | _ => none
  | .dct ks => s.key.map fun k => (val ks k).isSome
  | _ => match t.items, s.sv with
    | some ts, some v => (T.svs ts).map fun vs => inV v vs
    | _, _ => match t.dat, s.dat with
      | some (.list ds), some d => if SeqAt.shaped d = true ∧ SeqAt.shaped (.list ds) = true then some (ds.any fun z => PyData.eqv z d) else none
      | _, _ => none
def f_in (s t : T) : Option T := (inF s t).map .bl
def f_nin (s t : T) : Option T := (inF s t).map fun b => .bl (!b)
theorem o_ins {r : R2} {f : T → T → Option T} {n : Bool → Bool} (hf : ∀ s t, f s t = (inF s t).map fun b => .bl (n b))
    (h1 : ∀ x p xs H (Q : VK), (SqL K H p xs ∨ SqT K H p xs) → flatV x = true → xs.all flatV = true → Q (.bl (n (inV x xs))) H → r x (.ref p) H Q)
    (h2 : ∀ (m : Nat) (z : Str) H (Q : VK), Q (.bl (n (decide (m ∈ z.cps.toList)))) H → r (.str ⟨#[m]⟩) (.str z) H Q)
    (h3 : ∀ x d o H (Q : VK), DGet H d x o → Q (.bl (n o.isSome)) H → r x (.ref d) H Q)
    (h4 : ∀ x y d ds H (Q : VK), Dp K H x d → Dp K H y (.list ds) → SeqAt.shaped d = true → SeqAt.shaped (.list ds) = true → Q (.bl (n (ds.any fun z => PyData.eqv z d))) H → r x y H Q) : OpS K r f := fun x y s t Bx By H Q u rx ry e h => by
  rw [hf] at e
  obtain ⟨b, eb, rfl⟩ := Option.map_eq_some_iff.mp e
  clear e
  have q : ∀ b', b' = b → Q (.bl (n b')) H := fun b' e' => by rw [e']; exact h _ H noM Ext.rfl .bl fresh_no
  unfold inF at eb
  split at eb
  · split at eb
    · cases eb
      cases rx
      cases ry
      exact h2 _ _ _ _ (q _ rfl)
    · cases eb
  · obtain ⟨k, e1, e2⟩ := Option.map_eq_some_iff.mp eb
    cases ry with
    | dct m g s ee nd rr =>
      rw [key_ok rx e1]
      exact h3 _ _ _ _ _ (.inl ⟨_, k, g, rfl, rfl⟩) (q _ ((val_some ee k).trans e2))
  · split at eb
    · rename_i ts v e1 e2
      obtain ⟨vs, e3, e4⟩ := Option.map_eq_some_iff.mp eb
      obtain ⟨p, ws, rfl, g, rr⟩ := items_ok ry e1
      obtain ⟨q1, q2⟩ := svs_ok rr e3
      rw [sv_ok rx e2]
      refine h1 _ _ _ _ _ g ?_ (by rw [q1]; exact q2) (q _ (by rw [q1]; exact e4))
      cases s <;> first | (cases e2; done) | (cases e2; rfl)
    · split at eb
      · rename_i e1 e2
        split at eb
        · rename_i sh
          cases eb
          exact h4 _ _ _ _ _ _ (rx.dp e2) (ry.dp e1) sh.1 sh.2 (q _ rfl)
        · cases eb
      · cases eb
theorem o_f_in : OpS K (rInU K) f_in := o_ins (n := id) (fun _ _ => rfl) (fun x p xs H Q h1 h2 h3 q => .inl ⟨p, xs, rfl, h1, h2, h3, by rw [if_neg Bool.false_ne_true]; exact q⟩) (fun m z H Q q => .inr (.inl ⟨m, z, rfl, rfl, q⟩)) (fun x d o H Q g q => .inr (.inr (.inl ⟨d, o, rfl, g, q⟩))) fun x y d ds H Q h1 h2 h3 h4 q => .inr (.inr (.inr ⟨d, ds, h1, h2, h3, h4, q⟩))
theorem o_f_nin : OpS K (rNinU K) f_nin := o_ins (n := not) (fun _ _ => rfl) (fun x p xs H Q h1 h2 h3 q => .inl ⟨p, xs, rfl, h1, h2, h3, by rw [if_pos rfl]; exact q⟩) (fun m z H Q q => .inr (.inl ⟨m, z, rfl, rfl, q⟩)) (fun x d o H Q g q => .inr (.inr (.inl ⟨d, o, rfl, g, q⟩))) fun x y d ds H Q h1 h2 h3 h4 q => .inr (.inr (.inr ⟨d, ds, h1, h2, h3, h4, q⟩))
/-! subscripts -/
def f_ix : T → T → Option T := fun s t => match s with
  | .dct ks => t.key.bind fun k => val ks k
  | .str z => match t with
    | .int i => if z.length ≤ sizeLine then (atI z.cps.toList i).map fun c => .str ⟨#[c]⟩ else none
    | _ => none
  | _ => match s.items, t with
    | some ts, .int i => atI ts i
    | _, _ => none
theorem atI_len {α β : Type} {xs : List α} {ys : List β} (h : xs.length = ys.length) {i : Int} {y : β} (e : atI ys i = some y) : ∃ k : Nat, ys[k]? = some y ∧ atI xs i = xs[k]? := by
  unfold atI at e ⊢
  rw [h]
  cases z : ixN ys.length i with
  | none => rw [z] at e; cases e
  | some k => rw [z] at e; exact ⟨k, e, rfl⟩
theorem o_f_ix : OpA K (rSubU' K) f_ix := fun x y s t Bx By H Q u rx ry e h => by
  unfold f_ix at e
  split at e
  · obtain ⟨k, e1, e2⟩ := Option.bind_eq_some_iff.mp e
    cases rx with
    | dct m g s ee nd rr =>
      obtain ⟨v, e3, q⟩ := val_rp ee rr e2
      rw [key_ok ry e1]
      exact .inr ⟨_, v, rfl, .inl ⟨_, k, g, rfl, e3.symm⟩, h v H _ Ext.rfl q⟩
  · split at e
    · split at e
      · obtain ⟨c, e1, rfl⟩ := Option.map_eq_some_iff.mp e
        cases rx
        cases ry
        exact .inl (.inr (.inr ⟨_, _, c, rfl, rfl, by assumption, e1, h _ H noM Ext.rfl .str⟩))
      · cases e
    · cases e
  · split at e
    · rename_i ts i e1
      obtain ⟨p, vs, rfl, g, rr⟩ := items_ok rx e1
      cases ry
      obtain ⟨k, e2, e3⟩ := atI_len rr.len e
      obtain ⟨v, e4, q⟩ := rr.get e2
      rcases g with g | g
      · exact .inl (.inl ⟨p, vs, _, v, rfl, rfl, g, e3.trans e4, h v H _ Ext.rfl q⟩)
      · exact .inl (.inr (.inl ⟨p, vs, _, v, rfl, rfl, g, e3.trans e4, h v H _ Ext.rfl q⟩))
    · cases e
end
end Rw

namespace Rw
open PySem PySem.Spec PyProof.Rows L2
section
variable {K : PySem.W.Frag}
/-! built-in functions -/
def q_len : List T → Option T
  | [.str z] => if z.length ≤ sizeLine then some (.int z.length) else none
  | [.dct ks] => some (.int ks.length)
  | [t] => t.items.map fun ts => .int ts.length
  | _ => none
theorem each1 {H : Hp} {vs : List V} {t : T} (h : EachR K H vs [t]) : ∃ v B, vs = [v] ∧ Rp K H v t B := by
  cases h with
  | cons h r =>
    cases r
    obtain ⟨B, h⟩ := h
    exact ⟨_, B, rfl, h⟩
theorem each2 {H : Hp} {vs : List V} {t u : T} (h : EachR K H vs [t, u]) : ∃ v w B C, vs = [v, w] ∧ Rp K H v t B ∧ Rp K H w u C := by
  cases h with
  | cons h r =>
    obtain ⟨w, C, rfl, q⟩ := each1 r
    obtain ⟨B, h⟩ := h
    exact ⟨_, w, B, C, rfl, h, q⟩
theorem fn_len : FnS (rLenU K) K q_len := fun vs ts H Q u h e q => by
  unfold q_len at e
  split at e
  · split at e
    · cases e
      obtain ⟨v, B, rfl, r⟩ := each1 h
      cases r
      exact v_lenS (by assumption) (q _ H noM Ext.rfl .int fresh_no)
    · cases e
  · cases e
    obtain ⟨v, B, rfl, r⟩ := each1 h
    cases r with
    | dct m g s ee nd rr =>
      refine ⟨_, _, rfl, .inr ⟨_, _, rfl, g, rfl⟩, ?_⟩
      have l := congrArg List.length ee
      simp only [List.length_map] at l
      rw [l]
      exact q _ H noM Ext.rfl .int fresh_no
  · obtain ⟨ts, e1, rfl⟩ := Option.map_eq_some_iff.mp e
    obtain ⟨v, B, rfl, r⟩ := each1 h
    obtain ⟨p, ws, rfl, g, rr⟩ := items_ok r e1
    have z : Q (.int ws.length) H := by
      rw [rr.len]
      exact q _ H noM Ext.rfl .int fresh_no
    rcases g with g | g
    · exact ⟨_, _, rfl, .inl (.inl ⟨ws, g, rfl⟩), z⟩
    · exact ⟨_, _, rfl, .inl (.inr ⟨ws, g, rfl⟩), z⟩
  · cases e
def q_abs : List T → Option T
  | [.int i] => some (.int (if i < 0 then -i else i))
  | _ => none
theorem fn_abs : FnS rAbsU K q_abs := fun vs ts H Q u h e q => by
  unfold q_abs at e
  split at e
  · cases e
    obtain ⟨v, B, rfl, r⟩ := each1 h
    cases r
    exact v_abs (q _ H noM Ext.rfl .int fresh_no)
  · cases e
def q_max2 : List T → Option T
  | [.int i, .int j] => some (.int (if j > i then j else i))
  | _ => none
def q_min2 : List T → Option T
  | [.int i, .int j] => some (.int (if j < i then j else i))
  | _ => none
theorem fn_max2 : FnS rMax2U K q_max2 := fun vs ts H Q u h e q => by
  unfold q_max2 at e
  split at e
  · cases e
    obtain ⟨v, w, B, C, rfl, r, r2⟩ := each2 h
    cases r
    cases r2
    exact v_max (q _ H noM Ext.rfl .int fresh_no)
  · cases e
theorem fn_min2 : FnS rMin2U K q_min2 := fun vs ts H Q u h e q => by
  unfold q_min2 at e
  split at e
  · cases e
    obtain ⟨v, w, B, C, rfl, r, r2⟩ := each2 h
    cases r
    cases r2
    exact v_min (q _ H noM Ext.rfl .int fresh_no)
  · cases e
def q_divmod : List T → Option T
  | [.int i, .int j] => if 0 < j ∧ j < 2 ^ 8000 then some (.tup [.int (i / j), .int (i % j)]) else none
  | _ => none
theorem fn_divmod : FnS rDmU K q_divmod := fun vs ts H Q u h e q => by
  unfold q_divmod at e
  split at e
  · split at e
    · rename_i z
      cases e
      obtain ⟨v, w, B, C, rfl, r, r2⟩ := each2 h
      cases r
      cases r2
      refine v_divmod ⟨z.1, ?_⟩ fun p H2 np x e => q _ H2 noM x (.tup (.inl (.inl e)) (.cons .int (.cons .int .nil noM_sub noM_sub noM_dj) noM_sub noM_sub noM_dj)) fresh_no
      rename_i i j
      have z1 : j.natAbs < 2 ^ 8000 := by
        have := z.2
        omega
      exact Nat.lt_of_lt_of_le ((Nat.log2_lt (by omega)).mpr z1) (by decide)
    · cases e
  · cases e
/-! lists of ints, of truths, of texts -/
def T.ints : List T → Option (List Int)
  | [] => some []
  | .int i :: xs => (T.ints xs).map (i :: ·)
  | _ => none
theorem ints_ok {H : Hp} : ∀ {vs : List V} {ts : List T} {B : Sa} {ns : List Int}, RpL K H vs ts B → T.ints ts = some ns → vs = ns.map V.int
  | _, _, _, _, .nil, e => by cases e; rfl
  | _, _, _, _, .cons h1 h2 s1 s2 d, e => by
    cases h1 with
    | int =>
      obtain ⟨ms, e1, rfl⟩ := Option.map_eq_some_iff.mp (show (T.ints _).map _ = _ from e)
      rw [ints_ok h2 e1]
      rfl
    | _ => cases e
def T.bls : List T → Option (List Bool)
  | [] => some []
  | .bl i :: xs => (T.bls xs).map (i :: ·)
  | _ => none
theorem bls_ok {H : Hp} : ∀ {vs : List V} {ts : List T} {B : Sa} {ns : List Bool}, RpL K H vs ts B → T.bls ts = some ns → vs = ns.map V.bl
  | _, _, _, _, .nil, e => by cases e; rfl
  | _, _, _, _, .cons h1 h2 s1 s2 d, e => by
    cases h1 with
    | bl =>
      obtain ⟨ms, e1, rfl⟩ := Option.map_eq_some_iff.mp (show (T.bls _).map _ = _ from e)
      rw [bls_ok h2 e1]
      rfl
    | _ => cases e
def T.strs : List T → Option (List Str)
  | [] => some []
  | .str i :: xs => (T.strs xs).map (i :: ·)
  | _ => none
theorem strs_ok {H : Hp} : ∀ {vs : List V} {ts : List T} {B : Sa} {ns : List Str}, RpL K H vs ts B → T.strs ts = some ns → vs = ns.map V.str
  | _, _, _, _, .nil, e => by cases e; rfl
  | _, _, _, _, .cons h1 h2 s1 s2 d, e => by
    cases h1 with
    | str =>
      obtain ⟨ms, e1, rfl⟩ := Option.map_eq_some_iff.mp (show (T.strs _).map _ = _ from e)
      rw [strs_ok h2 e1]
      rfl
    | _ => cases e
theorem rp_ints {H : Hp} : ∀ ns : List Int, RpL K H (ns.map V.int) (ns.map T.int) noM
  | [] => .nil
  | _ :: ns => .cons .int (rp_ints ns) noM_sub noM_sub noM_dj
theorem rp_strs {H : Hp} : ∀ ns : List Str, RpL K H (ns.map V.str) (ns.map T.str) noM
  | [] => .nil
  | _ :: ns => .cons .str (rp_strs ns) noM_sub noM_sub noM_dj
theorem rp_bls {H : Hp} : ∀ ns : List Bool, RpL K H (ns.map V.bl) (ns.map T.bl) noM
  | [] => .nil
  | _ :: ns => .cons .bl (rp_bls ns) noM_sub noM_sub noM_dj
/-- the items of a list (no tuple) -/
def T.lits : T → Option (List T)
  | .lst xs => some xs
  | .frz xs => some xs
  | _ => none
theorem lits_ok {H : Hp} {v : V} {t : T} {B : Sa} (r : Rp K H v t B) {ts : List T} (e : t.lits = some ts) : ∃ p vs, v = .ref p ∧ SqL K H p vs ∧ RpL K H vs ts B := by
  cases r with
  | frz h r => cases e; exact ⟨_, _, rfl, h.seq, r.weak noM_sub⟩
  | lst m h s r => cases e; exact ⟨_, _, rfl, .inl (.inl h), r.weak fun q z => (s q z).1⟩
  | _ => cases e
def q_all : List T → Option T
  | [t] => (t.lits.bind T.bls).map fun bs => .bl (bs.all id)
  | _ => none
def q_any : List T → Option T
  | [t] => (t.lits.bind T.bls).map fun bs => .bl (bs.any id)
  | _ => none
theorem fn_all : FnS (rAll K) K q_all := fun vs ts H Q u h e q => by
  unfold q_all at e
  split at e
  · obtain ⟨bs, e1, rfl⟩ := Option.map_eq_some_iff.mp e
    obtain ⟨ts, e1, e2⟩ := Option.bind_eq_some_iff.mp e1
    obtain ⟨v, B, rfl, r⟩ := each1 h
    obtain ⟨p, ws, rfl, g, rr⟩ := lits_ok r e1
    rw [bls_ok rr e2] at g
    exact ⟨p, bs, rfl, g, q _ H noM Ext.rfl .bl fresh_no⟩
  · cases e
theorem fn_any : FnS (rAny K) K q_any := fun vs ts H Q u h e q => by
  unfold q_any at e
  split at e
  · obtain ⟨bs, e1, rfl⟩ := Option.map_eq_some_iff.mp e
    obtain ⟨ts, e1, e2⟩ := Option.bind_eq_some_iff.mp e1
    obtain ⟨v, B, rfl, r⟩ := each1 h
    obtain ⟨p, ws, rfl, g, rr⟩ := lits_ok r e1
    rw [bls_ok rr e2] at g
    exact ⟨p, bs, rfl, g, q _ H noM Ext.rfl .bl fresh_no⟩
  · cases e
def q_sum : List T → Option T
  | [t] => (t.lits.bind T.ints).map fun ns => .int ns.sum
  | _ => none
theorem fn_sum : FnS (rSum K) K q_sum := fun vs ts H Q u h e q => by
  unfold q_sum at e
  split at e
  · obtain ⟨bs, e1, rfl⟩ := Option.map_eq_some_iff.mp e
    obtain ⟨ts, e1, e2⟩ := Option.bind_eq_some_iff.mp e1
    obtain ⟨v, B, rfl, r⟩ := each1 h
    obtain ⟨p, ws, rfl, g, rr⟩ := lits_ok r e1
    rw [ints_ok rr e2] at g
    exact ⟨p, bs, rfl, g, q _ H noM Ext.rfl .int fresh_no⟩
  · cases e
def maxI (ns : List Int) : Int := ns.foldl max (ns.headD 0)
def minI (ns : List Int) : Int := ns.foldl min (ns.headD 0)
theorem foldmax_ge : ∀ (ns : List Int) (a : Int), a ≤ ns.foldl max a ∧ ∀ y ∈ ns, y ≤ ns.foldl max a
  | [], a => ⟨Int.le_refl _, fun _ h => (List.not_mem_nil h).elim⟩
  | n :: ns, a => by
    obtain ⟨h1, h2⟩ := foldmax_ge ns (max a n)
    rw [List.foldl_cons]
    refine ⟨Int.le_trans (Int.le_max_left _ _) h1, fun y hy => ?_⟩
    rcases List.mem_cons.mp hy with e | hy
    · rw [e]; exact Int.le_trans (Int.le_max_right _ _) h1
    · exact h2 y hy
theorem foldmax_mem : ∀ (ns : List Int) (a : Int), ns.foldl max a = a ∨ ns.foldl max a ∈ ns
  | [], a => .inl rfl
  | n :: ns, a => by
    rw [List.foldl_cons]
    rcases foldmax_mem ns (max a n) with e | e
    · rw [e]
      rcases (by omega : max a n = a ∨ max a n = n) with z | z
      · exact .inl z
      · rw [z]; exact .inr List.mem_cons_self
    · exact .inr (List.mem_cons_of_mem _ e)
theorem foldmin_le : ∀ (ns : List Int) (a : Int), ns.foldl min a ≤ a ∧ ∀ y ∈ ns, ns.foldl min a ≤ y
  | [], a => ⟨Int.le_refl _, fun _ h => (List.not_mem_nil h).elim⟩
  | n :: ns, a => by
    obtain ⟨h1, h2⟩ := foldmin_le ns (min a n)
    rw [List.foldl_cons]
    refine ⟨Int.le_trans h1 (Int.min_le_left _ _), fun y hy => ?_⟩
    rcases List.mem_cons.mp hy with e | hy
    · rw [e]; exact Int.le_trans h1 (Int.min_le_right _ _)
    · exact h2 y hy
theorem foldmin_mem : ∀ (ns : List Int) (a : Int), ns.foldl min a = a ∨ ns.foldl min a ∈ ns
  | [], a => .inl rfl
  | n :: ns, a => by
    rw [List.foldl_cons]
    rcases foldmin_mem ns (min a n) with e | e
    · rw [e]
      rcases (by omega : min a n = a ∨ min a n = n) with z | z
      · exact .inl z
      · rw [z]; exact .inr List.mem_cons_self
    · exact .inr (List.mem_cons_of_mem _ e)
theorem maxI_mem {ns : List Int} (h : ns ≠ []) : maxI ns ∈ ns := by
  cases ns with
  | nil => exact absurd rfl h
  | cons n ns =>
    unfold maxI
    rcases foldmax_mem (n :: ns) n with e | e
    · show List.foldl max n (n :: ns) ∈ _
      rw [e]; exact List.mem_cons_self
    · exact e
theorem maxI_ge {ns : List Int} {y : Int} (h : y ∈ ns) : y ≤ maxI ns := (foldmax_ge ns _).2 y h
theorem minI_mem {ns : List Int} (h : ns ≠ []) : minI ns ∈ ns := by
  cases ns with
  | nil => exact absurd rfl h
  | cons n ns =>
    unfold minI
    rcases foldmin_mem (n :: ns) n with e | e
    · show List.foldl min n (n :: ns) ∈ _
      rw [e]; exact List.mem_cons_self
    · exact e
theorem minI_le {ns : List Int} {y : Int} (h : y ∈ ns) : minI ns ≤ y := (foldmin_le ns _).2 y h
def q_max1 : List T → Option T
  | [t] => (t.lits.bind T.ints).bind fun ns => if ns.isEmpty then none else some (.int (maxI ns))
  | _ => none
theorem ne_of_isEmpty {α : Type} {xs : List α} (h : ¬ xs.isEmpty = true) : xs ≠ [] := fun e => h (by rw [e]; rfl)
theorem fn_max1 : FnS (rMax K) K q_max1 := fun vs ts H Q u h e q => by
  unfold q_max1 at e
  split at e
  · obtain ⟨bs, e1, e3⟩ := Option.bind_eq_some_iff.mp e
    obtain ⟨ts, e1, e2⟩ := Option.bind_eq_some_iff.mp e1
    split at e3
    · cases e3
    · rename_i ne
      have ne := ne_of_isEmpty ne
      cases e3
      obtain ⟨v, B, rfl, r⟩ := each1 h
      obtain ⟨p, ws, rfl, g, rr⟩ := lits_ok r e1
      rw [ints_ok rr e2] at g
      refine ⟨p, bs, rfl, g, List.length_pos_iff.mpr ne, fun m m1 m2 => ?_⟩
      have : m = maxI bs := Int.le_antisymm (maxI_ge m1) (m2 _ (maxI_mem ne))
      rw [this]
      exact q _ H noM Ext.rfl .int fresh_no
  · cases e
/-! pairs of ints -/
def T.prs : List T → Option (List (Int × Int))
  | [] => some []
  | .tup [.int i, .int j] :: xs => (T.prs xs).map ((i, j) :: ·)
  | _ => none
def lexLe (p q : Int × Int) : Bool := decide (p.1 < q.1) || (decide (p.1 = q.1) && decide (p.2 ≤ q.2))
def minP (ps : List (Int × Int)) : Int × Int := ps.foldl (fun a p => if lexLe a p = true then a else p) (ps.headD (0, 0))
def prAt (K : PySem.W.Frag) (H : Hp) (p : Int × Int) (v : V) : Prop := ∃ t, v = .ref t ∧ SqT K H t [.int p.1, .int p.2]
theorem rp_pair {H : Hp} {v : V} {i j : Int} {B : Sa} (h : Rp K H v (.tup [.int i, .int j]) B) : prAt K H (i, j) v := by
  cases h with
  | tup g r =>
    cases r with
    | cons h1 h2 _ _ _ =>
      cases h1
      cases h2 with
      | cons h3 h4 _ _ _ =>
        cases h3
        cases h4
        exact ⟨_, rfl, g⟩
theorem prs_ok {H : Hp} : ∀ {vs : List V} {ts : List T} {B : Sa} {ps : List (Int × Int)}, RpL K H vs ts B → T.prs ts = some ps → Paired (prAt K H) ps vs
  | _, _, _, _, .nil, e => by cases e; exact .nil
  | _, _, _, _, .cons (t := t) (ts := ts) h1 h2 s1 s2 d, e => by
    unfold T.prs at e
    split at e
    · rename_i z; cases z
    · rename_i i j xs z
      cases z
      obtain ⟨ms, e1, rfl⟩ := Option.map_eq_some_iff.mp e
      exact .cons (rp_pair h1) (prs_ok h2 e1)
    · cases e
/-! list(..), dict(..), tuple(..) -/
def T.ofKey : Key → T
  | .inl i => .int i
  | .inr s => .str s
def q_list : List T → Option T
  | [.dct ks] => some (.lst (ks.map fun p => T.ofKey p.1))
  | [t] => t.items.bind fun ts => if T.imL ts = true then some (.lst ts) else none
  | _ => none
theorem rp_keys {H : Hp} : ∀ ks : List Key, RpL K H (ks.map kV) (ks.map T.ofKey) noM
  | [] => .nil
  | .inl _ :: ks => .cons .int (rp_keys ks) noM_sub noM_sub noM_dj
  | .inr _ :: ks => .cons .str (rp_keys ks) noM_sub noM_sub noM_dj
theorem fn_list : FnS (rListU K) K q_list := fun vs ts H Q u h e q => by
  unfold q_list at e
  split at e
  · cases e
    obtain ⟨v, B, rfl, r⟩ := each1 h
    cases r with
    | dct m g s ee nd rr =>
      refine .inr ⟨_, _, rfl, g, fun p np => ?_⟩
      rename_i ks _ kvs _
      have e1 : (kvs.map fun q => kV q.1) = (ks.map (·.1)).map kV := by rw [← ee, List.map_map]; rfl
      have e2 : (ks.map fun p => T.ofKey p.1) = (ks.map (·.1)).map T.ofKey := by rw [List.map_map]; rfl
      rw [e1]
      rw [e2] at q
      exact q _ _ _ (Ext.new np) (new_im np (rp_keys _)) (fresh_lst np)
  · obtain ⟨ts, e1, e2⟩ := Option.bind_eq_some_iff.mp e
    split at e2
    · rename_i im
      cases e2
      obtain ⟨v, B, rfl, r⟩ := each1 h
      obtain ⟨p, ws, rfl, g, rr⟩ := items_ok r e1
      exact .inl ⟨p, ws, rfl, g, fun p np => q _ _ _ (Ext.new np) (new_im np (rr.im im)) (fresh_lst np)⟩
    · cases e2
  · cases e
def rDictU : List V → Hp → VK → Prop := fun xs H Q => ∃ (a : Addr) (kvs : List (Key × V)), xs = [.ref a] ∧ Rd H a (.dK kvs) ∧ ∀ p, H p = none → Q (.ref p) (upd H p (.dK kvs))
def q_dict : List T → Option T
  | [.dct ks] => if T.imL (ks.map (·.2)) = true then some (.dct ks) else none
  | _ => none
theorem fn_dict : FnS rDictU K q_dict := fun vs ts H Q u h e q => by
  unfold q_dict at e
  split at e
  · split at e
    · rename_i im
      cases e
      obtain ⟨v, B, rfl, r⟩ := each1 h
      cases r with
      | dct m g s ee nd rr =>
        refine ⟨_, _, rfl, g, fun p np => q _ _ (fun q => q = p) (Ext.new np) ?_ (fresh_dK np)⟩
        exact .dct rfl (.inl upd_same) (A1 := noM) (fun _ z => z.elim) ee nd ((rr.im im).mono (Ext.new np).kp)
    · cases e
  · cases e
def rTupleU (K : PySem.W.Frag) : List V → Hp → VK → Prop := fun xs H Q => ∃ p ys, xs = [.ref p] ∧ ((SqL K H p ys ∧ ∀ l, H l = none → Q (.ref l) (upd H l (.tup ys))) ∨ (SqT K H p ys ∧ Q (.ref p) H))
def q_tuple : List T → Option T
  | [t] => t.items.bind fun ts => if T.imL ts = true then some (.tup ts) else none
  | _ => none
theorem fn_tuple : FnS (rTupleU K) K q_tuple := fun vs ts H Q u h e q => by
  unfold q_tuple at e
  split at e
  · obtain ⟨ts, e1, e2⟩ := Option.bind_eq_some_iff.mp e
    split at e2
    · rename_i im
      cases e2
      obtain ⟨v, B, rfl, r⟩ := each1 h
      obtain ⟨p, ws, rfl, g, rr⟩ := items_ok r e1
      rcases g with g | g
      · exact ⟨p, ws, rfl, .inl ⟨g, fun l nl => q _ _ noM (Ext.new nl) (.tup (.inl (.inl upd_same)) ((rr.im im).mono (Ext.new nl).kp)) fresh_no⟩⟩
      · exact ⟨p, ws, rfl, .inr ⟨g, q _ H noM Ext.rfl (.tup g (rr.im im)) fresh_no⟩⟩
    · cases e2
  · cases e
/-! repr -/
def q_repr : List T → Option T
  | [t] => t.dat.bind fun d => if d.showable = true ∧ d.depth ≤ 100 ∧ d.shown.length ≤ sizeLine then some (.str d.shown) else none
  | _ => none
theorem fn_repr : FnS (rRepr K) K q_repr := fun vs ts H Q u h e q => by
  unfold q_repr at e
  split at e
  · obtain ⟨d, e1, e2⟩ := Option.bind_eq_some_iff.mp e
    split at e2
    · rename_i z
      cases e2
      obtain ⟨v, B, rfl, r⟩ := each1 h
      exact ⟨v, d, rfl, r.dp e1, z.1, z.2.1, z.2.2, q _ H noM Ext.rfl .str fresh_no⟩
    · cases e2
  · cases e
/-! isinstance of built-in classes -/
def T.tyn : T → Option String
  | .non => some "NoneType"
  | .bl _ => some "bool"
  | .int _ => some "int"
  | .str _ => some "str"
  | .tup _ => some "tuple"
  | .frz _ => some "list"
  | .lst _ => some "list"
  | .dct _ => some "dict"
  | .fzd => some "dict"
  | _ => none
theorem tyn_ok {H : Hp} {v : V} {t : T} {B : Sa} (r : Rp K H v t B) {n : String} (e : t.tyn = some n) : TyX K H v (.type n) := by
  cases r with
  | non => cases e; exact ty_non
  | bl => cases e; exact ty_bl
  | int => cases e; exact ty_int
  | str => cases e; exact ty_str
  | tup h r =>
    cases e
    rcases h with h | ⟨o, its, n, h, c, _⟩
    · rcases h with h | ⟨o, h⟩
      · exact ty_tup h
      · exact .fTuple h
    · exact .kTuple h c
  | frz h r =>
    cases e
    rcases h with ⟨o, h⟩ | ⟨o, its, n, h, c, _⟩
    · exact .base (.frz h)
    · exact .kList h c
  | fzd h => cases e; exact .fDict h
  | lst m h s r => cases e; exact ty_lst h
  | dct m h s ee nd r =>
    cases e
    rcases h with h | ⟨o, h⟩
    · exact ty_dK h
    · exact .fDict h
  | _ => cases e
def isiN (n c : String) : Option Bool :=
  if n = "bool" ∧ c = "int" then some true else
  if n = c then some true else
  if n ∈ ["NoneType", "bool", "int", "str", "tuple", "list", "dict"] ∧ c ∈ ["bool", "int", "str", "tuple", "list", "dict"] then some false else none
theorem isiN_ok {n c : String} {b : Bool} (e : isiN n c = some b) : PySem.W.kitOne K (.type n) (.type c) = some b := by
  unfold isiN at e
  split at e
  · rename_i z
    cases e
    rw [z.1, z.2]
    rfl
  · split at e
    · rename_i z
      cases e
      rw [z]
      unfold PySem.W.kitOne
      rw [if_pos (beq_self_eq_true _)]
    · split at e
      · rename_i z1 z2 z3
        cases e
        obtain ⟨z3, z4⟩ := z3
        simp only [List.mem_cons, List.not_mem_nil, or_false] at z3 z4
        rcases z3 with rfl | rfl | rfl | rfl | rfl | rfl | rfl <;> rcases z4 with rfl | rfl | rfl | rfl | rfl | rfl <;> first | exact absurd rfl z2 | exact absurd ⟨rfl, rfl⟩ z1 | rfl
      · cases e
def q_isi : List T → Option T
  | [t, .ty c] => (t.tyn.bind fun n => isiN n c).map .bl
  | _ => none
theorem fn_isi1 : ∀ vs t c H Q u, EachR K H vs [t, .ty c] → (t.tyn.bind fun n => isiN n c).map T.bl = some u → OkF K H Q u → rInst K vs H Q := fun vs t c H Q u h e q => by
  obtain ⟨b, e1, rfl⟩ := Option.map_eq_some_iff.mp e
  obtain ⟨n, e1, e2⟩ := Option.bind_eq_some_iff.mp e1
  obtain ⟨v, w, B, C, rfl, r, r2⟩ := each2 h
  cases r2
  exact v_inst (tyn_ok r e1) (isiN_ok e2) (q _ H noM Ext.rfl .bl fresh_no)
end
end Rw

namespace Rw
open PySem PySem.Spec PyProof.Rows L2
section
variable {K : PySem.W.Frag} {W : WX} {te ta tb tc to : TE} {pe pa pb pc po : Ev → Rs T} {tA tK : TA} {pA pK : Ev → Rs (List T)} {tt : TT} {pt : Ev → Rs Bool}
/-! slices -/
def SmO (K : PySem.W.Frag) (W : WX) (tp : TO) (pp : Ev → Rs (Option Int)) : Prop := ∀ σ τ H (Q : Option Int → Hp → Prop), RpR K H σ τ → (pp τ).post (fun o => ∀ H', Ext noM H H' → Q o H') (ExR K W H σ) → tp σ H Q
def noneP : Ev → Rs (Option Int) := fun _ => .ok none
def someP (pe : Ev → Rs T) : Ev → Rs (Option Int) := fun τ => (pe τ).bind fun t => match t with
  | .int i => .ok (some i)
  | _ => .bad
theorem sm_no : SmO K W tNoPart noneP := fun σ τ H Q h z => z H Ext.rfl
theorem sm_some (he : SmR K W te pe) : SmO K W (tPart te) (someP pe) := fun σ τ H Q h z => by
  unfold someP at z
  rw [Rs.post_bind] at z
  refine he σ τ H _ h (Rs.post_mono z (fun t q v H1 B x y => ?_) fun _ q => q)
  cases y with
  | int => exact ⟨_, rfl, q H1 x⟩
  | _ => exact q.elim
def cut {α : Type} (xs : List α) (lo hi : Option Int) : List α := (xs.drop (HT.sIx xs.length 0 lo)).take (HT.sIx xs.length xs.length hi - HT.sIx xs.length 0 lo)
def q_sl (t : T) (lo hi : Option Int) : Option T := match t with
  | .str z => if z.length ≤ sizeLine then some (.str (cutS z lo hi)) else none
  | .tup xs => if T.imL xs = true ∧ ¬ (HT.sIx xs.length 0 lo = 0 ∧ HT.sIx xs.length xs.length hi = xs.length) then some (.tup (cut xs lo hi)) else none
  | _ => t.lits.bind fun xs => if T.imL xs = true then some (.lst (cut xs lo hi)) else none
def slP (pe : Ev → Rs T) (p1 p2 : Ev → Rs (Option Int)) : Ev → Rs T := fun τ => (pe τ).bind fun t => (p1 τ).bind fun lo => (p2 τ).bind fun hi => ofO (q_sl t lo hi)
theorem rpl_take {H : Hp} : ∀ {vs : List V} {ts : List T} (n : Nat), RpL K H vs ts noM → RpL K H (vs.take n) (ts.take n) noM
  | _, _, 0, _ => .nil
  | _, _, _ + 1, .nil => .nil
  | _, _, n + 1, .cons h1 h2 s1 s2 d => .cons (h1.weak s1) (rpl_take n (h2.weak s2)) Sub.rfl Sub.rfl noM_dj
theorem rpl_drop {H : Hp} : ∀ {vs : List V} {ts : List T} (n : Nat), RpL K H vs ts noM → RpL K H (vs.drop n) (ts.drop n) noM
  | _, _, 0, h => h
  | _, _, _ + 1, .nil => .nil
  | _, _, n + 1, .cons h1 h2 s1 s2 d => rpl_drop n (h2.weak s2)
theorem rpl_cut {H : Hp} {vs : List V} {ts : List T} (h : RpL K H vs ts noM) (lo hi : Option Int) : RpL K H (cutV vs lo hi) (cut ts lo hi) noM := by
  unfold cutV cut
  rw [h.len]
  exact rpl_take _ (rpl_drop _ h)
theorem sm_sl {t1 t2 : TO} {p1 p2 : Ev → Rs (Option Int)} (he : SmR K W te pe) (h1 : SmO K W t1 p1) (h2 : SmO K W t2 p2) : SmF K W (tSl (rSlU K) te t1 t2) (slP pe p1 p2) := fun σ τ H Q h z => by
  unfold slP at z
  rw [Rs.post_bind] at z
  refine he σ τ H _ h (Rs.post_mono z (fun t q v H1 B x y => ?_) fun _ q => q)
  rw [Rs.post_bind] at q
  refine h1 σ τ H1 _ (h.ext x) (Rs.post_mono q (fun lo q H2 x2 => ?_) fun _ q => q.ext x)
  rw [Rs.post_bind] at q
  have x12 := x.trans x2
  refine h2 σ τ H2 _ (h.ext x12) (Rs.post_mono q (fun hi q H3 x3 => ?_) fun _ q => q.ext x12)
  have x13 := x12.trans x3
  obtain ⟨u, e, q⟩ := ofO_post q
  have y3 := (y.mono (A := B) x2.kp).mono x3.kp
  unfold q_sl at e
  split at e
  · split at e
    · cases e
      cases y3
      exact .inr (.inl ⟨_, rfl, by assumption, q _ H3 noM x13 .str fresh_no⟩)
    · cases e
  · split at e
    · rename_i c
      cases e
      cases y3 with
      | tup g r =>
        refine .inr (.inr ⟨_, _, rfl, g, by rw [r.len]; exact c.2, fun p np => q _ _ noM (x13.trans (Ext.new np)) (.tup (.inl (.inl upd_same)) ((rpl_cut (r.im c.1) _ _).mono (Ext.new np).kp)) fresh_no⟩)
    · cases e
  · obtain ⟨xs, e1, e2⟩ := Option.bind_eq_some_iff.mp e
    split at e2
    · rename_i c
      cases e2
      obtain ⟨p, vs, rfl, g, r⟩ := lits_ok y3 e1
      exact .inl ⟨p, vs, rfl, g, fun p np => q _ _ _ (x13.trans (Ext.new np)) (new_im np (rpl_cut (r.im c) _ _)) (x13.fr (fresh_lst np))⟩
    · cases e2
/-! ### what is walked -/
/-- what is locked stays so -/
def Fk (H H' : Hp) : Prop := ∀ q o u, H q = some (.frz o u) → H' q = some (.frz o u)
theorem Ext.fk {H H' : Hp} (x : Ext noM H H') : Fk H H' := fun q o u e => x q _ noM_not e
theorem Ext.fkM {A : Sa} {H H' : Hp} (x : Ext A H H') (m : ∀ q, A q → Mt H q) : Fk H H' := fun q o u e => x q _ (fun a => (mt_no (m q a)).2.1 o u e) e
def TellsT (K : PySem.W.Frag) (C : Sa) (J : It) (ts : List T) (H0 : Hp) : Prop := ∀ k H, Kp K C H0 H → Fk H0 H → (∀ t, ts[k]? = some t → J.go k H ∧ ∀ x H', J.yld k H x H' → Ext noM H H' ∧ Rp K H' x t C) ∧ (ts.length ≤ k → J.stop k H)
def SmI (K : PySem.W.Frag) (W : WX) (wi : TI) (pi : Ev → Rs (List T)) : Prop := ∀ σ τ H (R : It → Hp → Prop), RpR K H σ τ → (pi τ).post (fun ts => ∀ J H' C, Ext noM H H' → TellsT K C J ts H' → R J H') (ExR K W H σ) → wi σ H R
def SmIF (K : PySem.W.Frag) (W : WX) (wi : TI) (pi : Ev → Rs (List T)) : Prop := ∀ σ τ H (R : It → Hp → Prop), RpR K H σ τ → (pi τ).post (fun ts => ∀ J H' C, Ext noM H H' → TellsT K C J ts H' → Nw H C → R J H') (ExR K W H σ) → wi σ H R
theorem SmIF.r {wi : TI} {pi : Ev → Rs (List T)} (h : SmIF K W wi pi) : SmI K W wi pi := fun σ τ H R r z => h σ τ H R r (Rs.post_mono z (fun ts q J H' C x t _ => q J H' C x t) fun _ q => q)
def rngT (lo : Int) (n : Nat) : List T := (List.range n).map fun k => .int (lo + (k : Nat))
theorem tells_rngT {C : Sa} {lo : Int} {n : Nat} {H : Hp} : TellsT K C (Itr lo n) (rngT lo n) H := fun k H' _ _ => by
  unfold rngT
  refine ⟨fun t ht => ?_, fun h => (show n ≤ k by simpa using h)⟩
  rw [List.getElem?_map] at ht
  by_cases hk : k < n
  · rw [List.getElem?_range hk] at ht
    obtain rfl := Option.some.inj ht
    refine ⟨hk, fun x H2 y => ?_⟩
    obtain ⟨e1, e2⟩ := y
    subst e1 e2
    exact ⟨Ext.rfl, .int⟩
  · rw [List.getElem?_eq_none (by simpa using hk)] at ht
    cases ht
def okRng (j : Int) : Bool := decide (-(2 ^ 62) ≤ j) && decide (j < 2 ^ 62)
def rng1P (pA : Ev → Rs (List T)) : Ev → Rs (List T) := fun τ => (pA τ).bind fun ts => match ts with
  | [.int j] => if okRng j = true then .ok (rngT 0 j.toNat) else .bad
  | _ => .bad
def rng2P (pA : Ev → Rs (List T)) : Ev → Rs (List T) := fun τ => (pA τ).bind fun ts => match ts with
  | [.int i, .int j] => if (okRng i && okRng j) = true then .ok (rngT i (j - i).toNat) else .bad
  | _ => .bad
theorem okRng_ok {j : Int} (h : okRng j = true) : -(2 ^ 62) ≤ j ∧ j < 2 ^ 62 := by
  unfold okRng at h
  simp only [Bool.and_eq_true, decide_eq_true_eq] at h
  exact h
theorem sm_rng1 (hA : SmAR K W tA pA) : SmIF K W (iRng1 tA) (rng1P pA) := fun σ τ H R h z => by
  unfold rng1P at z
  rw [Rs.post_bind] at z
  refine hA σ τ H _ h (Rs.post_mono z (fun ts q vs H1 x y => ?_) fun _ q => q)
  split at q
  · split at q
    · rename_i c
      obtain ⟨v, B, rfl, r⟩ := each1 y
      cases r
      exact ⟨_, rfl, (okRng_ok c).1, (okRng_ok c).2, q _ H1 noM x tells_rngT (fun _ z => z.elim)⟩
    · exact q.elim
  · exact q.elim
theorem sm_rng2 (hA : SmAR K W tA pA) : SmIF K W (iRng2 tA) (rng2P pA) := fun σ τ H R h z => by
  unfold rng2P at z
  rw [Rs.post_bind] at z
  refine hA σ τ H _ h (Rs.post_mono z (fun ts q vs H1 x y => ?_) fun _ q => q)
  split at q
  · split at q
    · rename_i c
      rw [Bool.and_eq_true] at c
      obtain ⟨v, w, B, C, rfl, r, r2⟩ := each2 y
      cases r
      cases r2
      have c1 := okRng_ok c.1
      have c2 := okRng_ok c.2
      exact ⟨_, _, rfl, ⟨c1.1, c1.2, c2.1, c2.2⟩, q _ H1 noM x tells_rngT (fun _ z => z.elim)⟩
    · exact q.elim
  · exact q.elim
/-- a list, a tuple, a text -/
def T.walk : T → Option (List T)
  | .str z => some (z.cps.toList.map fun c => .str ⟨#[c]⟩)
  | t => t.items
def anyP (pe : Ev → Rs T) : Ev → Rs (List T) := fun τ => (pe τ).bind fun t => ofO t.walk
theorem tells_walk {H : Hp} {v : V} {t : T} {C : Sa} {ts : List T} {R : It → Hp → Prop} (r : Rp K H v t C) (e : t.walk = some ts) (q : ∀ J, TellsT K C J ts H → R J H) :
    (∃ a, v = .ref a ∧ (∃ xs, SqL K H a xs) ∧ R (Itl K a) H) ∨ (∃ a, v = .ref a ∧ (∃ xs, SqT K H a xs) ∧ R (Itt K a) H) ∨ ∃ x, v = .str x ∧ R (Its x) H := by
  have lst : ∀ {a : Addr} {xs : List V}, (∀ H2, Kp K C H H2 → SqL K H2 a xs ∧ RpL K H2 xs ts C) → TellsT K C (Itl K a) ts H := fun {a xs} z k H2 x _ => by
    obtain ⟨z1, z2⟩ := z H2 x
    refine ⟨fun t ht => ?_, fun h => ⟨xs, z1, by rw [z2.len]; exact h⟩⟩
    obtain ⟨v, e1, rv⟩ := z2.get ht
    refine ⟨⟨xs, v, z1, e1⟩, fun x' H' y => ?_⟩
    obtain ⟨e2, y⟩ := y
    have y := y xs z1
    rw [e1] at y
    cases y
    subst e2
    exact ⟨Ext.rfl, rv⟩
  have tup : ∀ {a : Addr} {xs : List V}, (∀ H2, Kp K C H H2 → SqT K H2 a xs ∧ RpL K H2 xs ts C) → TellsT K C (Itt K a) ts H := fun {a xs} z k H2 x _ => by
    obtain ⟨z1, z2⟩ := z H2 x
    refine ⟨fun t ht => ?_, fun h => ⟨xs, z1, by rw [z2.len]; exact h⟩⟩
    obtain ⟨v, e1, rv⟩ := z2.get ht
    refine ⟨⟨xs, v, z1, e1⟩, fun x' H' y => ?_⟩
    obtain ⟨e2, y⟩ := y
    have y := y xs z1
    rw [e1] at y
    cases y
    subst e2
    exact ⟨Ext.rfl, rv⟩
  cases r with
  | @str z _ =>
    cases e
    refine .inr (.inr ⟨z, rfl, q _ fun k H2 _ _ => ⟨fun t ht => ?_, fun h => (show z.cps.size ≤ k by simpa using h)⟩⟩)
    rw [List.getElem?_map] at ht
    by_cases hk : k < z.cps.size
    · have e : z.cps.toList[k]? = some z.cps[k] := by simp [hk]
      rw [e] at ht
      obtain rfl := Option.some.inj ht
      refine ⟨hk, fun x' H' y => ?_⟩
      obtain ⟨e2, c, e1, e3⟩ := y
      rw [Array.getElem?_eq_getElem hk] at e1
      obtain rfl := Option.some.inj e1
      subst e2 e3
      exact ⟨Ext.rfl, .str⟩
    · rw [List.getElem?_eq_none (by simpa using hk)] at ht
      cases ht
  | tup h r =>
    cases e
    exact .inr (.inl ⟨_, rfl, ⟨_, h⟩, q _ (tup fun H2 x => ⟨x.t _ _ h, r.mono x⟩)⟩)
  | frz h r =>
    cases e
    exact .inl ⟨_, rfl, ⟨_, h.seq⟩, q _ (lst fun H2 x => ⟨(x.f _ _ h).seq, (r.mono (x.sub noM_sub)).weak noM_sub⟩)⟩
  | lst m h s r =>
    cases e
    exact .inl ⟨_, rfl, ⟨_, .inl (.inl h)⟩, q _ (lst fun H2 x => ⟨.inl (.inl (x.l _ _ m h)), (r.mono (x.sub fun q z => (s q z).1)).weak fun q z => (s q z).1⟩)⟩
  | _ => cases e
theorem Rs.post_eq {α : Type} {r : Rs α} {a : α} {o : α → Prop} {e : Xc → Prop} (h : r = .ok a) (q : o a) : r.post o e := by rw [h]; exact q
theorem anyRule (P : Sa → Hp → Prop) {σ : L2.St} {τ : Ev} {H : Hp} {R : It → Hp → Prop} (he : ∀ Q : VK, (pe τ).post (fun t => ∀ v H' B, Ext noM H H' → Rp K H' v t B → P B H' → Q v H') (ExR K W H σ) → te σ H Q)
    (z : (anyP pe τ).post (fun ts => ∀ J H' C, Ext noM H H' → TellsT K C J ts H' → P C H' → R J H') (ExR K W H σ)) : iAny K te σ H R := by
  unfold anyP at z
  rw [Rs.post_bind] at z
  cases e : pe τ with
  | bad => rw [e] at z; exact z.elim
  | exc x =>
    rw [e] at z
    exact .inl (.inl (he _ (by rw [e]; exact z)))
  | ok t =>
    rw [e] at z
    obtain ⟨ts, e1, q⟩ := ofO_post z
    have go : ∀ v H1 B, Ext noM H H1 → Rp K H1 v t B → P B H1 → (∃ a, v = .ref a ∧ (∃ xs, SqL K H1 a xs) ∧ R (Itl K a) H1) ∨ (∃ a, v = .ref a ∧ (∃ xs, SqT K H1 a xs) ∧ R (Itt K a) H1) ∨ ∃ x, v = .str x ∧ R (Its x) H1 :=
      fun v H1 B x y p => tells_walk y e1 fun J tl => q J H1 B x tl p
    have tyT : ∀ {v : V} {H1 : Hp} {B : Sa}, Rp K H1 v t B → (∀ xs, t ≠ .tup xs) → (∀ s, t ≠ .str s) → ∃ a xs, v = .ref a ∧ SqL K H1 a xs := fun {v H1 B} y h1 h2 => by
      cases y with
      | str => exact absurd rfl (h2 _)
      | tup _ _ => exact absurd rfl (h1 _)
      | frz h r => exact ⟨_, _, rfl, h.seq⟩
      | lst m h s r => exact ⟨_, _, rfl, .inl (.inl h)⟩
      | _ => cases e1
    cases t with
    | str s =>
      refine .inr (.inl (he _ ?_))
      rw [e]
      intro v H1 B x y p
      have e1 : some (s.cps.toList.map fun c => T.str ⟨#[c]⟩) = some ts := e1
      rcases go v H1 B x y p with ⟨a, rfl, _⟩ | ⟨a, rfl, _⟩ | z
      · cases y
      · cases y
      · exact z
    | tup xs =>
      refine .inl (.inr (he _ ?_))
      rw [e]
      intro v H1 B x y p
      cases y with
      | tup h r =>
        cases e1
        refine ⟨_, rfl, ⟨_, h⟩, ?_⟩
        refine q _ H1 B x ?_ p
        intro k H2 kp _
        refine ⟨fun t ht => ?_, fun hl => ⟨_, kp.t _ _ h, by rw [r.len]; exact hl⟩⟩
        obtain ⟨v, e1, rv⟩ := r.get ht
        refine ⟨⟨_, v, kp.t _ _ h, e1⟩, fun x' H' y => ?_⟩
        obtain ⟨e2, y⟩ := y
        have y := y _ (kp.t _ _ h)
        rw [e1] at y
        cases y
        subst e2
        exact ⟨Ext.rfl, rv.mono kp⟩
    | lst xs =>
      refine .inl (.inl (he _ ?_))
      rw [e]
      intro v H1 B x y p
      cases y with
      | lst m h s r =>
        cases e1
        refine ⟨_, rfl, ⟨_, .inl (.inl h)⟩, ?_⟩
        refine q _ H1 B x ?_ p
        intro k H2 kp _
        have h2 : SqL K H2 _ _ := .inl (.inl (kp.l _ _ m h))
        refine ⟨fun t ht => ?_, fun hl => ⟨_, h2, by rw [r.len]; exact hl⟩⟩
        obtain ⟨v, e1, rv⟩ := r.get ht
        refine ⟨⟨_, v, h2, e1⟩, fun x' H' y => ?_⟩
        obtain ⟨e2, y⟩ := y
        have y := y _ h2
        rw [e1] at y
        cases y
        subst e2
        exact ⟨Ext.rfl, (rv.mono (kp.sub fun q z => (s q z).1)).weak fun q z => (s q z).1⟩
    | frz xs =>
      refine .inl (.inl (he _ ?_))
      rw [e]
      intro v H1 B x y p
      cases y with
      | frz h r =>
        cases e1
        refine ⟨_, rfl, ⟨_, h.seq⟩, ?_⟩
        refine q _ H1 B x ?_ p
        intro k H2 kp _
        have h2 : SqL K H2 _ _ := (kp.f _ _ h).seq
        refine ⟨fun t ht => ?_, fun hl => ⟨_, h2, by rw [r.len]; exact hl⟩⟩
        obtain ⟨v, e1, rv⟩ := r.get ht
        refine ⟨⟨_, v, h2, e1⟩, fun x' H' y => ?_⟩
        obtain ⟨e2, y⟩ := y
        have y := y _ h2
        rw [e1] at y
        cases y
        subst e2
        exact ⟨Ext.rfl, (rv.mono (kp.sub noM_sub)).weak noM_sub⟩
    | _ => cases e1
theorem sm_any (he : SmR K W te pe) : SmI K W (iAny K te) (anyP pe) := fun σ τ H R h z =>
  anyRule (fun _ _ => True) (fun Q q => he σ τ H Q h (Rs.post_mono q (fun t q v H' B x y => q v H' B x y True.intro) fun _ q => q)) (Rs.post_mono z (fun ts q J H' C x t _ => q J H' C x t) fun _ q => q)
theorem sm_anyF (he : SmF K W te pe) : SmIF K W (iAny K te) (anyP pe) := fun σ τ H R h z =>
  anyRule (fun B _ => Nw H B) (fun Q q => he σ τ H Q h (Rs.post_mono q (fun t q v H' B x y f => q v H' B x y fun q b => (f q b).1) fun _ q => q)) z
/-! ### targets within a comprehension -/
def SmGR (K : PySem.W.Frag) (vs : List Nat) (g : TG) (pg : T → Ev → Rs Ev) : Prop := ∀ σ τ H v t B (Q : L2.St → Hp → Prop), RpR K H σ τ → Rp K H v t B → (pg t τ).post (fun τ' => ∀ σ', RpR K H σ' τ' → wipe σ' vs = wipe σ vs → Q σ' H) (fun _ => False) → g v σ H Q
def SmGRs (K : PySem.W.Frag) (vs : List Nat) (g : TGs) (pg : List T → Ev → Rs Ev) : Prop := ∀ σ τ H xs ts B (Q : L2.St → Hp → Prop), RpR K H σ τ → RpL K H xs ts B → (pg ts τ).post (fun τ' => ∀ σ', RpR K H σ' τ' → wipe σ' vs = wipe σ vs → Q σ' H) (fun _ => False) → g xs σ H Q
def setB (i : Nat) : T → Ev → Rs Ev := fun t τ => if i < τ.length then .ok (τ.set i (.bor t)) else .bad
theorem wipe_set : ∀ {vs : List Nat} {σ : L2.St} {i : Nat} {o : Option V}, i ∈ vs → wipe (σ.set i o) vs = wipe σ vs
  | [], _, _, _, h => (List.not_mem_nil h).elim
  | v :: vs, σ, i, o, h => by
    show (wipe (σ.set i o) vs).set v none = (wipe σ vs).set v none
    by_cases hi : i ∈ vs
    · rw [wipe_set hi]
    · have e : i = v := (List.mem_cons.mp h).resolve_right hi
      subst e
      have comm : ∀ (ws : List Nat), i ∉ ws → wipe (σ.set i o) ws = (wipe σ ws).set i o := fun ws => by
        induction ws with
        | nil => exact fun _ => rfl
        | cons w ws ih =>
          intro hn
          show (wipe (σ.set i o) ws).set w none = ((wipe σ ws).set w none).set i o
          rw [ih fun z => hn (List.mem_cons_of_mem _ z), List.set_comm _ _ fun e => hn (by rw [e]; exact List.mem_cons_self)]
      rw [comm vs hi, List.set_set]
theorem wipe_sub {σ : L2.St} {vs : List Nat} : ∀ {us : List Nat}, (∀ u ∈ us, u ∈ vs) → wipe (wipe σ us) vs = wipe σ vs
  | [], _ => rfl
  | u :: us, h => (wipe_set (h u List.mem_cons_self)).trans (wipe_sub fun x hx => h x (List.mem_cons_of_mem _ hx))
theorem RpR.set {H : Hp} {σ : L2.St} {τ : Ev} {i : Nat} {v : V} {t : T} {B : Sa} {s : Sl} (h : RpR K H σ τ) (hi : i < τ.length) (r : Rp K H v t B) (es : s.t = some t) : RpR K H (σ.set i (some v)) (τ.set i s) := by
  refine ⟨by rw [List.length_set, List.length_set]; exact h.len, fun j s' t' e1 e2 => ?_⟩
  by_cases e : i = j
  · subst e
    rw [List.getElem?_set_self hi] at e1
    cases e1
    rw [es] at e2
    cases e2
    exact ⟨v, B, List.getElem?_set_self (Nat.lt_of_lt_of_le hi h.len), r⟩
  · rw [List.getElem?_set_ne e] at e1
    rw [List.getElem?_set_ne e]
    exact h.sl j s' t' e1 e2
theorem sm_gR {vs : List Nat} {i : Nat} (hv : vs.contains i = true) : SmGR K vs (gName i) (setB i) := fun σ τ H v t B Q h r z => by
  unfold setB at z
  split at z
  · rename_i hi
    exact z _ (h.set hi r rfl) (wipe_set (by simpa using hv))
  · exact z.elim
def gnilP : List T → Ev → Rs Ev := fun ts τ => match ts with
  | [] => .ok τ
  | _ => .bad
def gconsP (p : T → Ev → Rs Ev) (ps : List T → Ev → Rs Ev) : List T → Ev → Rs Ev := fun ts τ => match ts with
  | t :: ts => (p t τ).bind fun τ' => ps ts τ'
  | [] => .bad
def gtupP (n : Nat) (ps : List T → Ev → Rs Ev) : T → Ev → Rs Ev := fun t τ => match t.items with
  | some ts => if ts.length = n then ps ts τ else .bad
  | none => .bad
theorem sm_gRnil {vs : List Nat} : SmGRs K vs gNil gnilP := fun σ τ H xs ts B Q h r z => by
  cases r with
  | nil => exact ⟨rfl, z _ h rfl⟩
  | cons _ _ _ _ _ => exact z.elim
theorem sm_gRcons {vs : List Nat} {g : TG} {gs : TGs} {p : T → Ev → Rs Ev} {ps : List T → Ev → Rs Ev} (hg : SmGR K vs g p) (hs : SmGRs K vs gs ps) : SmGRs K vs (gCons g gs) (gconsP p ps) := fun σ τ H xs ts B Q h r z => by
  cases r with
  | nil => exact z.elim
  | cons h1 h2 s1 s2 d =>
    have z : (Rs.bind _ _).post _ _ := z
    rw [Rs.post_bind] at z
    exact ⟨_, _, rfl, hg _ _ _ _ _ _ _ h h1 (Rs.post_mono z (fun τ' q σ' r' w => hs _ _ _ _ _ _ _ r' h2 (Rs.post_mono q (fun τ'' q σ'' r'' w' => q σ'' r'' (w'.trans w)) fun _ q => q)) fun _ q => q)⟩
theorem sm_gRtup {vs : List Nat} {n : Nat} {gs : TGs} {ps : List T → Ev → Rs Ev} (hs : SmGRs K vs gs ps) : SmGR K vs (gUnp K n gs) (gtupP n ps) := fun σ τ H v t B Q h r z => by
  unfold gtupP at z
  split at z
  · rename_i ts e
    split at z
    · rename_i l
      obtain ⟨p, xs, rfl, g, rr⟩ := items_ok r e
      have z2 := hs _ _ _ _ _ _ _ h rr z
      rcases g with g | g
      · exact .inr ⟨p, xs, rfl, g, by rw [rr.len]; exact l, z2⟩
      · exact .inl ⟨p, xs, rfl, g, by rw [rr.len]; exact l, z2⟩
    · exact z.elim
  · exact z.elim
/-! ### comprehensions -/
def SmTs (K : PySem.W.Frag) (W : WX) (tt : TT) (pt : Ev → Rs Bool) : Prop := SmT K W tt pt
def yesP : Ev → Rs Bool := fun _ => .ok true
theorem sm_yes : SmT K W tYes yesP := fun σ τ H R h z => z H Ext.rfl
def wipeE (τ : Ev) : List Nat → Ev
  | [] => τ
  | v :: vs => (wipeE τ vs).set v .no
def lcGo (step : T → Rs (Option T)) : List T → Rs (List T)
  | [] => .ok []
  | x :: xs => (step x).bind fun o => (lcGo step xs).bind fun ys => .ok (match o with
    | some y => y :: ys
    | none => ys)
def lcStep (pg : T → Ev → Rs Ev) (pt : Ev → Rs Bool) (pe : Ev → Rs T) (τw : Ev) : T → Rs (Option T) := fun x => (pg x τw).bind fun τ2 => (pt τ2).bind fun b => if b = true then (pe τ2).bind fun y => .ok (some y) else .ok none
def noX {α : Type} : Rs α → Rs α
  | .ok a => .ok a
  | _ => .bad
def lcP (pi : Ev → Rs (List T)) (pg : T → Ev → Rs Ev) (pt : Ev → Rs Bool) (pe : Ev → Rs T) (vs : List Nat) : Ev → Rs T := fun τ => (pi τ).bind fun xs => (noX (lcGo (lcStep pg pt pe (wipeE τ vs)) xs)).bind fun ys => if xs.length < sizeLine then .ok (.lst ys) else .bad
theorem RpR.wipe {H : Hp} {σ : L2.St} {τ : Ev} (h : RpR K H σ τ) : ∀ vs : List Nat, RpR K H (wipe σ vs) (wipeE τ vs)
  | [] => h
  | v :: vs => by
    have ih := h.wipe vs
    refine ⟨?_, fun j s t e1 e2 => ?_⟩
    · show ((wipeE τ vs).set v .no).length ≤ ((L2.wipe σ vs).set v none).length
      rw [List.length_set, List.length_set]
      exact ih.len
    · have e1 : ((wipeE τ vs).set v .no)[j]? = some s := e1
      show ∃ v' B, ((L2.wipe σ vs).set v none)[j]? = some (some v') ∧ _
      by_cases e : v = j
      · subst e
        by_cases hj : v < (wipeE τ vs).length
        · rw [List.getElem?_set_self hj] at e1
          cases e1
          cases e2
        · rw [List.getElem?_eq_none (by rw [List.length_set]; omega)] at e1
          cases e1
      · rw [List.getElem?_set_ne e] at e1
        rw [List.getElem?_set_ne e]
        exact ih.sl j s t e1 e2
theorem noX_ok {α : Type} {r : Rs α} {a : α} (h : noX r = .ok a) : r = .ok a := by
  cases r <;> first | exact h | cases h
theorem bind_ok {α β : Type} {r : Rs α} {f : α → Rs β} {b : β} (h : r.bind f = .ok b) : ∃ a, r = .ok a ∧ f a = .ok b := by
  cases r with
  | ok a => exact ⟨a, rfl, h⟩
  | exc x => cases h
  | bad => cases h
theorem lcGo_len {step : T → Rs (Option T)} : ∀ {xs ys : List T}, lcGo step xs = .ok ys → ys.length ≤ xs.length
  | [], ys, h => by cases h; exact Nat.le_refl _
  | x :: xs, ys, h => by
    obtain ⟨o, e1, h⟩ := bind_ok h
    obtain ⟨zs, e2, h⟩ := bind_ok h
    have := lcGo_len e2
    cases o <;> (cases h; simp; omega)
/-- the loop of a comprehension -/
theorem lc_run {wvs : List Nat} {g : TG} {pg : T → Ev → Rs Ev} {σ : L2.St} {τ : Ev} {H1 : Hp} {Q : VK} {J : It} {C : Sa} {xs ys : List T} (h : RpR K H1 σ τ) (hg : SmGR K wvs g pg) (ht : SmT K noW tt pt) (he : SmF K noW te pe) (tl : TellsT K C J xs H1)
    (e : lcGo (lcStep pg pt pe (wipeE τ wvs)) xs = .ok ys) (l : xs.length < sizeLine) (q : ∀ v H' B, Ext noM H1 H' → Rp K H' v (.lst ys) B → Fresh H1 H' B → Q v H') : LcAsk J g tt te wvs σ H1 Q := by
  intro d hd
  let P : Nat → Hp → Prop := fun k H => ∃ acc as zs B, H d = some (.lst acc) ∧ RpL K H acc as B ∧ (∀ q, B q → q ≠ d ∧ H1 q = none ∧ Mt H q) ∧ Ext noM H1 H ∧ lcGo (lcStep pg pt pe (wipeE τ wvs)) (xs.drop k) = .ok zs ∧ as ++ zs = ys ∧ as.length ≤ k
  have nd : ∀ {H : Hp} {o : HO}, H1 d = none → H1 d = some o → False := fun a b => by rw [a] at b; cases b
  refine ⟨fun k m H => P k H ∧ k + m = xs.length, ⟨xs.length, ⟨[], [], ys, noM, upd_same, .nil, fun _ z => z.elim, Ext.new hd, e, rfl, Nat.le_refl _⟩, Nat.zero_add _⟩, fun k m H ⟨p, hm⟩ => ?_⟩
  obtain ⟨acc, as, zs, B, hacc, racc, hB, x, ego, eas, la⟩ := p
  have kp : Kp K C H1 H := x.kp
  have t := tl k H kp x.fk
  cases m with
  | zero =>
    have ek : k = xs.length := hm
    refine .inl ⟨t.2 (by omega), ?_⟩
    rw [ek, List.drop_length] at ego
    cases ego
    rw [List.append_nil] at eas
    subst eas
    exact q _ H (fun q => q = d ∨ B q) x (.lst (.inl rfl) hacc (A1 := B) (fun q b => ⟨.inr b, (hB q b).1⟩) racc) fun q z => z.elim (fun e => by rw [e]; exact ⟨hd, .inl ⟨_, hacc⟩⟩) fun b => (hB q b).2
  | succ m =>
    have hk : k < xs.length := by omega
    have ex : xs[k]? = some xs[k] := List.getElem?_eq_getElem hk
    obtain ⟨go, yl⟩ := t.1 _ ex
    refine .inr ⟨go, P (k + 1), fun H' p => ⟨m, Nat.lt_succ_self m, p, by omega⟩, fun v H2 hy => ?_⟩
    obtain ⟨x2, rv⟩ := yl v H2 hy
    have ed : xs.drop k = xs[k] :: xs.drop (k + 1) := by rw [List.drop_eq_getElem_cons hk]
    rw [ed] at ego
    obtain ⟨o, e1, ego⟩ := bind_ok ego
    obtain ⟨rs, e2, ego⟩ := bind_ok ego
    obtain ⟨τ2, eg, e1⟩ := bind_ok e1
    obtain ⟨b, et, e1⟩ := bind_ok e1
    have x12 := x.trans x2
    refine hg _ _ _ _ _ _ _ ((h.wipe wvs).ext x12) rv (Rs.post_eq eg fun σ2 r2 w2 => ⟨w2.trans (wipe_sub fun _ h => h), ?_⟩)
    refine ht σ2 τ2 H2 _ r2 (Rs.post_eq et fun H3 x3 => ?_)
    have x13 := x12.trans x3
    cases b with
    | true =>
      rw [if_pos rfl] at e1 ⊢
      obtain ⟨y, ey, e1⟩ := bind_ok e1
      cases e1
      cases ego
      refine he σ2 τ2 H3 _ (r2.ext x3) (Rs.post_eq ey fun v4 H4 B4 x4 r4 f4 => ?_)
      have xx : Ext noM H H4 := (x2.trans x3).trans x4
      have hacc4 := xx d _ noM_not hacc
      refine ⟨acc, hacc4, by rw [racc.len]; omega, acc ++ [v4], as ++ [y], rs, Uni B B4, upd_same, ?_, ?_, ?_, e2, by rw [← eas]; simp, by simp; omega⟩
      · have kd : Kp K (Uni B B4) H4 (upd H4 d (.lst (acc ++ [v4]))) := (Ext.set (M := at1 d) (p := d) (H := H4) rfl).kpM (fun q e => by rw [show q = d from e]; exact .inl ⟨_, hacc4⟩) fun q z e => by
          have e : q = d := e
          rcases z with z | z
          · exact (hB q z).1 e
          · have := (f4 q z).1
            rw [e, (x2.trans x3) d _ noM_not hacc] at this
            cases this
        exact ((racc.mono xx.kp).append r4.one fun q a b => (mt_no (mt_ext (x2.trans x3) (hB q a).2.2)).2.2 (f4 q b).1).mono kd
      · have mu : ∀ q, q ≠ d → Mt H4 q → Mt (upd H4 d (.lst (acc ++ [v4]))) q := fun q nq m => by
          unfold Mt
          rw [upd_ne nq]
          exact m
        rintro q (z | z)
        · exact ⟨(hB q z).1, (hB q z).2.1, mu q (hB q z).1 (mt_ext xx (hB q z).2.2)⟩
        · have nq : q ≠ d := fun e => by
            have := (f4 q z).1
            rw [e, (x2.trans x3) d _ noM_not hacc] at this
            cases this
          exact ⟨nq, x13.nn (f4 q z).1, mu q nq (f4 q z).2⟩
      · exact (x13.trans x4).setNew hd
    | false =>
      rw [if_neg Bool.false_ne_true] at e1 ⊢
      cases e1
      cases ego
      have xx : Ext noM H H3 := x2.trans x3
      refine ⟨acc, as, rs, B, xx d _ noM_not hacc, racc.mono xx.kp, fun q b => ⟨(hB q b).1, (hB q b).2.1, mt_ext xx (hB q b).2.2⟩, x13, e2, eas, by omega⟩
theorem sm_lc {wvs : List Nat} {wi : TI} {pi : Ev → Rs (List T)} {g : TG} {pg : T → Ev → Rs Ev} (hi : SmI K W wi pi) (hg : SmGR K wvs g pg) (ht : SmT K noW tt pt) (he : SmF K noW te pe) : SmF K W (tLc wi g tt te wvs) (lcP pi pg pt pe wvs) := fun σ τ H Q h z => by
  unfold lcP at z
  rw [Rs.post_bind] at z
  refine hi σ τ H _ h (Rs.post_mono z (fun xs q J H1 C x tl => ?_) fun _ q => q)
  rw [Rs.post_bind] at q
  cases e : lcGo (lcStep pg pt pe (wipeE τ wvs)) xs with
  | ok ys =>
    rw [e] at q
    have q : (if xs.length < sizeLine then Rs.ok (T.lst ys) else .bad).post (OkF K H Q) (ExR K W H σ) := q
    split at q
    · exact lc_run (h.ext x) hg ht he tl e (by assumption) fun v H' B x2 r f => q v H' B (x.trans x2) r (x.fr f)
    · exact q.elim
  | exc x => rw [e] at q; exact q.elim
  | bad => rw [e] at q; exact q.elim
end
end Rw

namespace Rw
open PySem PySem.Spec PyProof.Rows L2
section
variable {K : PySem.W.Frag} {W : WX} {te ta tb tc to : TE} {pe pa pb pc po : Ev → Rs T} {tA tK : TA} {pA pK : Ev → Rs (List T)} {tt : TT} {pt : Ev → Rs Bool}
/-! ### how arguments come to parameters -/
def T.dv : He.Dv → T
  | .non => .non
  | .bl b => .bl b
  | .int i => .int i
  | .str x => .str x
  | .ty n => .ty n
  | .glo x => .glo x
  | _ => .any
theorem dv_ok {H : Hp} {B : Sa} (v : He.Dv) : Rp K H (v.v K) (T.dv v) B := by
  cases v <;> first | exact .non | exact .bl | exact .int | exact .str | exact .ty | exact .glo | exact .any
def ntT (ts : List T) (i : Nat) : T := (ts[i]?).getD .any
def plugT (plan : List Src) (ts zs : List T) : List T := plan.map fun s => match s with
  | .pos i => ntT ts i
  | .kw j => ntT zs j
  | .dfl v => T.dv v
theorem each_get {H : Hp} : ∀ {vs : List V} {ts : List T} (i : Nat), EachR K H vs ts → ∃ B, Rp K H (nth vs i) (ntT ts i) B
  | _, _, i, .nil => ⟨noM, by unfold ntT; simp; exact .any⟩
  | _, _, 0, .cons h _ => by
    obtain ⟨B, h⟩ := h
    exact ⟨B, h⟩
  | _ :: vs, _ :: ts, i + 1, .cons _ r => by
    obtain ⟨B, h⟩ := each_get i r
    refine ⟨B, ?_⟩
    show Rp K H (nth vs i) _ B
    unfold ntT at h ⊢
    simpa using h
theorem each_plug {H : Hp} {vs zs : List V} {ts us : List T} (h : EachR K H vs ts) (h2 : EachR K H zs us) : ∀ plan : List Src, EachR K H (plug K plan vs zs) (plugT plan ts us)
  | [] => .nil
  | .pos i :: l => .cons (each_get i h) (each_plug h h2 l)
  | .kw j :: l => .cons (each_get j h2) (each_plug h h2 l)
  | .dfl v :: l => .cons ⟨noM, dv_ok v⟩ (each_plug h h2 l)
theorem each_app {H : Hp} : ∀ {vs ws : List V} {ts us : List T}, EachR K H vs ts → EachR K H ws us → EachR K H (vs ++ ws) (ts ++ us)
  | _, _, _, _, .nil, h => h
  | _, _, _, _, .cons a r, h => .cons a (each_app r h)
/-! ### a def that changes nothing, called -/
abbrev ExE (K : PySem.W.Frag) (H : Hp) (E : XK) (x : Xc) : Prop := ∀ cls d H', Ext noM H H' → RpX K H' cls d x → E cls d H'
def SpR (K : PySem.W.Frag) (sp : Sp) (pf : List T → Rs T) : Prop := ∀ vs ts H Q E, EachR K H vs ts → (pf ts).post (OkF K H Q) (ExE K H E) → sp vs H Q E
def fnP (first : List T) (plan : List Src) (na nk : Nat) (pf : List T → Rs T) (pA pK : Ev → Rs (List T)) : Ev → Rs T := fun τ => (pA τ).bind fun ts => (pK τ).bind fun zs => if ts.length = na ∧ zs.length = nk then pf (plugT plan (first ++ ts) zs) else .bad
theorem args_run {c : Cn} {k : Ky} {na : Nat} {ks : List Str} {s : Shp} {pf : List T → Rs T} {first : List V} {ft : List T} (hs : shpOf c.sh k (first.length + na) ks = some s) (sp : SpR c.K (c.Ph s.key) pf) (hA : SmAR c.K c.W tA pA) (hK : SmAR c.K c.W tK pK) {σ : L2.St} {τ : Ev} {H : Hp} {Q : VK} (h : RpR c.K H σ τ) (hf : EachR c.K H first ft)
    (z : (fnP ft s.plan na ks.length pf pA pK τ).post (OkF c.K H Q) (ExR c.K c.W H σ)) : tArgs c k na ks first tA tK σ H Q := by
  unfold fnP at z
  rw [Rs.post_bind] at z
  refine ⟨s, hs, hA σ τ H _ h (Rs.post_mono z (fun ts q vs H1 x y => ?_) fun _ q => q)⟩
  rw [Rs.post_bind] at q
  refine hK σ τ H1 _ (h.ext x) (Rs.post_mono q (fun us q zs H2 x2 y2 => ?_) fun _ q => q.ext x)
  have x12 := x.trans x2
  split at q
  · rename_i l
    refine ⟨(Paired.length y).trans l.1, (Paired.length y2).trans l.2, ?_⟩
    exact sp _ _ H2 Q _ (each_plug (each_app (each_mono hf x12) (each_mono y x2)) y2 s.plan) (Rs.post_mono q (fun t q v H3 B x3 r f => q v H3 B (x12.trans x3) r (x12.fr f)) fun x q cls d H3 x3 r => q cls d H3 (x12.trans x3) r)
  · exact q.elim
theorem sm_fn {c : Cn} {x : Str} {na : Nat} {ks : List Str} {s : Shp} {pf : List T → Rs T} (hs : shpOf c.sh (x, none) (([] : List V).length + na) ks = some s) (sp : SpR c.K (c.Ph s.key) pf) (hA : SmAR c.K c.W tA pA) (hK : SmAR c.K c.W tK pK) : SmF c.K c.W (tFn c x na ks tA tK) (fnP [] s.plan na ks.length pf pA pK) := fun σ τ H Q h z =>
  args_run hs sp hA hK h .nil z
/-- a method of an instance of the class C -/
def methP (C m : Str) (plan : List Src) (na nk : Nat) (pf : List T → Rs T) (po : Ev → Rs T) (pA pK : Ev → Rs (List T)) : Ev → Rs T := fun τ => (po τ).bind fun t => match t with
  | .ins D fs => if D = C ∧ fs.lookup m = none then fnP [.ins D fs] plan na nk pf pA pK τ else .bad
  | _ => .bad
theorem lookup_none {fs : List (Str × V)} {ts : List (Str × T)} (e : fs.map (·.1) = ts.map (·.1)) {m : Str} (h : ts.lookup m = none) : fs.lookup m = none := by
  induction ts generalizing fs with
  | nil =>
    cases fs with
    | nil => rfl
    | cons _ _ => simp at e
  | cons p ts ih =>
    obtain ⟨g, t⟩ := p
    cases fs with
    | nil => rfl
    | cons q fs =>
      obtain ⟨g', v⟩ := q
      simp only [List.map_cons, List.cons.injEq] at e
      rw [lk_cons] at h ⊢
      rw [e.1]
      split at h
      · cases h
      · rename_i z
        rw [if_neg z]
        exact ih e.2 h
theorem sm_meth {c : Cn} {C m : Str} {na : Nat} {ks : List Str} {s : Shp} {pf : List T → Rs T} (hs : shpOf c.sh (C, some m) (1 + na) ks = some s) (k1 : hasF (isCls C) c.fa = true) (k2 : hasF (isMeth C m) c.fa = true) (sp : SpR c.K (c.Ph s.key) pf) (ho : SmR c.K c.W to po) (hA : SmAR c.K c.W tA pA) (hK : SmAR c.K c.W tK pK) :
    SmF c.K c.W (tMeth c m na ks to tA tK) (methP C m s.plan na ks.length pf po pA pK) := fun σ τ H Q h z => by
  unfold methP at z
  rw [Rs.post_bind] at z
  refine ho σ τ H _ h (Rs.post_mono z (fun t q v H1 B x y => ?_) fun _ q => q)
  split at q
  · rename_i D fs
    split at q
    · rename_i cc
      obtain ⟨rfl, hl⟩ := cc
      have y' := y
      cases y with
      | ins mm hh ss ee rr =>
        refine ⟨_, D, _, _, rfl, hh, k1, k2, lookup_none ee hl, ?_⟩
        exact args_run (c := c) (first := [_]) hs sp hA hK (h.ext x) (.cons ⟨B, y'⟩ .nil) (Rs.post_mono q (fun t q v H3 B x3 r f => q v H3 B (x.trans x3) r (x.fr f)) fun _ q => q.ext x)
    · exact q.elim
  · exact q.elim
/-! ### built-in methods that change nothing -/
def MtS (r : V → List V → Hp → VK → Prop) (K : PySem.W.Frag) (f : T → List T → Option T) : Prop := ∀ x vs s ts Bx H Q u, Rp K H x s Bx → EachR K H vs ts → f s ts = some u → OkF K H Q u → r x vs H Q
def T.isTy (Ty : String) : T → Bool
  | .str _ => Ty == "str"
  | .int _ => Ty == "int"
  | .lst _ => Ty == "list"
  | .frz _ => Ty == "list"
  | .dct _ => Ty == "dict"
  | _ => false
theorem isTy_ok {H : Hp} {v : V} {t : T} {B : Sa} (r : Rp K H v t B) {Ty : String} (e : t.isTy Ty = true) : tyU K Ty v H := by
  cases r with
  | int => exact .inl (by simpa [T.isTy, tyV] using e)
  | str => exact .inl (by simpa [T.isTy, tyV] using e)
  | frz h r => exact .inl (.inl ⟨by simpa [T.isTy] using e, _, h.seq⟩)
  | lst m h s r => exact .inl (.inl ⟨by simpa [T.isTy] using e, _, .inl (.inl h)⟩)
  | dct m h s ee nd r => exact .inr ⟨_, _, rfl, by simpa [T.isTy] using e, h⟩
  | _ => cases e
theorem tyU_ext {H H' : Hp} (x : Ext noM H H') {Ty : String} {v : V} (h : tyU K Ty v H) : tyU K Ty v H' := by
  rcases h with h | ⟨p, kvs, rfl, rfl, h⟩
  · left
    cases v with
    | ref p =>
      rcases h with ⟨rfl, xs, h⟩ | ⟨rfl, h⟩ | ⟨rfl, h⟩ | ⟨rfl, S, n, h⟩
      · exact .inl ⟨rfl, xs, sql_ext h x fun _ => noM_not⟩
      · exact .inr (.inl ⟨rfl, h⟩)
      · refine .inr (.inr (.inl ⟨rfl, ?_⟩))
        rcases h with ⟨k, h⟩ | ⟨k, h⟩
        · exact .inl ⟨k, x _ _ noM_not h⟩
        · exact .inr ⟨k, x _ _ noM_not h⟩
      · exact .inr (.inr (.inr ⟨rfl, S, n, x _ _ noM_not h⟩))
    | _ => exact h
  · exact .inr ⟨p, kvs, rfl, rfl, rd_ext h x fun _ => noM_not⟩
def bmP (Ty : String) (f : T → List T → Option T) (po : Ev → Rs T) (pA : Ev → Rs (List T)) : Ev → Rs T := fun τ => (po τ).bind fun s => if s.isTy Ty = true then (pA τ).bind fun ts => ofO (f s ts) else .bad
theorem sm_bm {Ty : String} {r : V → List V → Hp → VK → Prop} {f : T → List T → Option T} (o : MtS r K f) (ho : SmR K W to po) (hA : SmAR K W tA pA) : SmF K W (tBMU K Ty r to tA) (bmP Ty f po pA) := fun σ τ H Q h z => by
  unfold bmP at z
  rw [Rs.post_bind] at z
  refine ho σ τ H _ h (Rs.post_mono z (fun s q v H1 B x y => ?_) fun _ q => q)
  split at q
  · rename_i ty
    rw [Rs.post_bind] at q
    refine ⟨isTy_ok y ty, hA σ τ H1 _ (h.ext x) (Rs.post_mono q (fun ts q vs H2 x2 e => ?_) fun _ q => q.ext x)⟩
    obtain ⟨u, e1, q⟩ := ofO_post q
    exact o _ _ _ _ B H2 Q u (y.mono x2.kp) e e1 fun v H3 B3 x3 r3 f3 => q v H3 B3 ((x.trans x2).trans x3) r3 ((x.trans x2).fr f3)
  · exact q.elim
theorem sm_bm0 {Ty : String} {r : V → List V → Hp → VK → Prop} {f : T → List T → Option T} (o : MtS r K f) (ho : SmR K W to po) : SmF K W (tBMU0 K Ty r to) (bmP Ty f po nilP) := fun σ τ H Q h z => by
  unfold bmP at z
  rw [Rs.post_bind] at z
  refine ho σ τ H _ h (Rs.post_mono z (fun s q v H1 B x y => ?_) fun _ q => q)
  split at q
  · rename_i ty
    obtain ⟨u, e1, q⟩ := ofO_post q
    exact ⟨isTy_ok y ty, o _ _ _ _ B H1 Q u y .nil e1 fun v H3 B3 x3 r3 f3 => q v H3 B3 (x.trans x3) r3 (x.fr f3)⟩
  · exact q.elim
/-- d.get(k, z): what is told is no object that may be written -/
def q_get : T → List T → Option T
  | .dct ks, [k] => k.key.bind fun k => match val ks k with
    | some t => if t.im = true then some t else none
    | none => some .non
  | .dct ks, [k, z] => k.key.bind fun k => match val ks k with
    | some t => if t.im = true then some t else none
    | none => if z.im = true then some z else none
  | _, _ => none
theorem mt_get : MtS rDget K q_get := fun x vs s ts Bx H Q u rx h e q => by
  unfold q_get at e
  split at e
  · obtain ⟨k, e1, e2⟩ := Option.bind_eq_some_iff.mp e
    obtain ⟨v, B, rfl, r⟩ := each1 h
    cases rx with
    | dct m g s ee nd rr =>
      rw [key_ok r e1]
      refine ⟨_, kV k, _, rfl, .inl ⟨rfl, .inl ⟨_, k, g, rfl, rfl⟩, ?_⟩⟩
      split at e2
      · rename_i t ev
        split at e2
        · rename_i im
          cases e2
          obtain ⟨v', e3, r'⟩ := val_rp ee rr ev
          rw [e3]
          exact q _ H noM Ext.rfl (r'.im im) fresh_no
        · cases e2
      · rename_i ev
        cases e2
        rw [val_no ev _ ee]
        exact q _ H noM Ext.rfl .non fresh_no
  · obtain ⟨k, e1, e2⟩ := Option.bind_eq_some_iff.mp e
    obtain ⟨v, w, B, C, rfl, r, r2⟩ := each2 h
    cases rx with
    | dct m g s ee nd rr =>
      rw [key_ok r e1]
      refine ⟨_, kV k, _, rfl, .inr ⟨w, rfl, .inl ⟨_, k, g, rfl, rfl⟩, ?_⟩⟩
      split at e2
      · rename_i t ev
        split at e2
        · rename_i im
          cases e2
          obtain ⟨v', e3, r'⟩ := val_rp ee rr ev
          rw [e3]
          exact q _ H noM Ext.rfl (r'.im im) fresh_no
        · cases e2
      · rename_i ev
        split at e2
        · rename_i im
          cases e2
          rw [val_no ev _ ee]
          exact q _ H noM Ext.rfl (r2.im im) fresh_no
        · cases e2
  · cases e
/-- 'sep'.join(xs) -/
def q_join : T → List T → Option T
  | .str a, [t] => (t.items.bind T.strs).bind fun ys => if (ys.map (·.length)).sum + ys.length * a.length ≤ 16777216 then some (.str (Txt.join a ys)) else none
  | _, _ => none
theorem mt_joinT : MtS (rJoin K) K q_join := fun x vs s ts Bx H Q u rx h e q => by
  unfold q_join at e
  split at e
  · obtain ⟨ys, e1, e2⟩ := Option.bind_eq_some_iff.mp e
    obtain ⟨ts, e1, e3⟩ := Option.bind_eq_some_iff.mp e1
    split at e2
    · rename_i l
      cases e2
      obtain ⟨v, B, rfl, r⟩ := each1 h
      obtain ⟨p, ws, rfl, g, rr⟩ := items_ok r e1
      rw [strs_ok rr e3] at g
      cases rx
      exact ⟨_, p, ys, rfl, rfl, g, l, q _ H noM Ext.rfl .str fresh_no⟩
    · cases e2
  · cases e
/-! sum(d.values()), max(xs, default=d), min of pairs -/
def sumVP (pe : Ev → Rs T) : Ev → Rs T := fun τ => (pe τ).bind fun t => match t with
  | .dct ks => ofO ((T.ints (ks.map (·.2))).map fun ns => .int ns.sum)
  | _ => .bad
def ckP (f : List T → List T → Option T) (pA pK : Ev → Rs (List T)) : Ev → Rs T := fun τ => (pA τ).bind fun ts => (pK τ).bind fun zs => ofO (f ts zs)
theorem sm_ckw {r : List V → List V → Hp → VK → Prop} {f : List T → List T → Option T} (o : ∀ vs zs ts us H Q u, EachR K H vs ts → EachR K H zs us → f ts us = some u → OkF K H Q u → r vs zs H Q) (hA : SmAR K W tA pA) (hK : SmAR K W tK pK) : SmF K W (tCKw r tA tK) (ckP f pA pK) := fun σ τ H Q h z => by
  unfold ckP at z
  rw [Rs.post_bind] at z
  refine hA σ τ H _ h (Rs.post_mono z (fun ts q vs H1 x y => ?_) fun _ q => q)
  rw [Rs.post_bind] at q
  refine hK σ τ H1 _ (h.ext x) (Rs.post_mono q (fun us q zs H2 x2 y2 => ?_) fun _ q => q.ext x)
  obtain ⟨u, e, q⟩ := ofO_post q
  exact o _ _ _ _ H2 Q u (each_mono y x2) y2 e fun v H3 B x3 r f => q v H3 B ((x.trans x2).trans x3) r ((x.trans x2).fr f)
def q_maxD : List T → List T → Option T
  | [t], [d] => (t.lits.bind T.ints).bind fun ns => if ns.isEmpty = true then (if d.im = true then some d else none) else some (.int (maxI ns))
  | _, _ => none
theorem ck_maxD : ∀ vs zs ts us H Q u, EachR K H vs ts → EachR K H zs us → q_maxD ts us = some u → OkF K H Q u → rMaxD K vs zs H Q := fun vs zs ts us H Q u h h2 e q => by
  unfold q_maxD at e
  split at e
  · obtain ⟨ns, e1, e2⟩ := Option.bind_eq_some_iff.mp e
    obtain ⟨ts, e1, e3⟩ := Option.bind_eq_some_iff.mp e1
    obtain ⟨v, B, rfl, r⟩ := each1 h
    obtain ⟨w, C, rfl, r2⟩ := each1 h2
    obtain ⟨p, ws, rfl, g, rr⟩ := lits_ok r e1
    rw [ints_ok rr e3] at g
    refine ⟨p, ns, w, rfl, rfl, g, fun e => ?_, fun m m1 m2 => ?_⟩
    · rw [if_pos (by rw [e]; rfl)] at e2
      split at e2
      · cases e2
        exact q _ H noM Ext.rfl (r2.im (by assumption)) fresh_no
      · cases e2
    · have ne : ns ≠ [] := fun e => by rw [e] at m1; cases m1
      rw [if_neg (by cases ns <;> simp_all)] at e2
      cases e2
      have : m = maxI ns := Int.le_antisymm (maxI_ge m1) (m2 _ (maxI_mem ne))
      rw [this]
      exact q _ H noM Ext.rfl .int fresh_no
  · cases e
/-- one of two readings -/
theorem sm_altL {t2 : TE} (h : SmF K W te pe) : SmF K W (tEor te t2) pe := fun σ τ H Q r z => .inl (h σ τ H Q r z)
theorem sm_altR {t2 : TE} (h : SmF K W te pe) : SmF K W (tEor t2 te) pe := fun σ τ H Q r z => .inr (h σ τ H Q r z)
end
end Rw

namespace Rw
open PySem PySem.Spec PyProof.Rows L2
/-! ### ways within a tree -/
inductive Stp where
  | fld (f : Str) | key (k : Key) | idx (i : Int)
def putG {α : Type} (f : Str) (v : α) : List (Str × α) → List (Str × α)
  | [] => [(f, v)]
  | (g, x) :: r => if g = f then (g, v) :: r else (g, x) :: putG f v r
def getS : T → Stp → Option T
  | .ins _ fs, .fld f => fs.lookup f
  | .dct ks, .key k => val ks k
  | .lst xs, .idx i => atI xs i
  | _, _ => none
def setS : T → Stp → T → T
  | .ins C fs, .fld f, u => .ins C (putG f u fs)
  | .dct ks, .key k, u => .dct (put ks k u)
  | .lst xs, .idx i, u => match ixN xs.length i with
    | some j => .lst (xs.set j u)
    | none => .lst xs
  | t, _, _ => t
def getP : T → List Stp → Option T
  | t, [] => some t
  | t, s :: st => (getS t s).bind fun u => getP u st
def setP : T → List Stp → T → T
  | _, [], u => u
  | t, s :: st, u => match getS t s with
    | some t1 => setS t s (setP t1 st u)
    | none => t
inductive Rch (K : PySem.W.Frag) (H : Hp) : V → Stp → V → Prop
  | fld {a C dx fs f w} (h : H a = some (.ins C dx fs)) (l : fs.lookup f = some w) : Rch K H (.ref a) (.fld f) w
  | key {a kvs k w} (h : Rd H a (.dK kvs)) (l : valV kvs k = some w) : Rch K H (.ref a) (.key k) w
  | idx {a xs i w} (h : H a = some (.lst xs)) (l : atI xs i = some w) : Rch K H (.ref a) (.idx i) w
inductive Rchs (K : PySem.W.Frag) (H : Hp) : V → List Stp → V → Prop
  | nil {v} : Rchs K H v [] v
  | cons {v s w st x} (h : Rch K H v s w) (r : Rchs K H w st x) : Rchs K H v (s :: st) x
theorem set_same {α : Type} {xs : List α} {k : Nat} {x : α} (h : xs[k]? = some x) : xs.set k x = xs := by
  apply List.ext_getElem?
  intro j
  by_cases e : k = j
  · subst e
    have hk := (List.getElem?_eq_some_iff.mp h).1
    rw [List.getElem?_set_self hk, h]
  · rw [List.getElem?_set_ne e]
section
variable {K : PySem.W.Frag}
theorem rd_inj {H : Hp} {a : Addr} {xs ys : List (Key × V)} (h : Rd H a (.dK xs)) (h2 : Rd H a (.dK ys)) : xs = ys := by
  rcases h with h | ⟨o, h⟩ <;> rcases h2 with h2 | ⟨o2, h2⟩ <;> (rw [h] at h2; cases h2; try rfl)
theorem lookup_ix2 : ∀ {ts : List (Str × T)} {f : Str} {t : T}, ts.lookup f = some t → ∃ k : Nat, (ts.map (·.2))[k]? = some t ∧ (∀ fs : List (Str × V), fs.map (·.1) = ts.map (·.1) → fs.lookup f = (fs.map (·.2))[k]?) ∧ ∀ u, (putG f u ts).map (·.2) = (ts.map (·.2)).set k u ∧ (putG f u ts).map (·.1) = ts.map (·.1)
  | (g, x) :: ts, f, t, h => by
    rw [lk_cons] at h
    by_cases e : f = g
    · rw [if_pos e] at h
      cases h
      refine ⟨0, rfl, fun fs hf => ?_, fun u => ?_⟩
      · cases fs with
        | nil => simp at hf
        | cons p fs =>
          obtain ⟨g', v⟩ := p
          simp only [List.map_cons, List.cons.injEq] at hf
          rw [lk_cons, if_pos (e.trans hf.1.symm)]
          rfl
      · unfold putG
        rw [if_pos e.symm]
        exact ⟨rfl, rfl⟩
    · rw [if_neg e] at h
      obtain ⟨k, e1, e2, e3⟩ := lookup_ix2 h
      refine ⟨k + 1, by simpa using e1, fun fs hf => ?_, fun u => ?_⟩
      · cases fs with
        | nil => simp at hf
        | cons p fs =>
          obtain ⟨g', v⟩ := p
          simp only [List.map_cons, List.cons.injEq] at hf
          rw [lk_cons, if_neg (fun z => e (z.trans hf.1)), e2 fs hf.2]
          simp
      · unfold putG
        rw [if_neg (fun z => e z.symm)]
        obtain ⟨a, b⟩ := e3 u
        exact ⟨by rw [List.map_cons, a]; rfl, by rw [List.map_cons, b]; rfl⟩
  | [], _, _, h => by simp at h
theorem put_no {α : Type} {ks : List (Key × α)} {k : Key} {v : α} (h : k ∉ ks.map (·.1)) : (ks.map fun p => if p.1 = k then (p.1, v) else p) = ks := by
  conv => rhs; rw [← List.map_id ks]
  refine List.map_congr_left fun p hp => ?_
  rw [if_neg fun e => h (by rw [← e]; exact List.mem_map_of_mem hp)]
  rfl
/-- where a key stands, whatever its values are -/
theorem key_at : ∀ {L : List Key} {k : Key}, L.Nodup → k ∈ L → ∃ i : Nat, i < L.length ∧ ∀ (α : Type) (ks : List (Key × α)), ks.map (·.1) = L → val ks k = (ks.map (·.2))[i]? ∧
    (∀ u, (put ks k u).map (·.2) = (ks.map (·.2)).set i u) ∧ ∀ u, (put ks k u).map (·.1) = ks.map (·.1)
  | [], _, _, h => (List.not_mem_nil h).elim
  | g :: L, k, nd, h => by
    rw [List.nodup_cons] at nd
    by_cases e : g = k
    · subst e
      refine ⟨0, Nat.zero_lt_succ _, fun α ks hk => ?_⟩
      cases ks with
      | nil => simp at hk
      | cons p ks =>
        simp only [List.map_cons, List.cons.injEq] at hk
        have hn : g ∉ ks.map (·.1) := by rw [hk.2]; exact nd.1
        have hp : ∀ u, put (p :: ks) g u = (p.1, u) :: ks := fun u => by
          unfold put
          rw [if_pos (by simp [hk.1]), List.map_cons, if_pos hk.1, put_no hn]
        refine ⟨by simp [val, hk.1], fun u => by rw [hp]; rfl, fun u => by rw [hp]; rfl⟩
    · have h2 : k ∈ L := by
        rcases List.mem_cons.mp h with z | z
        · exact absurd z.symm e
        · exact z
      obtain ⟨i, hi, q⟩ := key_at nd.2 h2
      refine ⟨i + 1, Nat.succ_lt_succ hi, fun α ks hk => ?_⟩
      cases ks with
      | nil => simp at hk
      | cons p ks =>
        simp only [List.map_cons, List.cons.injEq] at hk
        obtain ⟨q1, q2, q3⟩ := q α ks hk.2
        have ep : ¬ p.1 = k := by rw [hk.1]; exact e
        have hp : ∀ u, put (p :: ks) k u = p :: put ks k u := fun u => by
          unfold put
          rw [List.any_cons]
          simp only [ep, decide_false, Bool.false_or]
          split
          · rw [List.map_cons, if_neg ep]
          · rfl
        refine ⟨?_, fun u => ?_, fun u => ?_⟩
        · have : val (p :: ks) k = val ks k := by simp [val, ep]
          rw [this, q1]
          rfl
        · rw [hp, List.map_cons, q2]
          rfl
        · rw [hp, List.map_cons, q3]
          rfl
theorem val_mem {α : Type} {ks : List (Key × α)} {k : Key} {t : α} (h : val ks k = some t) : k ∈ ks.map (·.1) := by
  unfold val at h
  obtain ⟨p, h1, h2⟩ := Option.map_eq_some_iff.mp h
  have := List.find?_some h1
  have e : p.1 = k := by simpa using this
  rw [← e]
  exact List.mem_map_of_mem (List.mem_of_find?_eq_some h1)
/-- one step into a tree: what is there, and how it's put back -/
theorem rp_step {H : Hp} {v : V} {t : T} {B : Sa} {s : Stp} {u : T} (r : Rp K H v t B) (e : getS t s = some u) : ∃ w Bu C, Rch K H v s w ∧ (∀ w', Rch K H v s w' → w' = w) ∧ Rp K H w u Bu ∧ Sub Bu B ∧ Sub C B ∧ Dj Bu C ∧
    ∀ H' u' Bu', Kp K C H H' → Rp K H' w u' Bu' → Dj Bu' C → Rp K H' v (setS t s u') (Uni Bu' C) := by
  cases r with
  | @lst a xs ts _ A1 m h s1 r =>
    cases s with
    | idx i =>
      have e : atI ts i = some u := e
      unfold atI at e
      obtain ⟨k, ek, e1⟩ := Option.bind_eq_some_iff.mp e
      obtain ⟨w, Bu, C0, ew, ru, b1, c1, dj, wand⟩ := r.focus e1
      refine ⟨w, Bu, fun q => q = a ∨ C0 q, .idx h ?_, fun w' h' => ?_, ru, fun q z => (s1 q (b1 q z)).1, fun q z => z.elim (fun e => by rw [e]; exact m) fun z => (s1 q (c1 q z)).1, fun q z y => y.elim (s1 q (b1 q z)).2 (dj q z), fun H' u' Bu' k ru' dj' => ?_⟩
      · unfold atI
        rw [r.len, ek]
        exact ew
      · cases h' with
        | idx h2 l =>
          rw [h] at h2
          cases h2
          unfold atI at l
          rw [r.len, ek] at l
          have l : xs[_]? = some w' := l
          rw [ew] at l
          exact (Option.some.inj l).symm
      · have rr := wand H' w u' Bu' (k.sub fun q z => .inr z) ru' (dj'.sub Sub.rfl fun q z => .inr z)
        rw [set_same ew] at rr
        show Rp K H' _ (match ixN ts.length i with | some j => T.lst (ts.set j u') | none => T.lst ts) _
        rw [ek]
        exact .lst (.inr (.inl rfl)) (k.l _ _ (.inl rfl) h) (A1 := Uni Bu' C0) (fun q z => z.elim (fun z => ⟨.inl z, fun e => dj' q z (.inl e)⟩) fun z => ⟨.inr (.inr z), (s1 q (c1 q z)).2⟩) rr
    | _ => cases e
  | @dct a kvs ks _ A1 m h s1 ee nd r =>
    cases s with
    | key k =>
      have e : val ks k = some u := e
      obtain ⟨i, hi, q⟩ := key_at nd (val_mem e)
      obtain ⟨p1, p2, p3⟩ := q T ks rfl
      obtain ⟨v1, v2, v3⟩ := q V kvs ee
      obtain ⟨w, Bu, C0, ew, ru, b1, c1, dj, wand⟩ := r.focus (p1.symm.trans e)
      have lw : valV kvs k = some w := v1.trans ew
      refine ⟨w, Bu, fun q => q = a ∨ C0 q, .key h lw, fun w' h' => ?_, ru, fun q z => (s1 q (b1 q z)).1, fun q z => z.elim (fun e => by rw [e]; exact m) fun z => (s1 q (c1 q z)).1, fun q z y => y.elim (s1 q (b1 q z)).2 (dj q z), fun H' u' Bu' k' ru' dj' => ?_⟩
      · cases h' with
        | key h2 l =>
          obtain rfl := rd_inj h h2
          rw [lw] at l
          exact (Option.some.inj l).symm
      · have rr := wand H' w u' Bu' (k'.sub fun q z => .inr z) ru' (dj'.sub Sub.rfl fun q z => .inr z)
        rw [set_same ew, ← p2 u'] at rr
        exact .dct (.inr (.inl rfl)) (k'.d _ _ (.inl rfl) h) (A1 := Uni Bu' C0) (fun q z => z.elim (fun z => ⟨.inl z, fun e => dj' q z (.inl e)⟩) fun z => ⟨.inr (.inr z), (s1 q (c1 q z)).2⟩) (ee.trans (p3 u').symm) (by rw [p3]; exact nd) rr
    | _ => cases e
  | @ins a C dx fs ts _ A1 m h s1 ee r =>
    cases s with
    | fld f =>
      have e : ts.lookup f = some u := e
      obtain ⟨i, e1, e2, e3⟩ := lookup_ix2 e
      obtain ⟨w, Bu, C0, ew, ru, b1, c1, dj, wand⟩ := r.focus e1
      have lw : fs.lookup f = some w := (e2 fs ee).trans ew
      refine ⟨w, Bu, fun q => q = a ∨ C0 q, .fld h lw, fun w' h' => ?_, ru, fun q z => (s1 q (b1 q z)).1, fun q z => z.elim (fun e => by rw [e]; exact m) fun z => (s1 q (c1 q z)).1, fun q z y => y.elim (s1 q (b1 q z)).2 (dj q z), fun H' u' Bu' k' ru' dj' => ?_⟩
      · cases h' with
        | fld h2 l =>
          rw [h] at h2
          cases h2
          rw [lw] at l
          exact (Option.some.inj l).symm
      · have rr := wand H' w u' Bu' (k'.sub fun q z => .inr z) ru' (dj'.sub Sub.rfl fun q z => .inr z)
        obtain ⟨p2, p3⟩ := e3 u'
        rw [set_same ew, ← p2] at rr
        exact .ins (.inr (.inl rfl)) (k'.i _ _ _ _ (.inl rfl) h) (A1 := Uni Bu' C0) (fun q z => z.elim (fun z => ⟨.inl z, fun e => dj' q z (.inl e)⟩) fun z => ⟨.inr (.inr z), (s1 q (c1 q z)).2⟩) (ee.trans p3.symm) rr
    | _ => cases e
  | _ => cases e
theorem rp_path {H : Hp} : ∀ {st : List Stp} {v : V} {t : T} {B : Sa} {u : T}, Rp K H v t B → getP t st = some u → ∃ w Bu C, Rchs K H v st w ∧ (∀ w', Rchs K H v st w' → w' = w) ∧ Rp K H w u Bu ∧ Sub Bu B ∧ Sub C B ∧ Dj Bu C ∧
    ∀ H' u' Bu', Kp K C H H' → Rp K H' w u' Bu' → Dj Bu' C → Rp K H' v (setP t st u') (Uni Bu' C)
  | [], v, t, B, u, r, e => by
    cases e
    exact ⟨v, B, noM, .nil, fun w' h => by cases h; rfl, r, Sub.rfl, noM_sub, dj_noM, fun H' u' Bu' _ r' _ => r'.weak Sub.l⟩
  | s :: st, v, t, B, u, r, e => by
    obtain ⟨t1, e1, e2⟩ := Option.bind_eq_some_iff.mp e
    obtain ⟨w1, B1, C1, h1, u1, r1, b1, c1, d1, wand1⟩ := rp_step r e1
    obtain ⟨w, Bu, C2, h2, u2, r2, b2, c2, d2, wand2⟩ := rp_path r1 e2
    refine ⟨w, Bu, Uni C1 C2, .cons h1 h2, fun w' h => ?_, r2, b2.trans b1, fun q z => z.elim (c1 q) fun z => b1 q (c2 q z), fun q z y => y.elim (d1 q (b2 q z)) (d2 q z), fun H' u' Bu' k r' dj => ?_⟩
    · cases h with
      | cons g1 g2 =>
        have e := u1 _ g1
        subst e
        exact u2 _ g2
    · have i2 := wand2 H' u' Bu' (k.sub Sub.r) r' (dj.sub Sub.rfl Sub.r)
      have i1 := wand1 H' _ _ (k.sub Sub.l) i2 fun q z y => z.elim (fun z => dj q z (.inl y)) fun z => d1 q (c2 q z) y
      show Rp K H' v (match getS t s with | some t1 => setS t s (setP t1 st u') | none => t) _
      rw [e1]
      exact i1.weak fun q z => z.elim (fun z => z.elim .inl fun z => .inr (.inr z)) fun z => .inr (.inl z)
/-! ### what a def's frame owns -/
/-- all that is only read -/
def RU (R : Nat → Sa) : Sa := fun q => ∃ i, R i q
structure Stt (K : PySem.W.Frag) (R : Nat → Sa) (π : Nat → V) (H : Hp) (σ : L2.St) (τ : Ev) (A : Sa) : Prop where
  len : τ.length ≤ σ.length
  sl : ∃ P : Nat → Sa, (∀ i, Sub (P i) A) ∧ (∀ i j, i ≠ j → Dj (P i) (P j)) ∧ ∀ (i : Nat) (s : Sl), τ[i]? = some s → match s with
    | .no => True
    | .bor t => ∃ v, σ[i]? = some (some v) ∧ Rp K H v t (R 0)
    | .lnd t => ∃ v, σ[i]? = some (some v) ∧ Rp K H v t (R (i + 1))
    | .own t => ∃ v, σ[i]? = some (some v) ∧ Rp K H v t (P i)
    | .par t => σ[i]? = some (some (π i)) ∧ Rp K H (π i) t (P i)
  dR : Dj (RU R) A
  aR : ∀ q, RU R q → At H q
  mA : ∀ q, A q → Mt H q
section
variable {R : Nat → Sa} {π : Nat → V} {H H' : Hp} {σ : L2.St} {τ : Ev} {A B : Sa}
theorem Stt.r (S : Stt K R π H σ τ A) : RpR K H σ τ := ⟨S.len, fun i s t e1 e2 => by
  obtain ⟨P, _, _, h⟩ := S.sl
  have z := h i s e1
  cases s with
  | no => cases e2
  | bor t => cases e2; obtain ⟨v, a, b⟩ := z; exact ⟨v, _, a, b⟩
  | lnd t => cases e2; obtain ⟨v, a, b⟩ := z; exact ⟨v, _, a, b⟩
  | own t => cases e2; obtain ⟨v, a, b⟩ := z; exact ⟨v, _, a, b⟩
  | par t => cases e2; exact ⟨_, _, z.1, z.2⟩⟩
theorem at_ext (x : Ext noM H H') {q : Addr} (h : At H q) : At H' q := by
  unfold At at h ⊢
  cases e : H q with
  | none => exact absurd e h
  | some o => rw [x q o noM_not e]; simp
theorem Stt.ext (S : Stt K R π H σ τ A) (x : Ext noM H H') : Stt K R π H' σ τ A := by
  obtain ⟨l, ⟨P, h1, h2, h3⟩, d, a, m⟩ := S
  refine ⟨l, ⟨P, h1, h2, fun i s e => ?_⟩, d, fun q z => at_ext x (a q z), fun q z => mt_ext x (m q z)⟩
  have z := h3 i s e
  cases s with
  | no => exact True.intro
  | bor t => obtain ⟨v, a, b⟩ := z; exact ⟨v, a, b.mono x.kp⟩
  | lnd t => obtain ⟨v, a, b⟩ := z; exact ⟨v, a, b.mono x.kp⟩
  | own t => obtain ⟨v, a, b⟩ := z; exact ⟨v, a, b.mono x.kp⟩
  | par t => exact ⟨z.1, z.2.mono x.kp⟩
/-- what's new stands apart from what is owned, and from what is only read -/
theorem Stt.djN (S : Stt K R π H σ τ A) {H' : Hp} (f : Fresh H H' B) : Dj A B ∧ Dj (RU R) B := ⟨fun q a b => (mt_no (S.mA q a)).2.2 (f q b).1, fun q a b => S.aR q a (f q b).1⟩
def Sl.isPar : Sl → Bool
  | .par _ => true
  | _ => false
/-- a slot has something else -/
theorem Stt.asg (S : Stt K R π H σ τ A) {i : Nat} {s : Sl} {v : V} {t : T} (e : τ[i]? = some s) (hp : s.isPar = false) (r : Rp K H v t B) (d : Dj A B) (dR : Dj (RU R) B) (m : ∀ q, B q → Mt H q) : Stt K R π H (σ.set i (some v)) (τ.set i (.own t)) (Uni A B) := by
  obtain ⟨l, ⟨P, h1, h2, h3⟩, dR', a, mA⟩ := S
  have hi : i < τ.length := (List.getElem?_eq_some_iff.mp e).1
  refine ⟨by rw [List.length_set, List.length_set]; exact l, ⟨fun j => if j = i then B else P j, fun j => ?_, fun j k ne => ?_, fun j s' e' => ?_⟩, fun q z y => y.elim (dR' q z) (dR q z), a, fun q z => z.elim (mA q) (m q)⟩
  · by_cases h : j = i
    · simp only [h, if_true]; exact Sub.r
    · simp only [h, if_false]; exact (h1 j).trans Sub.l
  · by_cases hj : j = i
    · by_cases hk : k = i
      · exact absurd (hj.trans hk.symm) ne
      · simp only [hj, hk, if_true, if_false]; exact (d.sub (h1 k) Sub.rfl).symm
    · by_cases hk : k = i
      · simp only [hj, hk, if_true, if_false]; exact d.sub (h1 j) Sub.rfl
      · simp only [hj, hk, if_false]; exact h2 j k ne
  · by_cases hj : i = j
    · subst hj
      rw [List.getElem?_set_self hi] at e'
      cases e'
      refine ⟨v, List.getElem?_set_self (Nat.lt_of_lt_of_le hi l), ?_⟩
      simp only [if_true]
      exact r
    · rw [List.getElem?_set_ne hj] at e'
      have z := h3 j s' e'
      have hj' : ¬ j = i := fun z => hj z.symm
      simp only [hj', if_false]
      rw [List.getElem?_set_ne hj]
      exact z
def Sl.upd : Sl → T → Sl
  | .no, _ => .no
  | .bor _, t => .bor t
  | .lnd _, t => .lnd t
  | .own _, t => .own t
  | .par _, t => .par t
def Sl.mine : Sl → Option T
  | .own t => some t
  | .par t => some t
  | _ => none
/-- a place within what is owned: what stands there, and how something else gets there -/
theorem Stt.foc (S : Stt K R π H σ τ A) {i : Nat} {s : Sl} {t u : T} {st : List Stp} (e : τ[i]? = some s) (hm : s.mine = some t) (g : getP t st = some u) : ∃ v w Bu, σ[i]? = some (some v) ∧ Rchs K H v st w ∧ (∀ w', Rchs K H v st w' → w' = w) ∧ Rp K H w u Bu ∧ Sub Bu A ∧ 
    ∀ H' u' Bu' N, Ext Bu H H' → (∀ q, Bu' q → Bu q ∨ N q) → Dj A N → Dj (RU R) N → Rp K H' w u' Bu' → (∀ q, Bu' q → Mt H' q) → Stt K R π H' σ (τ.set i (s.upd (setP t st u'))) (fun q => Bu' q ∨ (A q ∧ ¬ Bu q)) := by
  obtain ⟨l, ⟨P, h1, h2, h3⟩, dR', a, mA⟩ := S
  have hi : i < τ.length := (List.getElem?_eq_some_iff.mp e).1
  obtain ⟨v, ev, r, hpar⟩ : ∃ v, σ[i]? = some (some v) ∧ Rp K H v t (P i) ∧ (s.isPar = true → v = π i) := by
    have z := h3 i s e
    cases s with
    | own t' => cases hm; obtain ⟨v, a, b⟩ := z; exact ⟨v, a, b, fun z => nomatch z⟩
    | par t' => cases hm; exact ⟨_, z.1, z.2, fun _ => rfl⟩
    | _ => cases hm
  obtain ⟨w, Bu, C, hr, hu, rw_, b1, c1, dj, wand⟩ := rp_path r g
  refine ⟨v, w, Bu, ev, hr, hu, rw_, b1.trans (h1 i), fun H' u' Bu' N sx sg dAN dRN ru mu => ?_⟩
  have mBu : ∀ q, Bu q → Mt H q := fun q z => mA q (h1 i q (b1 q z))
  have kp : ∀ {D : Sa}, Dj D Bu → Kp K D H H' := fun d => sx.kpM mBu d
  have newD : ∀ {D : Sa}, Sub D A → Dj D Bu → Dj Bu' D := fun hD d q z y => (sg q z).elim (d q y) (dAN q (hD q y))
  have atA : ∀ q, A q → At H q := fun q z => (mt_no (mA q z)).2.2
  have rt := wand H' u' Bu' (kp dj.symm) ru (newD (fun q z => h1 i q (c1 q z)) dj.symm)
  have keep : ∀ q, ¬ Bu q → At H q → H' q = H q := fun q n z => by
    unfold At at z
    cases e : H q with
    | none => exact absurd e z
    | some o => exact sx q o n e
  refine ⟨by rw [List.length_set]; exact l, ⟨fun j => if j = i then Uni Bu' C else P j, fun j => ?_, fun j k ne => ?_, fun j s' e' => ?_⟩, fun q z y => ?_, fun q z => ?_, fun q z => ?_⟩
  · by_cases h : j = i
    · simp only [h, if_true]
      exact fun q z => z.elim .inl fun z => .inr ⟨h1 i q (c1 q z), fun y => dj q y z⟩
    · simp only [h, if_false]
      exact fun q z => .inr ⟨h1 j q z, fun y => h2 i j (fun e => h e.symm) q (b1 q y) z⟩
  · have one : ∀ m : Nat, ¬ m = i → Dj (Uni Bu' C) (P m) := fun m hm q z y => z.elim (fun z => newD (D := P m) (h1 m) (fun q z y => h2 m i hm q z (b1 q y)) q z y) fun z => h2 i m (fun e => hm e.symm) q (c1 q z) y
    by_cases hj : j = i
    · by_cases hk : k = i
      · exact absurd (hj.trans hk.symm) ne
      · simp only [hj, hk, if_true, if_false]; exact one k hk
    · by_cases hk : k = i
      · simp only [hj, hk, if_true, if_false]; exact (one j hj).symm
      · simp only [hj, hk, if_false]; exact h2 j k ne
  · by_cases hj : i = j
    · subst hj
      rw [List.getElem?_set_self hi] at e'
      cases e'
      cases s with
      | own t' => refine ⟨v, ev, ?_⟩; simp only [if_true]; exact rt
      | par t' =>
        have e := hpar rfl
        subst e
        refine ⟨ev, ?_⟩
        simp only [if_true]
        exact rt
      | _ => cases hm
    · rw [List.getElem?_set_ne hj] at e'
      have z := h3 j s' e'
      have hj' : ¬ j = i := fun z => hj z.symm
      have dP : Dj (P j) Bu := fun q z y => h2 j i hj' q z (b1 q y)
      simp only [hj', if_false]
      cases s' with
      | no => exact True.intro
      | bor t' => obtain ⟨v, a, b⟩ := z; exact ⟨v, a, b.mono (kp (dR'.sub (fun q z => ⟨0, z⟩) (b1.trans (h1 i))))⟩
      | lnd t' => obtain ⟨v, a, b⟩ := z; exact ⟨v, a, b.mono (kp (dR'.sub (fun q z => ⟨j + 1, z⟩) (b1.trans (h1 i))))⟩
      | own t' => obtain ⟨v, a, b⟩ := z; exact ⟨v, a, b.mono (kp dP)⟩
      | par t' => exact ⟨z.1, z.2.mono (kp dP)⟩
  · rcases y with y | y
    · rcases sg q y with y | y
      · exact dR' q z (h1 i q (b1 q y))
      · exact dRN q z y
    · exact dR' q z y.1
  · have := keep q (fun y => dR' q z (h1 i q (b1 q y))) (a q z)
    unfold At
    rw [this]
    exact a q z
  · rcases z with z | z
    · exact mu q z
    · have := keep q z.2 (atA q z.1)
      unfold Mt
      rw [this]
      exact mA q z.1
end
end
end Rw

namespace Rw
open PySem PySem.Spec PyProof.Rows L2
/-! ### what changes something -/
inductive Re (S α : Type) where
  | ok (a : α) (s : S) | exc (x : Xc) (s : S) | bad
def Re.bind {S α β : Type} : Re S α → (α → S → Re S β) → Re S β
  | .ok a s, f => f a s
  | .exc x s, _ => .exc x s
  | .bad, _ => .bad
def Re.post {S α : Type} (r : Re S α) (o : α → S → Prop) (e : Xc → S → Prop) : Prop := match r with
  | .ok a s => o a s
  | .exc x s => e x s
  | .bad => False
theorem Re.post_bind {S α β : Type} {r : Re S α} {f : α → S → Re S β} {o : β → S → Prop} {e : Xc → S → Prop} : (r.bind f).post o e = r.post (fun a s => (f a s).post o e) e := by cases r <;> rfl
theorem Re.post_mono {S α : Type} {r : Re S α} {o o' : α → S → Prop} {e e' : Xc → S → Prop} (h : r.post o e) (h1 : ∀ a s, o a s → o' a s) (h2 : ∀ x s, e x s → e' x s) : r.post o' e' := by
  cases r with
  | ok a s => exact h1 _ _ h
  | exc x s => exact h2 _ _ h
  | bad => exact h
def ofOe {S α : Type} (s : S) : Option α → Re S α
  | some a => .ok a s
  | none => .bad
theorem ofOe_post {S α : Type} {s : S} {r : Option α} {o : α → S → Prop} {e : Xc → S → Prop} (h : (ofOe s r).post o e) : ∃ a, r = some a ∧ o a s := by
  cases r with
  | some a => exact ⟨a, rfl, h⟩
  | none => exact h.elim
/-- what reads only, as what may change something -/
def upE {α : Type} (τ : Ev) : Rs α → Re Ev α
  | .ok a => .ok a τ
  | .exc x => .exc x τ
  | .bad => .bad
theorem upE_post {α : Type} {τ : Ev} {r : Rs α} {o : α → Ev → Prop} {e : Xc → Ev → Prop} (h : (upE τ r).post o e) : r.post (fun a => o a τ) (fun x => e x τ) := by
  cases r <;> exact h
section
variable {K : PySem.W.Frag} {W : WX} {R : Nat → Sa} {π : Nat → V}
abbrev OkE (K : PySem.W.Frag) (R : Nat → Sa) (π : Nat → V) (σ : L2.St) (H : Hp) (A : Sa) (Q : VK) (t : T) (τ' : Ev) : Prop := ∀ v H' A' B, Stt K R π H' σ τ' A' → Rp K H' v t B → Dj A' B → Dj (RU R) B → (∀ q, B q → Mt H' q) → Step A H (Uni A' B) H' → Q v H'
abbrev ExS (K : PySem.W.Frag) (R : Nat → Sa) (π : Nat → V) (W : WX) (σ : L2.St) (H : Hp) (A : Sa) (x : Xc) (τ' : Ev) : Prop := ∀ cls d H' A', Stt K R π H' σ τ' A' → RpX K H' cls d x → Step A H A' H' → W cls d σ H'
def SmE (K : PySem.W.Frag) (W : WX) (te : TE) (pe : Ev → Re Ev T) : Prop := ∀ R π σ τ H A Q, Stt K R π H σ τ A → (pe τ).post (OkE K R π σ H A Q) (ExS K R π W σ H A) → te σ H Q
def SmTE (K : PySem.W.Frag) (W : WX) (tt : TT) (pt : Ev → Re Ev Bool) : Prop := ∀ R π σ τ H A (Q : Bool → Hp → Prop), Stt K R π H σ τ A → (pt τ).post (fun b τ' => ∀ H' A', Stt K R π H' σ τ' A' → Step A H A' H' → Q b H') (ExS K R π W σ H A) → tt σ H Q
def SmAE (K : PySem.W.Frag) (W : WX) (ta : TA) (pa : Ev → Re Ev (List T)) : Prop := ∀ R π σ τ H A (Q : List V → Hp → Prop), Stt K R π H σ τ A →
  (pa τ).post (fun ts τ' => ∀ vs H' A' B, Stt K R π H' σ τ' A' → RpL K H' vs ts B → Dj A' B → Dj (RU R) B → (∀ q, B q → Mt H' q) → Step A H (Uni A' B) H' → Q vs H') (ExS K R π W σ H A) → ta σ H Q
theorem ExS.step {H H1 : Hp} {σ : L2.St} {A A1 : Sa} {x : Xc} {τ : Ev} (h : ExS K R π W σ H A x τ) (s : Step A H A1 H1) : ExS K R π W σ H1 A1 x τ := fun cls d H' A' S r s2 => h cls d H' A' S r (s.trans s2)
theorem ExS.toR {H : Hp} {σ : L2.St} {A : Sa} {x : Xc} {τ : Ev} (S : Stt K R π H σ τ A) (h : ExS K R π W σ H A x τ) : ExR K W H σ x := fun cls d H' e r => h cls d H' A (S.ext e) r (Step.ext e)
variable {te ta tb : TE} {tA : TA} {tt t1 t2 : TT} {pe : Ev → Rs T} {qe qa qb : Ev → Re Ev T} {pA : Ev → Rs (List T)} {qA : Ev → Re Ev (List T)} {pt : Ev → Rs Bool} {qt q1 q2 : Ev → Re Ev Bool}
def upP {α : Type} (pe : Ev → Rs α) : Ev → Re Ev α := fun τ => upE τ (pe τ)
theorem SmF.e (h : SmF K W te pe) : SmE K W te (upP pe) := fun R π σ τ H A Q S z =>
  h σ τ H Q S.r (Rs.post_mono (upE_post z) (fun t q v H' B x r f => q v H' A B (S.ext x) r (S.djN f).1 (S.djN f).2 (fun q b => (f q b).2) ((Step.ext x).more fun q b => (f q b).1)) fun x q => q.toR S)
theorem SmT.e (h : SmT K W tt pt) : SmTE K W tt (upP pt) := fun R π σ τ H A Q S z =>
  h σ τ H Q S.r (Rs.post_mono (upE_post z) (fun b q H' x => q H' A (S.ext x) (Step.ext x)) fun x q => q.toR S)
theorem SmAF.e (h : SmAF K W tA pA) : SmAE K W tA (upP pA) := fun R π σ τ H A Q S z =>
  h σ τ H Q S.r (Rs.post_mono (upE_post z) (fun t q v H' B x r f => q v H' A B (S.ext x) r (S.djN f).1 (S.djN f).2 (fun q b => (f q b).2) ((Step.ext x).more fun q b => (f q b).1)) fun x q => q.toR S)
/-- a thing held aside while something else is done -/
theorem aside {H H' : Hp} {A A' B : Sa} {v : V} {t : T} (r : Rp K H v t B) (d : Dj A B) (m : ∀ q, A q → Mt H q) (s : Step A H A' H') : Rp K H' v t B := r.mono (s.x.kpM m d.symm)
theorem asideL {H H' : Hp} {A A' B : Sa} {v : List V} {t : List T} (r : RpL K H v t B) (d : Dj A B) (m : ∀ q, A q → Mt H q) (s : Step A H A' H') : RpL K H' v t B := r.mono (s.x.kpM m d.symm)
theorem aside_mt {H H' : Hp} {A A' B : Sa} (mB : ∀ q, B q → Mt H q) (d : Dj A B) (s : Step A H A' H') : ∀ q, B q → Mt H' q := fun q b => by
  have nA : ¬ A q := fun a => d q a b
  rcases mB q b with ⟨a, m⟩ | ⟨a, m⟩ | ⟨a, b, c, m⟩
  · exact .inl ⟨a, s.x q _ nA m⟩
  · exact .inr (.inl ⟨a, s.x q _ nA m⟩)
  · exact .inr (.inr ⟨a, b, c, s.x q _ nA m⟩)
theorem aside_dj {H H' : Hp} {A A' B : Sa} (mB : ∀ q, B q → Mt H q) (d : Dj A B) (s : Step A H A' H') : Dj A' B := fun q a b => (s.g q a).elim (fun a => d q a b) fun n => (mt_no (mB q b)).2.2 n
/-! arguments -/
def nilE : Ev → Re Ev (List T) := fun τ => .ok [] τ
def consE (qe : Ev → Re Ev T) (qA : Ev → Re Ev (List T)) : Ev → Re Ev (List T) := fun τ => (qe τ).bind fun t τ1 => (qA τ1).bind fun ts τ2 => .ok (t :: ts) τ2
theorem sm_ae_nil : SmAE K W tNil nilE := fun R π σ τ H A Q S z => z [] H A noM S .nil dj_noM dj_noM (fun _ h => h.elim) (Step.rfl.sub fun q h => h.elim id fun h => h.elim)
theorem sm_ae_cons (he : SmE K W te qe) (hA : SmAE K W tA qA) : SmAE K W (tCons te tA) (consE qe qA) := fun R π σ τ H A Q S z => by
  unfold consE at z
  rw [Re.post_bind] at z
  refine he R π σ τ H A _ S (Re.post_mono z (fun t τ1 q v H1 A1 B1 S1 r1 d1 dR1 m1 s1 => ?_) fun _ _ q => q)
  rw [Re.post_bind] at q
  refine hA R π σ τ1 H1 A1 _ S1 (Re.post_mono q (fun ts τ2 q vs H2 A2 B2 S2 r2 d2 dR2 m2 s2 => ?_) fun _ _ q => q.step (s1.sub Sub.l))
  have d12 : Dj B1 B2 := fun q a b => aside_dj m1 d1 s2 q (.inr b) a
  refine q (v :: vs) H2 A2 (Uni B1 B2) S2 (.cons (aside r1 d1 S1.mA s2) r2 Sub.l Sub.r d12) (fun q a b => b.elim (fun b => aside_dj m1 d1 s2 q (.inl a) b) (d2 q a)) (fun q a b => b.elim (dR1 q a) (dR2 q a))
    (fun q b => b.elim (aside_mt m1 d1 s2 q) (m2 q)) ⟨((s1.sub Sub.l).trans s2).x, fun q z => ?_⟩
  rcases z with z | z | z
  · exact ((s1.sub Sub.l).trans s2).g q (.inl z)
  · exact s1.g q (.inr z)
  · exact ((s1.sub Sub.l).trans s2).g q (.inr z)
/-! operators -/
def opE (f : T → T → Option T) (qa qb : Ev → Re Ev T) : Ev → Re Ev T := fun τ => (qa τ).bind fun x τ1 => (qb τ1).bind fun y τ2 => ofOe τ2 (f x y)
theorem OkE.new {H H1 : Hp} {σ : L2.St} {τ : Ev} {A A1 : Sa} {Q : VK} {u : T} (S : Stt K R π H1 σ τ A1) (s : Step A H A1 H1) (q : OkE K R π σ H A Q u τ) : OkF K H1 Q u := fun v H3 B3 x3 r3 f3 =>
  q v H3 A1 B3 (S.ext x3) r3 (S.djN f3).1 (S.djN f3).2 (fun q b => (f3 q b).2) (s.trans ((Step.ext x3).more fun q b => (f3 q b).1))
theorem sm_opE {r : R2} {f : T → T → Option T} (o : OpS K r f) (ha : SmE K W ta qa) (hb : SmE K W tb qb) : SmE K W (tOp r ta tb) (opE f qa qb) := fun R π σ τ H A Q S z => by
  unfold opE at z
  rw [Re.post_bind] at z
  refine ha R π σ τ H A _ S (Re.post_mono z (fun t τ1 q v H1 A1 B1 S1 r1 d1 dR1 m1 s1 => ?_) fun _ _ q => q)
  rw [Re.post_bind] at q
  refine hb R π σ τ1 H1 A1 _ S1 (Re.post_mono q (fun u τ2 q w H2 A2 B2 S2 r2 d2 dR2 m2 s2 => ?_) fun _ _ q => q.step (s1.sub Sub.l))
  obtain ⟨u', e, q⟩ := ofOe_post q
  exact o _ _ _ _ _ _ H2 Q u' (aside r1 d1 S1.mA s2) r2 e (OkE.new S2 ((s1.sub Sub.l).trans (s2.sub Sub.l)) q)
/-- .. what is told is no object that may be written -/
theorem sm_opAE {r : R2} {f : T → T → Option T} (o : OpA K r f) (ha : SmE K W ta qa) (hb : SmE K W tb qb) : SmE K W (tOp r ta tb) (opE (fun s t => (f s t).bind fun u => if u.im = true then some u else none) qa qb) := fun R π σ τ H A Q S z => by
  unfold opE at z
  rw [Re.post_bind] at z
  refine ha R π σ τ H A _ S (Re.post_mono z (fun t τ1 q v H1 A1 B1 S1 r1 d1 dR1 m1 s1 => ?_) fun _ _ q => q)
  rw [Re.post_bind] at q
  refine hb R π σ τ1 H1 A1 _ S1 (Re.post_mono q (fun u τ2 q w H2 A2 B2 S2 r2 d2 dR2 m2 s2 => ?_) fun _ _ q => q.step (s1.sub Sub.l))
  obtain ⟨u', e, q⟩ := ofOe_post q
  obtain ⟨u2, e1, e2⟩ := Option.bind_eq_some_iff.mp e
  split at e2
  · rename_i im
    cases e2
    exact o _ _ _ _ _ _ H2 Q u' (aside r1 d1 S1.mA s2) r2 e1 fun v3 H3 B3 x3 r3 => OkE.new S2 ((s1.sub Sub.l).trans (s2.sub Sub.l)) q v3 H3 noM x3 (r3.im im) fresh_no
  · cases e2
/-- xs[..], xs a name, the place being drawn -/
def ixVE (i : Nat) (qb : Ev → Re Ev T) : Ev → Re Ev T := fun τ => match varP i τ with
  | .ok _ => (qb τ).bind fun y τ1 => match varP i τ1 with
    | .ok x => ofOe τ1 ((f_ix x y).bind fun u => if u.im = true then some u else none)
    | _ => .bad
  | _ => .bad
theorem varP_ok {i : Nat} {τ : Ev} {x : T} (h : varP i τ = .ok x) : ∃ s, τ[i]? = some s ∧ s.t = some x := by
  unfold varP at h
  split at h
  · rename_i s e
    cases hs : s.t with
    | none => rw [hs] at h; cases h
    | some t => rw [hs] at h; cases h; exact ⟨s, e, hs⟩
  · cases h
theorem sm_ixVE {i : Nat} (hb : SmE K W tb qb) : SmE K W (tOp (rSubU' K) (tVar i) tb) (ixVE i qb) := fun R π σ τ H A Q S z => by
  unfold ixVE at z
  split at z
  · rename_i x0 e0
    obtain ⟨s0, es0, et0⟩ := varP_ok e0
    obtain ⟨v, B, ev, _⟩ := S.r.sl i s0 _ es0 et0
    refine ⟨v, ev, ?_⟩
    rw [Re.post_bind] at z
    refine hb R π σ τ H A _ S (Re.post_mono z (fun u τ2 q w H2 A2 B2 S2 r2 d2 dR2 m2 s2 => ?_) fun _ _ q => q)
    split at q
    · rename_i x e
      obtain ⟨s, es, et⟩ := varP_ok e
      obtain ⟨v', B', ev', rv⟩ := S2.r.sl i s _ es et
      rw [ev] at ev'
      cases ev'
      obtain ⟨u', e, q⟩ := ofOe_post q
      obtain ⟨u2, e1, e2⟩ := Option.bind_eq_some_iff.mp e
      split at e2
      · rename_i im
        cases e2
        exact o_f_ix _ _ _ _ _ _ H2 Q u' rv r2 e1 fun v3 H3 B3 x3 r3 => OkE.new S2 (s2.sub Sub.l) q v3 H3 noM x3 (r3.im im) fresh_no
      · cases e2
    · exact q.elim
  · exact z.elim
def unE (f : T → Option T) (qa : Ev → Re Ev T) : Ev → Re Ev T := fun τ => (qa τ).bind fun x τ1 => ofOe τ1 (f x)
theorem sm_unE {r : V → Hp → VK → Prop} {f : T → Option T} (o : UnS K r f) (ha : SmE K W ta qa) : SmE K W (tUn r ta) (unE f qa) := fun R π σ τ H A Q S z => by
  unfold unE at z
  rw [Re.post_bind] at z
  refine ha R π σ τ H A _ S (Re.post_mono z (fun t τ1 q v H1 A1 B1 S1 r1 d1 dR1 m1 s1 => ?_) fun _ _ q => q)
  obtain ⟨u', e, q⟩ := ofOe_post q
  exact o _ _ _ H1 Q u' r1 e (OkE.new S1 (s1.sub Sub.l) q)
/-! built-in functions, displays -/
def cbE (f : List T → Option T) (qA : Ev → Re Ev (List T)) : Ev → Re Ev T := fun τ => (qA τ).bind fun ts τ1 => ofOe τ1 (f ts)
theorem rpl_each {H : Hp} : ∀ {vs : List V} {ts : List T} {A : Sa}, RpL K H vs ts A → EachR K H vs ts
  | _, _, _, .nil => .nil
  | _, _, _, .cons h1 h2 _ _ _ => .cons ⟨_, h1⟩ (rpl_each h2)
theorem sm_cbE {r : List V → Hp → VK → Prop} {f : List T → Option T} (o : FnS r K f) (hA : SmAE K W tA qA) : SmE K W (tCB r tA) (cbE f qA) := fun R π σ τ H A Q S z => by
  unfold cbE at z
  rw [Re.post_bind] at z
  refine hA R π σ τ H A _ S (Re.post_mono z (fun t τ1 q v H1 A1 B1 S1 r1 d1 dR1 m1 s1 => ?_) fun _ _ q => q)
  obtain ⟨u', e, q⟩ := ofOe_post q
  exact o _ _ H1 Q u' (rpl_each r1) e (OkE.new S1 (s1.sub Sub.l) q)
def tupE (qA : Ev → Re Ev (List T)) : Ev → Re Ev T := fun τ => (qA τ).bind fun ts τ1 => if ts.length ≤ sizeLine then .ok (.tup ts) τ1 else .bad
def lstE (qA : Ev → Re Ev (List T)) : Ev → Re Ev T := fun τ => (qA τ).bind fun ts τ1 => if ts.length ≤ sizeLine then .ok (.lst ts) τ1 else .bad
theorem sm_tupE (hA : SmAE K W tA qA) : SmE K W (tTup tA) (tupE qA) := fun R π σ τ H A Q S z => by
  unfold tupE at z
  rw [Re.post_bind] at z
  refine hA R π σ τ H A _ S (Re.post_mono z (fun t τ1 q vs H1 A1 B1 S1 r1 d1 dR1 m1 s1 => ?_) fun _ _ q => q)
  split at q
  · rename_i l
    refine ⟨by rw [r1.len]; exact l, fun p np => ?_⟩
    have x : Ext noM H1 (upd H1 p (.tup vs)) := Ext.new np
    exact q _ _ A1 B1 (S1.ext x) (.tup (.inl (.inl upd_same)) (r1.mono x.kp)) d1 dR1 (fun q b => mt_ext x (m1 q b)) (s1.trans (Step.ext x))
  · exact q.elim
theorem sm_lstE (hA : SmAE K W tA qA) : SmE K W (tLst tA) (lstE qA) := fun R π σ τ H A Q S z => by
  unfold lstE at z
  rw [Re.post_bind] at z
  refine hA R π σ τ H A _ S (Re.post_mono z (fun t τ1 q vs H1 A1 B1 S1 r1 d1 dR1 m1 s1 => ?_) fun _ _ q => q)
  split at q
  · rename_i l
    refine ⟨by rw [r1.len]; exact l, fun p np => ?_⟩
    have x : Ext noM H1 (upd H1 p (.lst vs)) := Ext.new np
    refine q _ _ A1 (fun q => q = p ∨ B1 q) (S1.ext x) (new_lst np r1 m1) (fun q a b => b.elim (fun e => (mt_no (S1.mA q a)).2.2 (by rw [e]; exact np)) (d1 q a)) (fun q a b => b.elim (fun e => S1.aR q a (by rw [e]; exact np)) (dR1 q a))
      (fun q b => b.elim (fun e => by rw [e]; exact .inl ⟨_, upd_same⟩) fun b => mt_ext x (m1 q b)) (s1.trans ⟨x.up, fun q z => ?_⟩)
    rcases z with z | z | z
    · exact .inl (.inl z)
    · exact .inr (by rw [z]; exact np)
    · exact .inl (.inr z)
  · exact q.elim
/-! tests -/
def testE (qe : Ev → Re Ev T) : Ev → Re Ev Bool := fun τ => (qe τ).bind fun t τ1 => match t with
  | .bl b => .ok b τ1
  | _ => .bad
theorem sm_testE (he : SmE K W te qe) : SmTE K W (tTest te) (testE qe) := fun R π σ τ H A Q S z => by
  unfold testE at z
  rw [Re.post_bind] at z
  refine he R π σ τ H A _ S (Re.post_mono z (fun t τ1 q v H1 A1 B1 S1 r1 d1 dR1 m1 s1 => ?_) fun _ _ q => q)
  cases t with
  | bl b =>
    cases r1
    exact ⟨b, rfl, q H1 A1 S1 (s1.sub Sub.l)⟩
  | _ => exact q.elim
def truE (qe : Ev → Re Ev T) : Ev → Re Ev Bool := fun τ => (qe τ).bind fun t τ1 => ofOe τ1 t.tru
theorem sm_truE (he : SmE K W te qe) : SmTE K W (tTru K te) (truE qe) := fun R π σ τ H A Q S z => by
  unfold truE at z
  rw [Re.post_bind] at z
  refine he R π σ τ H A _ S (Re.post_mono z (fun t τ1 q v H1 A1 B1 S1 r1 d1 dR1 m1 s1 => ?_) fun _ _ q => q)
  obtain ⟨k, e, q⟩ := ofOe_post q
  exact ⟨k, tru_ok r1 e, q H1 A1 S1 (s1.sub Sub.l)⟩
def andE (q1 q2 : Ev → Re Ev Bool) : Ev → Re Ev Bool := fun τ => (q1 τ).bind fun b τ1 => if b = true then q2 τ1 else .ok false τ1
def orE (q1 q2 : Ev → Re Ev Bool) : Ev → Re Ev Bool := fun τ => (q1 τ).bind fun b τ1 => if b = true then .ok true τ1 else q2 τ1
def notE (q1 : Ev → Re Ev Bool) : Ev → Re Ev Bool := fun τ => (q1 τ).bind fun b τ1 => .ok (!b) τ1
theorem sm_andE (h1 : SmTE K W t1 q1) (h2 : SmTE K W t2 q2) : SmTE K W (tAnd t1 t2) (andE q1 q2) := fun R π σ τ H A Q S z => by
  unfold andE at z
  rw [Re.post_bind] at z
  refine h1 R π σ τ H A _ S (Re.post_mono z (fun b τ1 q H1 A1 S1 s1 => ?_) fun _ _ q => q)
  cases b with
  | true => exact h2 R π σ τ1 H1 A1 Q S1 (Re.post_mono q (fun b τ2 q H2 A2 S2 s2 => q H2 A2 S2 (s1.trans s2)) fun _ _ q => q.step s1)
  | false => exact q H1 A1 S1 s1
theorem sm_orE (h1 : SmTE K W t1 q1) (h2 : SmTE K W t2 q2) : SmTE K W (tOr t1 t2) (orE q1 q2) := fun R π σ τ H A Q S z => by
  unfold orE at z
  rw [Re.post_bind] at z
  refine h1 R π σ τ H A _ S (Re.post_mono z (fun b τ1 q H1 A1 S1 s1 => ?_) fun _ _ q => q)
  cases b with
  | true => exact q H1 A1 S1 s1
  | false => exact h2 R π σ τ1 H1 A1 Q S1 (Re.post_mono q (fun b τ2 q H2 A2 S2 s2 => q H2 A2 S2 (s1.trans s2)) fun _ _ q => q.step s1)
theorem sm_notE (h1 : SmTE K W t1 q1) : SmTE K W (tNot t1) (notE q1) := fun R π σ τ H A Q S z => by
  unfold notE at z
  rw [Re.post_bind] at z
  exact h1 R π σ τ H A _ S (Re.post_mono z (fun b τ1 q H1 A1 S1 s1 => q H1 A1 S1 s1) fun _ _ q => q)
def ifE (q1 : Ev → Re Ev Bool) (qa qb : Ev → Re Ev T) : Ev → Re Ev T := fun τ => (q1 τ).bind fun b τ1 => if b = true then qa τ1 else qb τ1
theorem OkE.step {H H1 : Hp} {σ : L2.St} {A A1 : Sa} {Q : VK} {t : T} {τ : Ev} (h : OkE K R π σ H A Q t τ) (s : Step A H A1 H1) : OkE K R π σ H1 A1 Q t τ := fun v H' A' B S r d dR m s2 => h v H' A' B S r d dR m (s.trans s2)
theorem sm_ifE (h1 : SmTE K W t1 q1) (ha : SmE K W ta qa) (hb : SmE K W tb qb) : SmE K W (tIf t1 ta tb) (ifE q1 qa qb) := fun R π σ τ H A Q S z => by
  unfold ifE at z
  rw [Re.post_bind] at z
  refine h1 R π σ τ H A _ S (Re.post_mono z (fun b τ1 q H1 A1 S1 s1 => ?_) fun _ _ q => q)
  cases b with
  | true => exact ha R π σ τ1 H1 A1 Q S1 (Re.post_mono q (fun _ _ q => q.step s1) fun _ _ q => q.step s1)
  | false => exact hb R π σ τ1 H1 A1 Q S1 (Re.post_mono q (fun _ _ q => q.step s1) fun _ _ q => q.step s1)
def andVE (qa qb : Ev → Re Ev T) : Ev → Re Ev T := fun τ => (qa τ).bind fun t τ1 => (ofOe τ1 t.tru).bind fun k τ1 => if k = true then qb τ1 else .ok t τ1
def orVE (qa qb : Ev → Re Ev T) : Ev → Re Ev T := fun τ => (qa τ).bind fun t τ1 => (ofOe τ1 t.tru).bind fun k τ1 => if k = true then .ok t τ1 else qb τ1
theorem sm_andVE (ha : SmE K W ta qa) (hb : SmE K W tb qb) : SmE K W (tAndT K ta tb) (andVE qa qb) := fun R π σ τ H A Q S z => by
  unfold andVE at z
  rw [Re.post_bind] at z
  refine ha R π σ τ H A _ S (Re.post_mono z (fun t τ1 q v H1 A1 B1 S1 r1 d1 dR1 m1 s1 => ?_) fun _ _ q => q)
  rw [Re.post_bind] at q
  obtain ⟨k, e, q⟩ := ofOe_post q
  refine ⟨k, tru_ok r1 e, ?_⟩
  cases k with
  | true => exact hb R π σ τ1 H1 A1 Q S1 (Re.post_mono q (fun _ _ q => q.step (s1.sub Sub.l)) fun _ _ q => q.step (s1.sub Sub.l))
  | false => exact q v H1 A1 B1 S1 r1 d1 dR1 m1 s1
theorem sm_orVE (ha : SmE K W ta qa) (hb : SmE K W tb qb) : SmE K W (tOrT K ta tb) (orVE qa qb) := fun R π σ τ H A Q S z => by
  unfold orVE at z
  rw [Re.post_bind] at z
  refine ha R π σ τ H A _ S (Re.post_mono z (fun t τ1 q v H1 A1 B1 S1 r1 d1 dR1 m1 s1 => ?_) fun _ _ q => q)
  rw [Re.post_bind] at q
  obtain ⟨k, e, q⟩ := ofOe_post q
  refine ⟨k, tru_ok r1 e, ?_⟩
  cases k with
  | true => exact q v H1 A1 B1 S1 r1 d1 dR1 m1 s1
  | false => exact hb R π σ τ1 H1 A1 Q S1 (Re.post_mono q (fun _ _ q => q.step (s1.sub Sub.l)) fun _ _ q => q.step (s1.sub Sub.l))
/-! a name's thing is moved out of the frame -/
def mvP (i : Nat) : Ev → Re Ev T := fun τ => match τ[i]? with
  | some (.own t) => if t.im = true then .ok t τ else .ok t (τ.set i .no)
  | some (.bor t) => if t.im = true then .ok t τ else .bad
  | some (.lnd t) => if t.im = true then .ok t τ else .bad
  | some (.par t) => if t.im = true then .ok t τ else .bad
  | _ => .bad
theorem Stt.drop {H : Hp} {σ : L2.St} {τ : Ev} {A : Sa} (S : Stt K R π H σ τ A) {i : Nat} {t : T} (e : τ[i]? = some (.own t)) : ∃ v B A', σ[i]? = some (some v) ∧ Rp K H v t B ∧ Stt K R π H σ (τ.set i .no) A' ∧ Dj A' B ∧ Dj (RU R) B ∧ (∀ q, B q → Mt H q) ∧ Sub (Uni A' B) A := by
  obtain ⟨l, ⟨P, h1, h2, h3⟩, dR', a, mA⟩ := S
  have hi : i < τ.length := (List.getElem?_eq_some_iff.mp e).1
  obtain ⟨v, ev, r⟩ := h3 i _ e
  refine ⟨v, P i, fun q => A q ∧ ¬ P i q, ev, r, ⟨by rw [List.length_set]; exact l, ⟨fun j => if j = i then noM else P j, fun j => ?_, fun j k ne => ?_, fun j s' e' => ?_⟩, fun q z y => dR' q z y.1, a, fun q z => mA q z.1⟩, fun q a b => a.2 b, fun q a b => dR' q a (h1 i q b), fun q b => mA q (h1 i q b), fun q z => z.elim (fun z => z.1) (h1 i q)⟩
  · by_cases h : j = i
    · simp only [h, if_true]; exact noM_sub
    · simp only [h, if_false]; exact fun q z => ⟨h1 j q z, fun y => h2 i j (fun e => h e.symm) q y z⟩
  · by_cases hj : j = i
    · simp only [hj, if_true]; exact noM_dj
    · by_cases hk : k = i
      · simp only [hk, if_true]; exact dj_noM
      · simp only [hj, hk, if_false]; exact h2 j k ne
  · by_cases hj : i = j
    · subst hj
      rw [List.getElem?_set_self hi] at e'
      cases e'
      exact True.intro
    · rw [List.getElem?_set_ne hj] at e'
      have z := h3 j s' e'
      have hj' : ¬ j = i := fun z => hj z.symm
      simp only [hj', if_false]
      exact z
theorem sm_mv (i : Nat) : SmE K W (tVar i) (mvP i) := fun R π σ τ H A Q S z => by
  unfold mvP at z
  split at z
  · rename_i t e
    split at z
    · rename_i im
      obtain ⟨v, B, ev, r⟩ := S.r.sl i _ t e rfl
      exact ⟨v, ev, z v H A noM S (r.im im) dj_noM dj_noM (fun _ h => h.elim) (Step.rfl.sub fun q h => h.elim id fun h => h.elim)⟩
    · obtain ⟨v, B, A', ev, r, S', d, dR, m, sb⟩ := S.drop e
      exact ⟨v, ev, z v H A' B S' r d dR m (Step.rfl.sub sb)⟩
  · rename_i t e
    split at z
    · rename_i im
      obtain ⟨v, B, ev, r⟩ := S.r.sl i _ t e rfl
      exact ⟨v, ev, z v H A noM S (r.im im) dj_noM dj_noM (fun _ h => h.elim) (Step.rfl.sub fun q h => h.elim id fun h => h.elim)⟩
    · exact z.elim
  · rename_i t e
    split at z
    · rename_i im
      obtain ⟨v, B, ev, r⟩ := S.r.sl i _ t e rfl
      exact ⟨v, ev, z v H A noM S (r.im im) dj_noM dj_noM (fun _ h => h.elim) (Step.rfl.sub fun q h => h.elim id fun h => h.elim)⟩
    · exact z.elim
  · rename_i t e
    split at z
    · rename_i im
      obtain ⟨v, B, ev, r⟩ := S.r.sl i _ t e rfl
      exact ⟨v, ev, z v H A noM S (r.im im) dj_noM dj_noM (fun _ h => h.elim) (Step.rfl.sub fun q h => h.elim id fun h => h.elim)⟩
    · exact z.elim
  · exact z.elim
end
end Rw

namespace Rw
open PySem PySem.Spec PyProof.Rows L2
section
variable {K : PySem.W.Frag} {W : WX} {R : Nat → Sa} {π : Nat → V} {te ta tb to ti : TE} {tA : TA} {pe pi : Ev → Rs T} {pA : Ev → Rs (List T)} {qe : Ev → Re Ev T} {qA : Ev → Re Ev (List T)}
/-! ### places -/
abbrev Pl := Nat × List Stp
def treeAt (τ : Ev) (p : Pl) : Option T := (τ[p.1]?).bind fun s => s.t.bind fun t => getP t p.2
def SmL (K : PySem.W.Frag) (W : WX) (te : TE) (pl : Ev → Rs Pl) : Prop := ∀ σ τ H Q, RpR K H σ τ → (pl τ).post (fun p => ∀ v w H', Ext noM H H' → σ[p.1]? = some (some v) → Rchs K H' v p.2 w → Q w H') (ExR K W H σ) → te σ H Q
def plVar (i : Nat) : Ev → Rs Pl := fun τ => match varP i τ with
  | .ok _ => .ok (i, [])
  | _ => .bad
theorem sm_plVar (i : Nat) : SmL K W (tVar i) (plVar i) := fun σ τ H Q h z => by
  unfold plVar at z
  split at z
  · rename_i x e
    obtain ⟨s, es, et⟩ := varP_ok e
    obtain ⟨v, B, ev, _⟩ := h.sl i s _ es et
    exact ⟨v, ev, z v v H Ext.rfl ev .nil⟩
  · exact z.elim
theorem Rchs.snoc {H : Hp} {v w x : V} {st : List Stp} {s : Stp} (h : Rchs K H v st w) (h2 : Rch K H w s x) : Rchs K H v (st ++ [s]) x := by
  induction h with
  | nil => exact .cons h2 .nil
  | cons a _ ih => exact .cons a (ih h2)
theorem treeAt_rp {H : Hp} {σ : L2.St} {τ : Ev} {p : Pl} {t : T} (h : RpR K H σ τ) (e : treeAt τ p = some t) : ∃ v w B, σ[p.1]? = some (some v) ∧ Rchs K H v p.2 w ∧ (∀ w', Rchs K H v p.2 w' → w' = w) ∧ Rp K H w t B := by
  unfold treeAt at e
  obtain ⟨s, e1, e2⟩ := Option.bind_eq_some_iff.mp e
  obtain ⟨t0, e3, e4⟩ := Option.bind_eq_some_iff.mp e2
  obtain ⟨v, B, ev, r⟩ := h.sl p.1 s t0 e1 e3
  obtain ⟨w, Bu, C, a, b, c, _⟩ := rp_path r e4
  exact ⟨v, w, Bu, ev, a, b, c⟩
def plAttr (ok : Str → Bool) (pl : Ev → Rs Pl) (f : Str) : Ev → Rs Pl := fun τ => (pl τ).bind fun p => match treeAt τ p with
  | some (.ins C fs) => if ok C = true ∧ (fs.lookup f).isSome = true then .ok (p.1, p.2 ++ [.fld f]) else .bad
  | _ => .bad
theorem sm_plAttr {fa : List He.Fa} {f : Str} {pl : Ev → Rs Pl} (hl : SmL K W te pl) : SmL K W (tAttr K fa te f) (plAttr (attrOk fa f) pl f) := fun σ τ H Q h z => by
  unfold plAttr at z
  rw [Rs.post_bind] at z
  refine hl σ τ H _ h (Rs.post_mono z (fun p q v w H1 x ev rc => ?_) fun _ q => q)
  split at q
  · rename_i C fs e
    split at q
    · rename_i c
      obtain ⟨v', w', B, ev', _, uq, r⟩ := treeAt_rp (h.ext x) e
      rw [ev] at ev'
      cases ev'
      have ew := uq w rc
      subst ew
      cases r with
      | ins m hh s ee rr =>
        obtain ⟨t', et'⟩ := Option.isSome_iff_exists.mp c.2
        obtain ⟨k, e1, e2⟩ := lookup_ix et'
        obtain ⟨y, e3, ry⟩ := rr.get e1
        have ok := c.1
        unfold attrOk at ok
        rw [Bool.and_eq_true] at ok
        have l := (e2 _ ee).trans e3
        exact ⟨_, _, _, _, y, rfl, hh, ok.1, ok.2, l, q v y H1 x ev (rc.snoc (.fld hh l))⟩
    · exact q.elim
  · exact q.elim
def stpOf (t k : T) : Option Stp := match t with
  | .dct ks => k.key.bind fun k => if (val ks k).isSome = true then some (.key k) else none
  | .lst xs => match k with
    | .int i => if (atI xs i).isSome = true then some (.idx i) else none
    | _ => none
  | _ => none
def plSub (pl : Ev → Rs Pl) (pi : Ev → Rs T) : Ev → Rs Pl := fun τ => (pl τ).bind fun p => (pi τ).bind fun k => match (treeAt τ p).bind fun t => stpOf t k with
  | some s => .ok (p.1, p.2 ++ [s])
  | none => .bad
theorem Rch.ext {H H' : Hp} (x : Ext noM H H') {v w : V} {s : Stp} (h : Rch K H v s w) : Rch K H' v s w := by
  cases h with
  | fld h l => exact .fld (x _ _ noM_not h) l
  | key h l => exact .key (rd_ext h x fun _ => noM_not) l
  | idx h l => exact .idx (x _ _ noM_not h) l
theorem Rchs.ext {H H' : Hp} (x : Ext noM H H') {v w : V} {st : List Stp} (h : Rchs K H v st w) : Rchs K H' v st w := by
  induction h with
  | nil => exact .nil
  | cons a _ ih => exact .cons (a.ext x) ih
theorem sm_plSub {pl : Ev → Rs Pl} (hl : SmL K W te pl) (hi : SmR K W ti pi) : SmL K W (tOp (rSubU' K) te ti) (plSub pl pi) := fun σ τ H Q h z => by
  unfold plSub at z
  rw [Rs.post_bind] at z
  refine hl σ τ H _ h (Rs.post_mono z (fun p q v w H1 x ev rc => ?_) fun _ q => q)
  rw [Rs.post_bind] at q
  refine hi σ τ H1 _ (h.ext x) (Rs.post_mono q (fun k q y H2 B2 x2 ry => ?_) fun _ q => q.ext x)
  have x12 := x.trans x2
  split at q
  · rename_i s e
    obtain ⟨t, e1, e2⟩ := Option.bind_eq_some_iff.mp e
    obtain ⟨v', w', B, ev', _, uq, r⟩ := treeAt_rp (h.ext x12) e1
    rw [ev] at ev'
    cases ev'
    have rc2 := rc.ext x2
    have ew := uq w rc2
    subst ew
    unfold stpOf at e2
    split at e2
    · obtain ⟨k', ek, e3⟩ := Option.bind_eq_some_iff.mp e2
      split at e3
      · rename_i c
        cases e3
        cases r with
        | dct m g s ee nd rr =>
          obtain ⟨u, eu⟩ := Option.isSome_iff_exists.mp c
          obtain ⟨y', l, ry'⟩ := val_rp ee rr eu
          rw [key_ok ry ek]
          exact .inr ⟨_, y', rfl, .inl ⟨_, k', g, rfl, l.symm⟩, q v y' H2 x12 ev (rc2.snoc (.key g l))⟩
      · cases e3
    · split at e2
      · split at e2
        · rename_i c
          cases e2
          cases r with
          | lst m g s rr =>
            cases ry
            obtain ⟨u, eu⟩ := Option.isSome_iff_exists.mp c
            obtain ⟨j, e4, e5⟩ := atI_len rr.len eu
            obtain ⟨y', e6, ry'⟩ := rr.get e4
            have l := e5.trans e6
            exact .inl (.inl ⟨_, _, _, y', rfl, rfl, .inl (.inl g), l, q v y' H2 x12 ev (rc2.snoc (.idx g l))⟩)
        · cases e2
      · cases e2
    · cases e2
  · exact q.elim
def setAt (τ : Ev) (p : Pl) (u : T) : Ev := match τ[p.1]? with
  | some s => match s.mine with
    | some t => τ.set p.1 (s.upd (setP t p.2 u))
    | none => τ
  | none => τ
def mineAt (τ : Ev) (p : Pl) : Option T := (τ[p.1]?).bind fun s => s.mine.bind fun t => getP t p.2
theorem Sl.mine_t {s : Sl} {t : T} (h : s.mine = some t) : s.t = some t := by
  cases s <;> first | (cases h; rfl) | cases h
/-- a place that is one's own: what stands there, and how something else gets there -/
theorem mine_foc {H : Hp} {σ : L2.St} {τ : Ev} {A : Sa} {p : Pl} {u : T} (S : Stt K R π H σ τ A) (e : mineAt τ p = some u) : ∃ v w Bu, σ[p.1]? = some (some v) ∧ Rchs K H v p.2 w ∧ (∀ w', Rchs K H v p.2 w' → w' = w) ∧ Rp K H w u Bu ∧ Sub Bu A ∧
    ∀ H' u' Bu' N, Ext Bu H H' → (∀ q, Bu' q → Bu q ∨ N q) → Dj A N → Dj (RU R) N → Rp K H' w u' Bu' → (∀ q, Bu' q → Mt H' q) → Stt K R π H' σ (setAt τ p u') (fun q => Bu' q ∨ (A q ∧ ¬ Bu q)) := by
  unfold mineAt at e
  obtain ⟨s, e1, e2⟩ := Option.bind_eq_some_iff.mp e
  obtain ⟨t, e3, e4⟩ := Option.bind_eq_some_iff.mp e2
  obtain ⟨v, w, Bu, ev, rc, uq, r, sb, wand⟩ := S.foc e1 e3 e4
  refine ⟨v, w, Bu, ev, rc, uq, r, sb, fun H' u' Bu' N x g d1 d2 r' m => ?_⟩
  have z := wand H' u' Bu' N x g d1 d2 r' m
  unfold setAt
  rw [e1]
  show Stt K R π H' σ (match s.mine with | some t => τ.set p.1 (s.upd (setP t p.2 u')) | none => τ) _
  rw [e3]
  exact z
/-! ### built-in methods that change their object -/
def MtM (r : V → List V → Hp → VK → Prop) (K : PySem.W.Frag) (f : T → List T → Option (T × T)) : Prop := ∀ w vs u ts Bu Bv H Q res u', Rp K H w u Bu → (∀ q, Bu q → Mt H q) → RpL K H vs ts Bv → Dj Bu Bv → (∀ q, Bv q → Mt H q) → f u ts = some (res, u') →
  (∀ v H' Bu' Br, Rp K H' w u' Bu' → Rp K H' v res Br → Dj Bu' Br → (∀ q, Bu' q → Mt H' q) → (∀ q, Br q → Mt H' q) → Ext Bu H H' → (∀ q, Uni Bu' Br q → Uni Bu Bv q ∨ H q = none) → Q v H') → r w vs H Q
def bmE (Ty : String) (f : T → List T → Option (T × T)) (pl : Ev → Rs Pl) (pA : Ev → Rs (List T)) : Ev → Re Ev T := fun τ => (upE τ (pl τ)).bind fun p _ => match mineAt τ p with
  | some u => if u.isTy Ty = true then (upE τ (pA τ)).bind fun ts _ => (ofOe τ (f u ts)).bind fun r _ => .ok r.1 (setAt τ p r.2) else .bad
  | none => .bad
theorem rchs_uniq {H : Hp} {v w w' : V} {st : List Stp} (h : Rchs K H v st w) (uq : ∀ x, Rchs K H v st x → x = w') : w = w' := uq w h
theorem bm_core {r : V → List V → Hp → VK → Prop} {f : T → List T → Option (T × T)} (o : MtM r K f) {σ : L2.St} {τ : Ev} {H H2 : Hp} {A Bv : Sa} {Q : VK} {p : Pl} {v w : V} {vs : List V} {ts : List T} {u : T} (S : Stt K R π H σ τ A) (x : Ext noM H H2) (ev : σ[p.1]? = some (some v)) (rc : Rchs K H2 v p.2 w)
    (rv : RpL K H2 vs ts Bv) (fv : Fresh H H2 Bv) (e : mineAt τ p = some u) (q : ((ofOe τ (f u ts)).bind fun r _ => Re.ok r.1 (setAt τ p r.2)).post (OkE K R π σ H A Q) (ExS K R π W σ H A)) : r w vs H2 Q := by
  rw [Re.post_bind] at q
  obtain ⟨⟨res, u'⟩, ef, q⟩ := ofOe_post q
  have S2 := S.ext x
  obtain ⟨v', w', Bu, ev', _, uq, ru, sb, wand⟩ := mine_foc S2 e
  rw [ev] at ev'
  cases ev'
  obtain rfl := uq w rc
  have dv := S.djN fv
  refine o w vs u ts Bu Bv H2 Q res u' ru (fun q z => S2.mA q (sb q z)) rv (dv.1.sub sb Sub.rfl) (fun q z => (fv q z).2) ef fun v3 H3 Bu' Br r1 r2 d12 m1 m2 x3 g => ?_
  have dN : Dj A (fun q => Bv q ∨ H2 q = none) := fun q a z => z.elim (dv.1 q a) fun n => (mt_no (S2.mA q a)).2.2 n
  have dRN : Dj (RU R) (fun q => Bv q ∨ H2 q = none) := fun q a z => z.elim (dv.2 q a) fun n => S2.aR q a n
  have S3 := wand H3 u' Bu' _ x3 (fun q z => (g q (.inl z)).elim (fun z => z.elim .inl fun z => .inr (.inl z)) fun z => .inr (.inr z)) dN dRN r1 m1
  have gB : ∀ q, Br q → Bu q ∨ Bv q ∨ H2 q = none := fun q z => (g q (.inr z)).elim (fun z => z.elim .inl fun z => .inr (.inl z)) fun z => .inr (.inr z)
  refine q v3 H3 _ Br S3 r2 (fun q a b => ?_) (fun q a b => ?_) m2 ⟨fun q o n e => x3 q o (fun z => n (sb q z)) (x q o noM_not e), fun q z => ?_⟩
  · rcases a with a | a
    · exact d12 q a b
    · rcases gB q b with z | z | z
      · exact a.2 z
      · exact dv.1 q a.1 z
      · exact (mt_no (S2.mA q a.1)).2.2 z
  · rcases gB q b with z | z | z
    · exact S.dR q a (sb q z)
    · exact dv.2 q a z
    · exact S2.aR q a z
  · have nw : ∀ q, Bu q ∨ Bv q ∨ H2 q = none → A q ∨ H q = none := fun q z => z.elim (fun z => .inl (sb q z)) fun z => z.elim (fun z => .inr (fv q z).1) fun z => .inr (x.nn z)
    rcases z with z | z
    · rcases z with z | z
      · exact nw q ((g q (.inl z)).elim (fun z => z.elim .inl fun z => .inr (.inl z)) fun z => .inr (.inr z))
      · exact .inl z.1
    · exact nw q (gB q z)
theorem mineAt_tree {τ : Ev} {p : Pl} {u : T} (e : mineAt τ p = some u) : treeAt τ p = some u := by
  unfold mineAt at e
  obtain ⟨s, e1, e2⟩ := Option.bind_eq_some_iff.mp e
  obtain ⟨t, e3, e4⟩ := Option.bind_eq_some_iff.mp e2
  unfold treeAt
  rw [e1]
  show s.t.bind _ = _
  rw [Sl.mine_t e3]
  exact e4
theorem mine_ty {H H1 : Hp} {σ : L2.St} {τ : Ev} {p : Pl} {u : T} {v w : V} {Ty : String} (h : RpR K H σ τ) (x : Ext noM H H1) (ev : σ[p.1]? = some (some v)) (rc : Rchs K H1 v p.2 w) (e : mineAt τ p = some u) (ty : u.isTy Ty = true) : tyU K Ty w H1 := by
  obtain ⟨v', w', B, ev', _, uq, r⟩ := treeAt_rp (h.ext x) (mineAt_tree e)
  rw [ev] at ev'
  cases ev'
  obtain rfl := uq w rc
  exact isTy_ok r ty
theorem sm_bmE {Ty : String} {r : V → List V → Hp → VK → Prop} {f : T → List T → Option (T × T)} {pl : Ev → Rs Pl} (o : MtM r K f) (hl : SmL K W to pl) (hA : SmAF K W tA pA) : SmE K W (tBMU K Ty r to tA) (bmE Ty f pl pA) := fun R π σ τ H A Q S z => by
  unfold bmE at z
  rw [Re.post_bind] at z
  refine hl σ τ H _ S.r (Rs.post_mono (upE_post z) (fun p q v w H1 x ev rc => ?_) fun _ q => q.toR S)
  split at q
  · rename_i u e
    split at q
    · rename_i ty
      rw [Re.post_bind] at q
      refine ⟨mine_ty S.r x ev rc e ty, hA σ τ H1 _ (S.r.ext x) (Rs.post_mono (upE_post q) (fun ts q vs H2 Bv x2 rv fv => ?_) fun _ q => (q.toR S).ext x)⟩
      exact bm_core o S (x.trans x2) ev (rc.ext x2) rv (x.fr fv) e q
    · exact q.elim
  · exact q.elim
theorem sm_bmE0 {Ty : String} {r : V → List V → Hp → VK → Prop} {f : T → List T → Option (T × T)} {pl : Ev → Rs Pl} (o : MtM r K f) (hl : SmL K W to pl) : SmE K W (tBMU0 K Ty r to) (bmE Ty f pl nilP) := fun R π σ τ H A Q S z => by
  unfold bmE at z
  rw [Re.post_bind] at z
  refine hl σ τ H _ S.r (Rs.post_mono (upE_post z) (fun p q v w H1 x ev rc => ?_) fun _ q => q.toR S)
  split at q
  · rename_i u e
    split at q
    · rename_i ty
      exact ⟨mine_ty S.r x ev rc e ty, bm_core (Bv := noM) o S x ev rc .nil fresh_no e q⟩
    · exact q.elim
  · exact q.elim
/-! the methods -/
def q_append : T → List T → Option (T × T)
  | .lst xs, [t] => if xs.length < sizeLine then some (.non, .lst (xs ++ [t])) else none
  | _, _ => none
theorem upd_mt {H : Hp} {a : Addr} {o : HO} (m : Mt (upd H a o) a) {B : Sa} (h : ∀ q, B q → Mt H q) : ∀ q, B q ∨ q = a → Mt (upd H a o) q := fun q z => by
  by_cases e : q = a
  · rw [e]; exact m
  · have z := h q (z.resolve_right e)
    unfold Mt at z ⊢
    rw [upd_ne e]
    exact z
theorem kp_set {H : Hp} {a : Addr} {o : HO} {D : Sa} (m : Mt H a) (d : ∀ q, D q → q ≠ a) : Kp K D H (upd H a o) := (Ext.set (M := at1 a) (p := a) (H := H) rfl).kpM (fun q e => by rw [show q = a from e]; exact m) fun q z e => d q z e
theorem mtm_append : MtM rAppend K q_append := fun w vs u ts Bu Bv H Q res u' ru mu rv d mv e q => by
  unfold q_append at e
  split at e
  · split at e
    · rename_i l
      cases e
      cases ru with
      | @lst a xs _ _ A1 m h s r =>
        cases rv with
        | cons h1 h2 s1 s2 dd =>
          cases h2
          rename_i y B1 _
          refine ⟨a, xs, y, rfl, rfl, h, by rw [r.len]; exact l, ?_⟩
          have nv : ∀ q, Bv q → q ≠ a := fun q z e => d q (by rw [e]; exact m) z
          have r' : RpL K (upd H a (.lst (xs ++ [y]))) (xs ++ [y]) (_ ++ [_]) (Uni A1 Bv) := (r.append (h1.weak s1).one (d.sub (fun q z => (s q z).1) Sub.rfl)).mono (kp_set (mu a m) fun q z => z.elim (fun z => (s q z).2) (nv q))
          refine q .non _ (fun q => Bu q ∨ Bv q) noM (.lst (.inl m) upd_same (A1 := Uni A1 Bv) (fun q z => z.elim (fun z => ⟨.inl (s q z).1, (s q z).2⟩) fun z => ⟨.inr z, nv q z⟩) r') .non dj_noM (fun q z => ?_) (fun _ h => h.elim) (Ext.set m) fun q z => z.elim .inl fun z => z.elim
          exact upd_mt (.inl ⟨_, upd_same⟩) (B := fun q => Bu q ∨ Bv q) (fun q z => z.elim (mu q) (mv q)) q (.inl z)
    · cases e
  · cases e
def q_extend : T → List T → Option (T × T)
  | .lst xs, [.lst ys] => if xs.length + ys.length ≤ sizeLine ∧ T.imL ys = true then some (.non, .lst (xs ++ ys)) else none
  | _, _ => none
def q_pop : T → List T → Option (T × T)
  | .lst xs, [] => (xs[xs.length - 1]?).bind fun y => if y.im = true then some (y, .lst xs.dropLast) else none
  | _, _ => none
theorem rpl_dropLast {H : Hp} : ∀ {vs : List V} {ts : List T} {A : Sa}, RpL K H vs ts A → RpL K H vs.dropLast ts.dropLast A
  | _, _, _, .nil => .nil
  | _, _, _, .cons h1 .nil s1 s2 d => .nil
  | _, _, _, .cons h1 (.cons g1 g2 u1 u2 dd) s1 s2 d => .cons h1 (rpl_dropLast (.cons g1 g2 u1 u2 dd)) s1 s2 d
theorem mtm_pop : MtM rPop K q_pop := fun w vs u ts Bu Bv H Q res u' ru mu rv d mv e q => by
  unfold q_pop at e
  split at e
  · obtain ⟨y, e1, e2⟩ := Option.bind_eq_some_iff.mp e
    split at e2
    · rename_i im
      cases e2
      cases ru with
      | @lst a xs _ _ A1 m h s r =>
        cases rv
        obtain ⟨v, ev, rr⟩ := r.get e1
        refine ⟨a, xs, v, rfl, rfl, h, by rw [r.len]; exact ev, ?_⟩
        refine q v _ Bu noM (.lst m upd_same (A1 := A1) s ((rpl_dropLast r).mono (kp_set (mu a m) fun q z => (s q z).2))) ((rr.im im).mono (kp_set (mu a m) fun _ h => h.elim)) dj_noM (fun q z => upd_mt (.inl ⟨_, upd_same⟩) mu q (.inl z)) (fun _ h => h.elim) (Ext.set m) fun q z => z.elim (fun z => .inl (.inl z)) fun z => z.elim
    · cases e2
  · cases e
def q_clear : T → List T → Option (T × T)
  | .lst _, [] => some (.non, .lst [])
  | _, _ => none
theorem mtm_clear : MtM rClear K q_clear := fun w vs u ts Bu Bv H Q res u' ru mu rv d mv e q => by
  unfold q_clear at e
  split at e
  · cases e
    cases ru with
    | @lst a xs _ _ A1 m h s r =>
      cases rv
      exact ⟨a, xs, rfl, rfl, h, q .non _ Bu noM (.lst m upd_same (A1 := noM) (fun _ z => z.elim) .nil) .non dj_noM (fun q z => upd_mt (.inl ⟨_, upd_same⟩) mu q (.inl z)) (fun _ h => h.elim) (Ext.set m) fun q z => z.elim (fun z => .inl (.inl z)) fun z => z.elim⟩
  · cases e
/-- d.pop(k), d.pop(k, z) -/
def q_dpop : T → List T → Option (T × T)
  | .dct ks, [k] => k.key.bind fun k => (val ks k).bind fun t => some (t, .dct (drop ks k))
  | .dct ks, [k, z] => k.key.bind fun k => match val ks k with
    | some t => some (t, .dct (drop ks k))
    | none => if z.im = true then some (z, .dct ks) else none
  | _, _ => none
/-- a value is taken out: it, and the others -/
theorem rpd_take {H : Hp} {k : Key} : ∀ {kvs : List (Key × V)} {ks : List (Key × T)} {A : Sa} {t : T}, kvs.map (·.1) = ks.map (·.1) → (ks.map (·.1)).Nodup → RpL K H (kvs.map (·.2)) (ks.map (·.2)) A → val ks k = some t →
    ∃ v B C, valV kvs k = some v ∧ Rp K H v t B ∧ Sub B A ∧ Sub C A ∧ Dj B C ∧ (dropK kvs k).map (·.1) = (drop ks k).map (·.1) ∧ RpL K H ((dropK kvs k).map (·.2)) ((drop ks k).map (·.2)) C
  | [], [], _, _, _, _, _, e => by cases e
  | [], _ :: _, _, _, e, _, _, _ => by simp at e
  | _ :: _, [], _, _, e, _, _, _ => by simp at e
  | (g, v) :: kvs, (g', t') :: ks, A, t, e, nd, r, ev => by
    simp only [List.map_cons, List.cons.injEq] at e
    obtain ⟨e1, e2⟩ := e
    subst e1
    rw [List.map_cons, List.nodup_cons] at nd
    cases r with
    | @cons _ _ _ _ _ A1 A2 h1 h2 s1 s2 d =>
      by_cases c : g = k
      · subst c
        have et : t' = t := by simpa [val] using ev
        subst et
        have nk : g ∉ kvs.map (·.1) := by rw [e2]; exact nd.1
        have dk : ∀ {α : Type} (xs : List (Key × α)) (x : α), g ∉ xs.map (·.1) → (((g, x) :: xs).filter fun p => decide (p.1 ≠ g)) = xs := fun xs x hn => by
          rw [List.filter_cons, if_neg (by simp)]
          exact List.filter_eq_self.mpr fun p hp => by
            have : p.1 ≠ g := fun z => hn (by rw [← z]; exact List.mem_map_of_mem hp)
            simpa using this
        refine ⟨v, A1, A2, valV_pos (p := (g, v)) rfl, h1, s1, s2, d, ?_, ?_⟩
        · unfold dropK drop
          rw [dk kvs v nk, dk ks t' nd.1]
          exact e2
        · unfold dropK drop
          rw [dk kvs v nk, dk ks t' nd.1]
          exact h2
      · have ev : val ks k = some t := by simpa [val, c] using ev
        obtain ⟨w, B, C, a1, a2, a3, a4, a5, a6, a7⟩ := rpd_take e2 nd.2 h2 ev
        have z : decide ((g, v).1 ≠ k) = true := by simp [c]
        have z2 : decide ((g, t').1 ≠ k) = true := by simp [c]
        refine ⟨w, B, Uni A1 C, (valV_neg (p := (g, v)) c).trans a1, a2, a3.trans s2, fun q y => y.elim (s1 q) fun y => s2 q (a4 q y), fun q b y => y.elim (fun y => d q y (a3 q b)) (a5 q b), ?_, ?_⟩
        · unfold dropK drop at a6 ⊢
          rw [List.filter_cons, List.filter_cons, if_pos z, if_pos z2, List.map_cons, List.map_cons, a6]
        · unfold dropK drop at a7 ⊢
          rw [List.filter_cons, List.filter_cons, if_pos z, if_pos z2]
          exact .cons h1 a7 Sub.l Sub.r fun q y c => d q y (a4 q c)
theorem rpd_drop {H : Hp} {k : Key} : ∀ {kvs : List (Key × V)} {ks : List (Key × T)} {A : Sa}, kvs.map (·.1) = ks.map (·.1) → RpL K H (kvs.map (·.2)) (ks.map (·.2)) A → (dropK kvs k).map (·.1) = (drop ks k).map (·.1) ∧ RpL K H ((dropK kvs k).map (·.2)) ((drop ks k).map (·.2)) A
  | [], [], _, _, _ => ⟨rfl, .nil⟩
  | [], _ :: _, _, e, _ => by simp at e
  | _ :: _, [], _, e, _ => by simp at e
  | (g, v) :: kvs, (g', t) :: ks, A, e, r => by
    simp only [List.map_cons, List.cons.injEq] at e
    obtain ⟨e1, e2⟩ := e
    subst e1
    cases r with
    | cons h1 h2 s1 s2 d =>
      obtain ⟨i1, i2⟩ := rpd_drop (k := k) e2 h2
      unfold dropK drop at i1 i2 ⊢
      rw [List.filter_cons, List.filter_cons]
      by_cases c : g = k
      · have z : ¬ decide ((g, v).1 ≠ k) = true := by simp [c]
        have z2 : ¬ decide ((g, t).1 ≠ k) = true := by simp [c]
        rw [if_neg z, if_neg z2]
        exact ⟨i1, i2.weak s2⟩
      · have z : decide ((g, v).1 ≠ k) = true := by simp [c]
        have z2 : decide ((g, t).1 ≠ k) = true := by simp [c]
        rw [if_pos z, if_pos z2]
        exact ⟨by rw [List.map_cons, List.map_cons, i1], .cons h1 i2 s1 s2 d⟩
theorem drop_nd {α : Type} {ks : List (Key × α)} {k : Key} (nd : (ks.map (·.1)).Nodup) : ((drop ks k).map (·.1)).Nodup := nd.sublist (List.filter_sublist.map _)
theorem mtm_dpop : MtM rDpop K q_dpop := fun w vs u ts Bu Bv H Q res u' ru mu rv d mv e q => by
  have main : ∀ {a : Addr} {kvs : List (Key × V)} {ks : List (Key × T)} {k : Key} {t : T} {A1 : Sa}, Bu a → H a = some (.dK kvs) → (∀ q, A1 q → Bu q ∧ q ≠ a) → kvs.map (·.1) = ks.map (·.1) → (ks.map (·.1)).Nodup → RpL K H (kvs.map (·.2)) (ks.map (·.2)) A1 → val ks k = some t → t = res → u' = .dct (drop ks k) → w = .ref a →
      ∃ v, valV kvs k = some v ∧ Q v (upd H a (.dK (dropK kvs k))) := by
    intro a kvs ks k t A1 m h s ee nd r ev e1 e2 ew
    subst e1 e2 ew
    obtain ⟨v, B, C, e3, rr, sB, sC, dBC, i1, i2⟩ := rpd_take (k := k) ee nd r ev
    refine ⟨v, e3, q v _ (fun q => q = a ∨ C q) B (.dct (.inl rfl) (.inl upd_same) (A1 := C) (fun q z => ⟨.inr z, (s q (sC q z)).2⟩) i1 (drop_nd nd) (i2.mono (kp_set (mu a m) fun q z => (s q (sC q z)).2))) (rr.mono (kp_set (mu a m) fun q z => (s q (sB q z)).2)) (fun q x y => x.elim (fun x => (s q (sB q y)).2 x) fun x => dBC q y x) (fun q z => ?_) (fun q z => ?_) (Ext.set m) fun q z => .inl (.inl ?_)⟩
    · exact upd_mt (.inr (.inl ⟨_, upd_same⟩)) (B := C) (fun q z => mu q (s q (sC q z)).1) q z.symm
    · exact upd_mt (.inr (.inl ⟨_, upd_same⟩)) (B := B) (fun q z => mu q (s q (sB q z)).1) q (.inl z)
    · rcases z with (z | z) | z
      · rw [z]; exact m
      · exact (s q (sC q z)).1
      · exact (s q (sB q z)).1
  have live : ∀ {a : Addr} {kvs : List (Key × V)}, Bu a → Rd H a (.dK kvs) → H a = some (.dK kvs) := fun {a kvs} m h => by
    rcases h with h | ⟨o, h⟩
    · exact h
    · exact absurd h ((mt_no (mu a m)).2.1 o _)
  unfold q_dpop at e
  split at e
  · obtain ⟨k, e1, e2⟩ := Option.bind_eq_some_iff.mp e
    obtain ⟨t, e4, e3⟩ := Option.bind_eq_some_iff.mp e2
    cases e3
    cases ru with
    | dct m h s ee nd r =>
      obtain ⟨x, B, rfl, rx⟩ := each1 (rpl_each rv)
      rw [key_ok rx e1]
      obtain ⟨v, a1, a2⟩ := main m (live m h) s ee nd r e4 rfl rfl rfl
      exact ⟨_, _, k, rfl, live m h, .inl ⟨v, rfl, a1, a2⟩⟩
  · obtain ⟨k, e1, e2⟩ := Option.bind_eq_some_iff.mp e
    cases ru with
    | dct m h s ee nd r =>
      obtain ⟨x, z, B, C, rfl, rx, rz⟩ := each2 (rpl_each rv)
      rw [key_ok rx e1]
      refine ⟨_, _, k, rfl, live m h, .inr ⟨z, rfl, fun v l => ?_, fun l => ?_⟩⟩
      · split at e2
        · rename_i t et
          cases e2
          obtain ⟨v', a1, a2⟩ := main m (live m h) s ee nd r et rfl rfl rfl
          rw [l] at a1
          cases a1
          exact a2
        · rename_i et
          rw [val_no et _ ee] at l
          cases l
      · split at e2
        · rename_i t et
          obtain ⟨v', a1, _⟩ := val_rp ee r et
          rw [l] at a1
          cases a1
        · rename_i et
          split at e2
          · rename_i im
            cases e2
            exact q z H Bu noM (.dct m h s ee nd r) (rz.im im) dj_noM mu (fun _ h => h.elim) Ext.rfl fun q z => z.elim (fun z => .inl (.inl z)) fun z => z.elim
          · cases e2
  · cases e
end
end Rw

namespace Rw
open PySem PySem.Spec PyProof.Rows L2
/-! ### statements -/
inductive Fl where
  | nx | bk | ct | rt (t : T)
section
variable {K : PySem.W.Frag} {W : WX} {R : Nat → Sa} {π : Nat → V}
abbrev OkS (K : PySem.W.Frag) (R : Nat → Sa) (π : Nat → V) (H : Hp) (A : Sa) (D : Ends) (f : Fl) (τ' : Ev) : Prop := match f with
  | .nx => ∀ σ' H' A', Stt K R π H' σ' τ' A' → Step A H A' H' → D.nx σ' H'
  | .bk => ∀ σ' H' A', Stt K R π H' σ' τ' A' → Step A H A' H' → D.bk σ' H'
  | .ct => ∀ σ' H' A', Stt K R π H' σ' τ' A' → Step A H A' H' → D.ct σ' H'
  | .rt t => ∀ v σ' H' A' B, Stt K R π H' σ' τ' A' → Rp K H' v t B → Dj A' B → Dj (RU R) B → (∀ q, B q → Mt H' q) → Step A H (Uni A' B) H' → D.rt v H'
abbrev ExT (K : PySem.W.Frag) (R : Nat → Sa) (π : Nat → V) (W : WX) (H : Hp) (A : Sa) (x : Xc) (τ' : Ev) : Prop := ∀ cls d σ' H' A', Stt K R π H' σ' τ' A' → RpX K H' cls d x → Step A H A' H' → W cls d σ' H'
def SmS (K : PySem.W.Frag) (W : WX) (ts : TS) (qs : Ev → Re Ev Fl) : Prop := ∀ R π σ τ H A D, Stt K R π H σ τ A → (qs τ).post (OkS K R π H A D) (ExT K R π W H A) → ts D σ H
theorem OkS.step {H H1 : Hp} {A A1 : Sa} {D : Ends} {f : Fl} {τ : Ev} (h : OkS K R π H A D f τ) (s : Step A H A1 H1) : OkS K R π H1 A1 D f τ := by
  cases f with
  | nx => exact fun σ' H' A' S s2 => h σ' H' A' S (s.trans s2)
  | bk => exact fun σ' H' A' S s2 => h σ' H' A' S (s.trans s2)
  | ct => exact fun σ' H' A' S s2 => h σ' H' A' S (s.trans s2)
  | rt t => exact fun v σ' H' A' B S r d dR m s2 => h v σ' H' A' B S r d dR m (s.trans s2)
theorem ExT.step {H H1 : Hp} {A A1 : Sa} {x : Xc} {τ : Ev} (h : ExT K R π W H A x τ) (s : Step A H A1 H1) : ExT K R π W H1 A1 x τ := fun cls d σ' H' A' S r s2 => h cls d σ' H' A' S r (s.trans s2)
theorem ExT.s {H : Hp} {A : Sa} {σ : L2.St} {x : Xc} {τ : Ev} (h : ExT K R π W H A x τ) : ExS K R π W σ H A x τ := fun cls d H' A' S r s2 => h cls d σ H' A' S r s2
theorem ExT.r {H : Hp} {A : Sa} {σ : L2.St} {x : Xc} {τ : Ev} (S : Stt K R π H σ τ A) (h : ExT K R π W H A x τ) : ExR K W H σ x := h.s.toR S
variable {te ta tb to ti : TE} {tA : TA} {pe pi : Ev → Rs T} {pA : Ev → Rs (List T)} {qe : Ev → Re Ev T} {qA : Ev → Re Ev (List T)} {t u : TS} {qt qu : Ev → Re Ev Fl} {c : TT} {qc : Ev → Re Ev Bool} {pl : Ev → Rs Pl}
def seqS (q1 q2 : Ev → Re Ev Fl) : Ev → Re Ev Fl := fun τ => (q1 τ).bind fun f τ1 => match f with
  | .nx => q2 τ1
  | f => .ok f τ1
theorem sm_seq (h1 : SmS K W t qt) (h2 : SmS K W u qu) : SmS K W (tSeq t u) (seqS qt qu) := fun R π σ τ H A D S z => by
  unfold seqS at z
  rw [Re.post_bind] at z
  refine h1 R π σ τ H A { D with nx := u D } S (Re.post_mono z (fun f τ1 q => ?_) fun _ _ q => q)
  cases f with
  | nx => exact fun σ' H' A' S' s => h2 R π σ' τ1 H' A' D S' (Re.post_mono q (fun f τ2 q => q.step s) fun x τ2 q => q.step s)
  | bk => exact q
  | ct => exact q
  | rt t => exact q
def nextS : Ev → Re Ev Fl := fun τ => .ok .nx τ
theorem sm_next : SmS K W tNext nextS := fun R π σ τ H A D S z => z σ H A S Step.rfl
/-- a block's last statement -/
theorem sm_last (h1 : SmS K W t qt) : SmS K W (tSeq t tNext) qt := fun R π σ τ H A D S z => h1 R π σ τ H A { D with nx := tNext D } S (Re.post_mono z (fun f τ1 q => by cases f <;> exact q) fun _ _ q => q)
def ifS (qc : Ev → Re Ev Bool) (q1 q2 : Ev → Re Ev Fl) : Ev → Re Ev Fl := fun τ => (qc τ).bind fun b τ1 => if b = true then q1 τ1 else q2 τ1
theorem sm_ifS (hc : SmTE K W c qc) (h1 : SmS K W t qt) (h2 : SmS K W u qu) : SmS K W (tIfS c t u) (ifS qc qt qu) := fun R π σ τ H A D S z => by
  unfold ifS at z
  rw [Re.post_bind] at z
  refine hc R π σ τ H A _ S (Re.post_mono z (fun b τ1 q H1 A1 S1 s1 => ?_) fun x τ1 q => ExT.s q)
  cases b with
  | true => exact h1 R π σ τ1 H1 A1 D S1 (Re.post_mono q (fun f τ2 q => q.step s1) fun x τ2 q => q.step s1)
  | false => exact h2 R π σ τ1 H1 A1 D S1 (Re.post_mono q (fun f τ2 q => q.step s1) fun x τ2 q => q.step s1)
def retS (qe : Ev → Re Ev T) : Ev → Re Ev Fl := fun τ => (qe τ).bind fun t τ1 => .ok (.rt t) τ1
theorem sm_ret (he : SmE K W te qe) : SmS K W (tRet te) (retS qe) := fun R π σ τ H A D S z => by
  unfold retS at z
  rw [Re.post_bind] at z
  exact he R π σ τ H A _ S (Re.post_mono z (fun t τ1 q v H' A' B S' r d dR m s => q v σ H' A' B S' r d dR m s) fun x τ1 q => ExT.s q)
def retNS : Ev → Re Ev Fl := fun τ => .ok (.rt .non) τ
theorem sm_retN : SmS K W tRetN retNS := fun R π σ τ H A D S z => z .non σ H A noM S .non dj_noM dj_noM (fun _ h => h.elim) (Step.rfl.sub fun q h => h.elim id fun h => h.elim)
def dropS (qe : Ev → Re Ev T) : Ev → Re Ev Fl := fun τ => (qe τ).bind fun _ τ1 => .ok .nx τ1
theorem sm_drop (he : SmE K W te qe) : SmS K W (tDrop te) (dropS qe) := fun R π σ τ H A D S z => by
  unfold dropS at z
  rw [Re.post_bind] at z
  exact he R π σ τ H A _ S (Re.post_mono z (fun t τ1 q v H' A' B S' r d dR m s => q σ H' A' S' (s.sub Sub.l)) fun x τ1 q => ExT.s q)
/-! targets -/
def SmG (K : PySem.W.Frag) (g : TG) (pg : T → Ev → Rs Ev) : Prop := ∀ R π σ τ H A v t B (Q : L2.St → Hp → Prop), Stt K R π H σ τ A → Rp K H v t B → Dj A B → Dj (RU R) B → (∀ q, B q → Mt H q) →
  (pg t τ).post (fun τ' => ∀ σ' H' A', Stt K R π H' σ' τ' A' → Step (Uni A B) H A' H' → Q σ' H') (fun _ => False) → g v σ H Q
def SmGs (K : PySem.W.Frag) (g : TGs) (pg : List T → Ev → Rs Ev) : Prop := ∀ R π σ τ H A vs ts B (Q : L2.St → Hp → Prop), Stt K R π H σ τ A → RpL K H vs ts B → Dj A B → Dj (RU R) B → (∀ q, B q → Mt H q) →
  (pg ts τ).post (fun τ' => ∀ σ' H' A', Stt K R π H' σ' τ' A' → Step (Uni A B) H A' H' → Q σ' H') (fun _ => False) → g vs σ H Q
def asgS (qe : Ev → Re Ev T) (pg : T → Ev → Rs Ev) : Ev → Re Ev Fl := fun τ => (qe τ).bind fun t τ1 => match pg t τ1 with
  | .ok τ2 => .ok .nx τ2
  | _ => .bad
theorem sm_asg {g : TG} {pg : T → Ev → Rs Ev} (he : SmE K W te qe) (hg : SmG K g pg) : SmS K W (tAsg te g) (asgS qe pg) := fun R π σ τ H A D S z => by
  unfold asgS at z
  rw [Re.post_bind] at z
  refine he R π σ τ H A _ S (Re.post_mono z (fun t τ1 q v H1 A1 B1 S1 r1 d1 dR1 m1 s1 => ?_) fun x τ1 q => ExT.s q)
  refine hg R π σ τ1 H1 A1 v t B1 _ S1 r1 d1 dR1 m1 ?_
  cases e : pg t τ1 with
  | ok τ2 =>
    rw [e] at q
    exact fun σ' H' A' S' s2 => q σ' H' A' S' (s1.trans s2)
  | exc x => rw [e] at q; exact q.elim
  | bad => rw [e] at q; exact q.elim
def setN (i : Nat) : T → Ev → Rs Ev := fun t τ => match τ[i]? with
  | some s => if s.isPar = true then .bad else .ok (τ.set i (.own t))
  | none => .bad
theorem sm_gN (i : Nat) : SmG K (gName i) (setN i) := fun R π σ τ H A v t B Q S r d dR m z => by
  unfold setN at z
  split at z
  · rename_i s e
    split at z
    · exact z.elim
    · rename_i hp
      exact z _ H _ (S.asg e (by simpa using hp) r d dR m) Step.rfl
  · exact z.elim
theorem Stt.cong {H : Hp} {σ : L2.St} {τ : Ev} {A A' : Sa} (S : Stt K R π H σ τ A) (h : ∀ q, A q ↔ A' q) : Stt K R π H σ τ A' := by
  have e : A = A' := funext fun q => propext (h q)
  rw [← e]
  exact S
theorem sm_gsnil : SmGs K gNil gnilP := fun R π σ τ H A vs ts B Q S r d dR m z => by
  cases r with
  | nil => exact ⟨rfl, z σ H A S ⟨Ext.rfl, fun q a => .inl (.inl a)⟩⟩
  | cons _ _ _ _ _ => exact z.elim
theorem sm_gscons {g : TG} {gs : TGs} {p : T → Ev → Rs Ev} {ps : List T → Ev → Rs Ev} (hg : SmG K g p) (hs : SmGs K gs ps) : SmGs K (gCons g gs) (gconsP p ps) := fun R π σ τ H A vs ts B Q S r d dR m z => by
  cases r with
  | nil => exact z.elim
  | @cons _ _ _ _ _ B1 B2 h1 h2 s1 s2 dd =>
    have z : (Rs.bind _ _).post _ _ := z
    rw [Rs.post_bind] at z
    refine ⟨_, _, rfl, hg R π σ τ H A _ _ B1 _ S h1 (d.sub Sub.rfl s1) (dR.sub Sub.rfl s1) (fun q z => m q (s1 q z)) (Rs.post_mono z (fun τ' q σ' H' A' S' s => ?_) fun _ q => q)⟩
    have dU : Dj (Uni A B1) B2 := fun q a b => a.elim (fun a => d q a (s2 q b)) fun a => dd q a b
    have mU : ∀ q, Uni A B1 q → Mt H q := fun q a => a.elim (S.mA q) fun a => m q (s1 q a)
    have mB2 : ∀ q, B2 q → Mt H q := fun q z => m q (s2 q z)
    have d' : Dj A' B2 := fun q a b => (s.g q a).elim (fun a => dU q a b) fun n => (mt_no (mB2 q b)).2.2 n
    have r2 := h2.mono (s.x.kpM mU dU.symm)
    have m2 : ∀ q, B2 q → Mt H' q := aside_mt mB2 dU (s.sub (A' := A') Sub.rfl)
    refine hs R π σ' τ' H' A' _ _ B2 Q S' r2 d' (dR.sub Sub.rfl s2) m2 (Rs.post_mono q (fun τ'' q σ'' H'' A'' S'' s' => q σ'' H'' A'' S'' ?_) fun _ q => q)
    have st : Step (Uni A B) H (Uni A' B2) H' := ⟨fun q o n e => s.x q o (fun z => n (z.elim .inl fun z => .inr (s1 q z))) e, fun q z => z.elim (fun z => (s.g q z).imp (fun z => z.elim .inl fun z => .inr (s1 q z)) id) fun z => .inl (.inr (s2 q z))⟩
    exact st.trans s'
def unpS (n : Nat) (ps : List T → Ev → Rs Ev) : T → Ev → Rs Ev := fun t τ => match t.items with
  | some ts => if ts.length = n then ps ts τ else .bad
  | none => .bad
theorem sm_gUnp {n : Nat} {gs : TGs} {ps : List T → Ev → Rs Ev} (hs : SmGs K gs ps) : SmG K (gUnp K n gs) (unpS n ps) := fun R π σ τ H A v t B Q S r d dR m z => by
  unfold unpS at z
  split at z
  · rename_i ts e
    split at z
    · rename_i c
      obtain ⟨p, xs, rfl, g, rr⟩ := items_ok r e
      have z2 := hs R π σ τ H A xs ts B Q S rr d dR m z
      rcases g with g | g
      · exact .inr ⟨p, xs, rfl, g, by rw [rr.len]; exact c, z2⟩
      · exact .inl ⟨p, xs, rfl, g, by rw [rr.len]; exact c, z2⟩
    · exact z.elim
  · exact z.elim
/-! o[k] = v -/
def putT (u k t : T) : Option T := match u with
  | .lst xs => match k with
    | .int i => (ixN xs.length i).map fun j => .lst (xs.set j t)
    | _ => none
  | .dct ks => k.key.bind fun k => if ks.length < sizeLine then some (.dct (put ks k t)) else none
  | _ => none
theorem rpl_set {H : Hp} {vs : List V} {ts : List T} {A B : Sa} {j : Nat} {y : V} {t : T} (r : RpL K H vs ts A) (hj : j < ts.length) (ry : Rp K H y t B) (d : Dj A B) : RpL K H (vs.set j y) (ts.set j t) (Uni A B) := by
  obtain ⟨w, Bu, C, ew, ru, b1, c1, dj, wand⟩ := r.focus (List.getElem?_eq_getElem hj)
  exact (wand H y t B Ext.rfl.kp ry (fun q z y => d q (c1 q y) z)).weak fun q z => z.elim .inr fun z => .inl (c1 q z)
theorem putK_eq {kvs : List (Key × V)} {k : Key} {v : V} : putK kvs k v = put kvs k v := rfl
theorem put_new {α : Type} {ks : List (Key × α)} {k : Key} {v : α} (h : k ∉ ks.map (·.1)) : put ks k v = ks ++ [(k, v)] := by
  unfold put
  rw [if_neg]
  intro z
  obtain ⟨p, hp, e⟩ := List.any_eq_true.mp z
  exact h (by rw [← of_decide_eq_true e]; exact List.mem_map_of_mem hp)
theorem rpd_put {H : Hp} {kvs : List (Key × V)} {ks : List (Key × T)} {A B : Sa} {k : Key} {y : V} {t : T} (ee : kvs.map (·.1) = ks.map (·.1)) (nd : (ks.map (·.1)).Nodup) (r : RpL K H (kvs.map (·.2)) (ks.map (·.2)) A) (ry : Rp K H y t B) (d : Dj A B) :
    (putK kvs k y).map (·.1) = (put ks k t).map (·.1) ∧ ((put ks k t).map (·.1)).Nodup ∧ RpL K H ((putK kvs k y).map (·.2)) ((put ks k t).map (·.2)) (Uni A B) := by
  by_cases h : k ∈ ks.map (·.1)
  · obtain ⟨i, hi, q⟩ := key_at nd h
    obtain ⟨p1, p2, p3⟩ := q T ks rfl
    obtain ⟨v1, v2, v3⟩ := q V kvs ee
    rw [putK_eq]
    refine ⟨by rw [v3, p3]; exact ee, by rw [p3]; exact nd, ?_⟩
    rw [v2, p2]
    exact rpl_set r (by simpa using hi) ry d
  · have h' : k ∉ kvs.map (·.1) := by rw [ee]; exact h
    rw [putK_eq, put_new h, put_new h']
    refine ⟨by simp [ee], ?_, ?_⟩
    · rw [List.map_append, List.nodup_append]
      refine ⟨nd, by simp, fun a ha b hb e => h ?_⟩
      simp only [List.map_cons, List.map_nil, List.mem_singleton] at hb
      rw [← hb, ← e]
      exact ha
    · rw [List.map_append, List.map_append]
      exact r.append ry.one d
theorem ixN_lt {n : Nat} {i : Int} {j : Nat} (h : ixN n i = some j) : j < n := by
  unfold ixN at h
  split at h
  · split at h
    · cases h; omega
    · cases h
  · split at h
    · cases h; omega
    · cases h
/-- the object at w, changed -/
def PutS (K : PySem.W.Frag) (H : Hp) (w : V) (Bu Bv : Sa) (u' : T) (P : Hp → Prop) : Prop := ∀ H' Bu', Ext Bu H H' → Rp K H' w u' Bu' → (∀ q, Bu' q → Bu q ∨ Bv q) → (∀ q, Bu' q → Mt H' q) → P H'
theorem put_core {H : Hp} {w kk y : V} {u k t u' : T} {Bu Bk Bv : Sa} {P : Hp → Prop} (ru : Rp K H w u Bu) (mu : ∀ q, Bu q → Mt H q) (rk : Rp K H kk k Bk) (ry : Rp K H y t Bv) (d : Dj Bu Bv) (mv : ∀ q, Bv q → Mt H q) (e : putT u k t = some u') (q : PutS K H w Bu Bv u' P) : rPutU w kk y H P := by
  unfold putT at e
  split at e
  · split at e
    · obtain ⟨j, ej, rfl⟩ := Option.map_eq_some_iff.mp e
      cases rk
      cases ru with
      | @lst a xs ts _ A1 m h s r =>
        have hj := ixN_lt ej
        refine .inl ⟨a, xs, _, j, rfl, rfl, h, by rw [r.len]; exact ej, ?_⟩
        have nv : ∀ q, Bv q → q ≠ a := fun q z e => d q (by rw [e]; exact m) z
        refine q _ (fun q => Bu q ∨ Bv q) (Ext.set m) (.lst (.inl m) upd_same (A1 := Uni A1 Bv) (fun q z => z.elim (fun z => ⟨.inl (s q z).1, (s q z).2⟩) fun z => ⟨.inr z, nv q z⟩)
          ((rpl_set r hj ry (d.sub (fun q z => (s q z).1) Sub.rfl)).mono (kp_set (mu a m) fun q z => z.elim (fun z => (s q z).2) (nv q)))) (fun q z => z) fun q z => upd_mt (.inl ⟨_, upd_same⟩) (B := fun q => Bu q ∨ Bv q) (fun q z => z.elim (mu q) (mv q)) q (.inl z)
    · cases e
  · obtain ⟨k', ek, e2⟩ := Option.bind_eq_some_iff.mp e
    split at e2
    · rename_i l
      cases e2
      cases ru with
      | @dct a kvs ks _ A1 m h s ee nd r =>
        have hl : H a = some (.dK kvs) := by
          rcases h with h | ⟨o, h⟩
          · exact h
          · exact absurd h ((mt_no (mu a m)).2.1 o _)
        have ll : kvs.length < sizeLine := by
          have := congrArg List.length ee
          simp only [List.length_map] at this
          rw [this]
          exact l
        obtain ⟨p1, p2, p3⟩ := rpd_put (k := k') ee nd r ry (d.sub (fun q z => (s q z).1) Sub.rfl)
        have nv : ∀ q, Bv q → q ≠ a := fun q z e => d q (by rw [e]; exact m) z
        rw [key_ok rk ek]
        refine .inr ⟨a, _, rfl, .inl ⟨kvs, k', hl, rfl, ll, rfl⟩, ?_⟩
        exact q _ (fun q => Bu q ∨ Bv q) (Ext.set m) (.dct (.inl m) (.inl upd_same) (A1 := Uni A1 Bv) (fun q z => z.elim (fun z => ⟨.inl (s q z).1, (s q z).2⟩) fun z => ⟨.inr z, nv q z⟩) p1 p2
          (p3.mono (kp_set (mu a m) fun q z => z.elim (fun z => (s q z).2) (nv q)))) (fun q z => z) fun q z => upd_mt (.inr (.inl ⟨_, upd_same⟩)) (B := fun q => Bu q ∨ Bv q) (fun q z => z.elim (mu q) (mv q)) q (.inl z)
    · cases e2
  · cases e
/-- a change of a place, seen from the frame -/
theorem put_frame {σ : L2.St} {τ : Ev} {H H2 : Hp} {A B : Sa} {p : Pl} {v w : V} {u u' : T} {Q : Hp → Prop} (S : Stt K R π H2 σ τ A) (ev : σ[p.1]? = some (some v)) (rc : Rchs K H2 v p.2 w) (e : mineAt τ p = some u) (dB : Dj A B) (dRB : Dj (RU R) B)
    (q : ∀ H' A', Stt K R π H' σ (setAt τ p u') A' → Step (Uni A B) H2 A' H' → Q H') : ∃ Bu, Rp K H2 w u Bu ∧ (∀ q, Bu q → Mt H2 q) ∧ Dj Bu B ∧ PutS K H2 w Bu B u' Q := by
  obtain ⟨v', w', Bu, ev', _, uq, ru, sb, wand⟩ := mine_foc S e
  rw [ev] at ev'
  cases ev'
  obtain rfl := uq w rc
  refine ⟨Bu, ru, fun q z => S.mA q (sb q z), dB.sub sb Sub.rfl, fun H' Bu' x r g m => ?_⟩
  refine q H' _ (wand H' u' Bu' B x g dB dRB r m) ⟨fun q o n e => x q o (fun z => n (.inl (sb q z))) e, fun q z => ?_⟩
  rcases z with z | z
  · exact .inl ((g q z).imp (sb q) id)
  · exact .inl (.inl z.1)
def setK (pl : Ev → Rs Pl) (pi : Ev → Rs T) : T → Ev → Rs Ev := fun t τ => (noX (pl τ)).bind fun p => (noX (pi τ)).bind fun k => match mineAt τ p with
  | some u => ofO ((putT u k t).map fun u' => setAt τ p u')
  | none => .bad
theorem noX_post {α : Type} {r : Rs α} {o : α → Prop} {e e' : Xc → Prop} (h : (noX r).post o e) : r.post o e' := by
  cases r with
  | ok a => exact h
  | exc x => exact h.elim
  | bad => exact h
theorem sm_gK (hl : SmL K W to pl) (hi : SmR K W ti pi) : SmG K (gSub to ti rPutU) (setK pl pi) := fun R π σ τ H A v t B Q S r d dR m z => by
  unfold setK at z
  rw [Rs.post_bind] at z
  refine hl σ τ H _ S.r (Rs.post_mono (noX_post (e' := ExR K W H σ) z) (fun p q v0 w H1 x ev rc => ?_) fun _ q => q)
  rw [Rs.post_bind] at q
  refine hi σ τ H1 _ (S.r.ext x) (Rs.post_mono (noX_post (e' := ExR K W H1 σ) q) (fun k q kk H2 Bk x2 rk => ?_) fun _ q => q)
  have x12 := x.trans x2
  split at q
  · rename_i u e
    obtain ⟨τ', e2, q⟩ := ofO_post q
    obtain ⟨u', e3, rfl⟩ := Option.map_eq_some_iff.mp e2
    have S2 := S.ext x12
    obtain ⟨Bu, ru, mu, dj, pf⟩ := put_frame (H := H) S2 ev (rc.ext x2) e d dR (Q := fun H3 => Q σ H3) (u' := u') fun H' A' S' s => q σ H' A' S' ((Step.ext x12).trans s)
    exact put_core ru mu rk (r.mono x12.kp) dj (fun q z => mt_ext x12 (m q z)) e3 pf
  · exact q.elim
/-! o.f = e -/
theorem rpf_put {H : Hp} {f : Str} {y : V} {t : T} {B : Sa} (ry : Rp K H y t B) : ∀ {fs : List (Str × V)} {ts : List (Str × T)} {A : Sa}, fs.map (·.1) = ts.map (·.1) → RpL K H (fs.map (·.2)) (ts.map (·.2)) A → Dj A B → (putF f y fs).map (·.1) = (putG f t ts).map (·.1) ∧ RpL K H ((putF f y fs).map (·.2)) ((putG f t ts).map (·.2)) (Uni A B)
  | [], [], A, _, _, d => ⟨rfl, ry.one.weak Sub.r⟩
  | [], _ :: _, _, e, _, _ => by simp at e
  | _ :: _, [], _, e, _, _ => by simp at e
  | (g, v) :: fs, (g', s) :: ts, A, e, r, d => by
    simp only [List.map_cons, List.cons.injEq] at e
    obtain ⟨e1, e2⟩ := e
    subst e1
    cases r with
    | cons h1 h2 s1 s2 dd =>
      unfold putF putG
      by_cases c : g = f
      · rw [if_pos c, if_pos c]
        exact ⟨by rw [List.map_cons, List.map_cons, e2], .cons ry h2 Sub.r (s2.trans Sub.l) fun q a b => d q (s2 q b) a⟩
      · rw [if_neg c, if_neg c]
        obtain ⟨i1, i2⟩ := rpf_put ry e2 h2 (d.sub s2 Sub.rfl)
        exact ⟨by rw [List.map_cons, List.map_cons, i1], .cons h1 i2 (s1.trans Sub.l) (fun q z => z.elim (fun z => .inl (s2 q z)) .inr) fun q a b => b.elim (dd q a) fun b => d q (s1 q a) b⟩
def attrS (ok : Str → Bool) (f : Str) (qe : Ev → Re Ev T) (pl : Ev → Rs Pl) : Ev → Re Ev Fl := fun τ => (qe τ).bind fun t τ1 => (upE τ1 (pl τ1)).bind fun p _ => match mineAt τ1 p with
  | some (.ins C fs) => if ok C = true ∧ fs.length < 1000 then .ok .nx (setAt τ1 p (.ins C (putG f t fs))) else .bad
  | _ => .bad
theorem sm_attrS {fa : List He.Fa} {f : Str} (he : SmE K W te qe) (hl : SmL K W to pl) : SmS K W (sAttr K fa to te f) (attrS (attrOk fa f) f qe pl) := fun R π σ τ H A D S z => by
  unfold attrS at z
  rw [Re.post_bind] at z
  refine he R π σ τ H A _ S (Re.post_mono z (fun t τ1 q v H1 A1 B1 S1 r1 d1 dR1 m1 s1 => ?_) fun x τ1 q => ExT.s q)
  rw [Re.post_bind] at q
  refine hl σ τ1 H1 _ S1.r (Rs.post_mono (upE_post q) (fun p q v0 w H2 x ev rc => ?_) fun x q => (ExT.step q (s1.sub Sub.l)).r S1)
  split at q
  · rename_i C fs e
    split at q
    · rename_i c
      have S2 := S1.ext x
      obtain ⟨Bu, ru, mu, dj, pf⟩ := put_frame (H := H) S2 ev rc e d1 dR1 (u' := .ins C (putG f t fs)) (Q := fun H3 => D.nx σ H3) fun H' A' S' s => q σ H' A' S' (s1.trans ((Step.ext (A := Uni A1 B1) x).trans s))
      cases ru with
      | @ins a _ dx vs _ _ Af m h s ee rr =>
        have ok := c.1
        unfold attrOk at ok
        rw [Bool.and_eq_true] at ok
        have nv : ∀ q, B1 q → q ≠ a := fun q z e => dj q (by rw [e]; exact m) z
        obtain ⟨i1, i2⟩ := rpf_put (f := f) (r1.mono x.kp) ee rr (dj.sub (fun q z => (s q z).1) Sub.rfl)
        have ll : vs.length < 1000 := by
          have := congrArg List.length ee
          simp only [List.length_map] at this
          rw [this]
          exact c.2
        refine ⟨a, C, dx, vs, rfl, h, ok.1, ok.2, ll, ?_⟩
        exact pf _ (fun q => Bu q ∨ B1 q) (Ext.set m) (.ins (.inl m) upd_same (A1 := Uni Af B1) (fun q z => z.elim (fun z => ⟨.inl (s q z).1, (s q z).2⟩) fun z => ⟨.inr z, nv q z⟩) i1 (i2.mono (kp_set (mu a m) fun q z => z.elim (fun z => (s q z).2) (nv q)))) (fun q z => z)
          fun q z => upd_mt (.inr (.inr ⟨_, _, _, upd_same⟩)) (B := fun q => Bu q ∨ B1 q) (fun q z => z.elim (mu q) fun z => mt_ext x (m1 q z)) q (.inl z)
    · exact q.elim
  · exact q.elim
/-! a, b = e1, e2 -/
def setN2 (i j : Nat) (qA : Ev → Re Ev (List T)) : Ev → Re Ev Fl := fun τ => (qA τ).bind fun ts τ1 => match ts with
  | [t, u] => match setN i t τ1 with
    | .ok τ2 => match setN j u τ2 with
      | .ok τ3 => .ok .nx τ3
      | _ => .bad
    | _ => .bad
  | _ => .bad
theorem setN_ok {i : Nat} {t : T} {τ τ' : Ev} (h : setN i t τ = .ok τ') : ∃ s, τ[i]? = some s ∧ s.isPar = false ∧ τ' = τ.set i (.own t) := by
  unfold setN at h
  split at h
  · rename_i s e
    split at h
    · cases h
    · rename_i hp
      cases h
      exact ⟨s, e, by simpa using hp, rfl⟩
  · cases h
theorem sm_par {i j : Nat} (hA : SmAE K W tA qA) : SmS K W (tPar i j tA) (setN2 i j qA) := fun R π σ τ H A D S z => by
  unfold setN2 at z
  rw [Re.post_bind] at z
  refine hA R π σ τ H A _ S (Re.post_mono z (fun ts τ1 q vs H1 A1 B1 S1 r1 d1 dR1 m1 s1 => ?_) fun x τ1 q => ExT.s q)
  split at q
  · rename_i t u
    split at q
    · rename_i τ2 e2
      split at q
      · rename_i τ3 e3
        obtain ⟨s, es, hp, rfl⟩ := setN_ok e2
        obtain ⟨s', es', hp', rfl⟩ := setN_ok e3
        cases r1 with
        | cons h1 h2 b1 b2 dd =>
          cases h2 with
          | cons h3 h4 b3 b4 dd2 =>
            cases h4
            have Sa := S1.asg es hp h1 (d1.sub Sub.rfl b1) (dR1.sub Sub.rfl b1) fun q z => m1 q (b1 q z)
            have Sb := Sa.asg es' hp' h3 (fun q a b => a.elim (fun a => d1 q a (b2 q (b3 q b))) fun a => dd q a (b3 q b)) (dR1.sub Sub.rfl (b3.trans b2)) fun q z => m1 q (b2 q (b3 q z))
            refine ⟨_, _, rfl, q _ H1 _ Sb ⟨s1.x, fun q z => s1.g q ?_⟩⟩
            rcases z with (z | z) | z
            · exact .inl z
            · exact .inr (b1 q z)
            · exact .inr (b2 q (b3 q z))
      · exact q.elim
    · exact q.elim
  · exact q.elim
def setN3 (i j l : Nat) (qA : Ev → Re Ev (List T)) : Ev → Re Ev Fl := fun τ => (qA τ).bind fun ts τ1 => match ts with
  | [t, u, w] => match setN i t τ1 with
    | .ok τ2 => match setN j u τ2 with
      | .ok τ3 => match setN l w τ3 with
        | .ok τ4 => .ok .nx τ4
        | _ => .bad
      | _ => .bad
    | _ => .bad
  | _ => .bad
theorem sm_par3 {i j l : Nat} (hA : SmAE K W tA qA) : SmS K W (tPar3 i j l tA) (setN3 i j l qA) := fun R π σ τ H A D S z => by
  unfold setN3 at z
  rw [Re.post_bind] at z
  refine hA R π σ τ H A _ S (Re.post_mono z (fun ts τ1 q vs H1 A1 B1 S1 r1 d1 dR1 m1 s1 => ?_) fun x τ1 q => ExT.s q)
  split at q
  · rename_i t u w
    split at q
    · rename_i τ2 e2
      split at q
      · rename_i τ3 e3
        split at q
        · rename_i τ4 e4
          obtain ⟨s, es, hp, rfl⟩ := setN_ok e2
          obtain ⟨s', es', hp', rfl⟩ := setN_ok e3
          obtain ⟨s'', es'', hp'', rfl⟩ := setN_ok e4
          cases r1 with
          | cons h1 h2 b1 b2 dd =>
            cases h2 with
            | cons h3 h4 b3 b4 dd2 =>
              cases h4 with
              | cons h5 h6 b5 b6 dd3 =>
                cases h6
                have Sa := S1.asg es hp h1 (d1.sub Sub.rfl b1) (dR1.sub Sub.rfl b1) fun q z => m1 q (b1 q z)
                have Sb := Sa.asg es' hp' h3 (fun q a b => a.elim (fun a => d1 q a (b2 q (b3 q b))) fun a => dd q a (b3 q b)) (dR1.sub Sub.rfl (b3.trans b2)) fun q z => m1 q (b2 q (b3 q z))
                have Sc := Sb.asg es'' hp'' h5 (fun q a b => a.elim (fun a => a.elim (fun a => d1 q a (b2 q (b4 q (b5 q b)))) fun a => dd q a (b4 q (b5 q b))) fun a => dd2 q a (b5 q b)) (dR1.sub Sub.rfl ((b5.trans b4).trans b2)) fun q z => m1 q (b2 q (b4 q (b5 q z)))
                refine ⟨_, _, _, rfl, q _ H1 _ Sc ⟨s1.x, fun q z => s1.g q ?_⟩⟩
                rcases z with ((z | z) | z) | z
                · exact .inl z
                · exact .inr (b1 q z)
                · exact .inr (b2 q (b3 q z))
                · exact .inr (b2 q (b4 q (b5 q z)))
        · exact q.elim
      · exact q.elim
    · exact q.elim
  · exact q.elim
/-- one of two readings -/
theorem sm_sorL (h : SmS K W t qt) : SmS K W (tSor t u) qt := fun R π σ τ H A D S z => .inl (h R π σ τ H A D S z)
theorem sm_sorR (h : SmS K W u qu) : SmS K W (tSor t u) qu := fun R π σ τ H A D S z => .inr (h R π σ τ H A D S z)
def neverS : Ev → Re Ev Fl := fun _ => .bad
theorem sm_never : SmS K W tNever neverS := fun R π σ τ H A D S z => z.elim
end
end Rw

namespace Rw
open PySem PySem.Spec PyProof.Rows L2
section
variable {K : PySem.W.Frag} {W : WX} {R : Nat → Sa} {π : Nat → V} {te : TE} {pe : Ev → Rs T} {t u : TS} {qt qu : Ev → Re Ev Fl} {c : TT} {qc : Ev → Re Ev Bool}
/-! ### loops -/
def iterW (qc : Ev → Re Ev Bool) (qs : Ev → Re Ev Fl) : Nat → Ev → Re Ev Fl
  | 0, _ => .bad
  | n + 1, τ => (qc τ).bind fun b τ1 => if b = true then (qs τ1).bind fun f τ2 => match f with
      | .nx => iterW qc qs n τ2
      | .ct => iterW qc qs n τ2
      | .bk => .ok .nx τ2
      | .rt t => .ok (.rt t) τ2
    else .ok .nx τ1
open Classical in
noncomputable def whileS (qc : Ev → Re Ev Bool) (qs : Ev → Re Ev Fl) : Ev → Re Ev Fl := fun τ => if h : ∃ n, iterW qc qs n τ ≠ .bad then iterW qc qs h.choose τ else .bad
theorem iterW_up {qs : Ev → Re Ev Fl} : ∀ {n : Nat} {τ : Ev}, iterW qc qs n τ ≠ .bad → iterW qc qs (n + 1) τ = iterW qc qs n τ
  | 0, _, h => absurd rfl h
  | n + 1, τ, h => by
    unfold iterW at h ⊢
    cases e : qc τ with
    | bad => rfl
    | exc x s => rfl
    | ok b τ1 =>
      rw [e] at h
      show (if b = true then _ else _) = (if b = true then _ else _)
      cases b with
      | false => rfl
      | true =>
        rw [if_pos rfl, if_pos rfl]
        have h : ((qs τ1).bind fun f τ2 => match f with
          | .nx => iterW qc qs n τ2
          | .ct => iterW qc qs n τ2
          | .bk => .ok .nx τ2
          | .rt t => .ok (.rt t) τ2) ≠ .bad := h
        cases e2 : qs τ1 with
        | bad => rfl
        | exc x s => rfl
        | ok f τ2 =>
          rw [e2] at h
          cases f with
          | nx => exact iterW_up h
          | ct => exact iterW_up h
          | bk => rfl
          | rt t => rfl
theorem iterW_le {qs : Ev → Re Ev Fl} {n : Nat} {τ : Ev} (h : iterW qc qs n τ ≠ .bad) : ∀ k, iterW qc qs (n + k) τ = iterW qc qs n τ
  | 0 => rfl
  | k + 1 => by
    have ih := iterW_le h k
    rw [← ih]
    exact iterW_up (n := n + k) (by rw [ih]; exact h)
theorem whileS_of {qs : Ev → Re Ev Fl} {n : Nat} {τ : Ev} (h : iterW qc qs n τ ≠ .bad) : whileS qc qs τ = iterW qc qs n τ := by
  have hx : ∃ n, iterW qc qs n τ ≠ .bad := ⟨n, h⟩
  unfold whileS
  rw [dif_pos hx]
  have h2 := hx.choose_spec
  rw [← iterW_le h2 n, ← iterW_le h hx.choose, Nat.add_comm]
theorem while_step {qs : Ev → Re Ev Fl} {τ : Ev} : whileS qc qs τ = (qc τ).bind fun b τ1 => if b = true then (qs τ1).bind fun f τ2 => match f with
      | .nx => whileS qc qs τ2
      | .ct => whileS qc qs τ2
      | .bk => .ok .nx τ2
      | .rt t => .ok (.rt t) τ2
    else .ok .nx τ1 := by
  by_cases h : ∃ n, iterW qc qs n τ ≠ .bad
  · obtain ⟨n, h⟩ := h
    rw [whileS_of h]
    cases n with
    | zero => exact absurd rfl h
    | succ n =>
      unfold iterW at h ⊢
      cases e : qc τ with
      | bad => rfl
      | exc x s => rfl
      | ok b τ1 =>
        rw [e] at h
        cases b with
        | false => rfl
        | true =>
          show (qs τ1).bind _ = (qs τ1).bind _
          have h : ((qs τ1).bind fun f τ2 => match f with
            | .nx => iterW qc qs n τ2
            | .ct => iterW qc qs n τ2
            | .bk => .ok .nx τ2
            | .rt t => .ok (.rt t) τ2) ≠ .bad := h
          cases e2 : qs τ1 with
          | bad => rfl
          | exc x s => rfl
          | ok f τ2 =>
            rw [e2] at h
            cases f with
            | nx => exact (whileS_of h).symm
            | ct => exact (whileS_of h).symm
            | bk => rfl
            | rt t => rfl
  · have key : ∀ τ', (∀ n, iterW qc qs n τ' = .bad) → whileS qc qs τ' = .bad := fun τ' z => by
      unfold whileS
      rw [dif_neg]
      rintro ⟨n, q⟩
      exact q (z n)
    have hz : ∀ n, iterW qc qs n τ = .bad := fun n => Classical.byContradiction fun z => h ⟨n, z⟩
    rw [key τ hz]
    cases e : qc τ with
    | bad => rfl
    | exc x s =>
      have := hz 1
      unfold iterW at this
      rw [e] at this
      cases this
    | ok b τ1 =>
      cases b with
      | false =>
        have := hz 1
        unfold iterW at this
        rw [e] at this
        cases this
      | true =>
        show Re.bad = (qs τ1).bind _
        cases e2 : qs τ1 with
        | bad => rfl
        | exc x s =>
          have := hz 1
          unfold iterW at this
          rw [e] at this
          have this : ((qs τ1).bind _ : Re Ev Fl) = .bad := this
          rw [e2] at this
          cases this
        | ok f τ2 =>
          have z2 : ∀ n, (match f with
            | .nx => iterW qc qs n τ2
            | .ct => iterW qc qs n τ2
            | .bk => .ok .nx τ2
            | .rt t => .ok (.rt t) τ2 : Re Ev Fl) = .bad := fun n => by
            have := hz (n + 1)
            unfold iterW at this
            rw [e] at this
            have this : ((qs τ1).bind _ : Re Ev Fl) = .bad := this
            rw [e2] at this
            exact this
          cases f with
          | nx => exact (key τ2 z2).symm
          | ct => exact (key τ2 z2).symm
          | bk => exact absurd (z2 0) (fun z => nomatch z)
          | rt t => exact absurd (z2 0) (fun z => nomatch z)
theorem sm_while (hc : SmTE K W c qc) (hs : SmS K W t qt) : SmS K W (tWhile c t) (whileS qc qt) := fun R π σ τ H A D S z => by
  obtain ⟨n, hn, e⟩ : ∃ n, iterW qc qt n τ ≠ .bad ∧ whileS qc qt τ = iterW qc qt n τ := by
    by_cases h : ∃ n, iterW qc qt n τ ≠ .bad
    · obtain ⟨n, h⟩ := h
      exact ⟨n, h, whileS_of h⟩
    · unfold whileS at z
      rw [dif_neg h] at z
      exact z.elim
  rw [e] at z
  refine ⟨fun m σ' H' => ∃ τ' A', Stt K R π H' σ' τ' A' ∧ Step A H A' H' ∧ (iterW qc qt m τ').post (OkS K R π H A D) (ExT K R π W H A), ⟨n, τ, A, S, Step.rfl, z⟩, fun m σ' H' ⟨τ', A', S', s, q⟩ => ?_⟩
  cases m with
  | zero => exact q.elim
  | succ m =>
    unfold iterW at q
    rw [Re.post_bind] at q
    refine hc R π σ' τ' H' A' _ S' (Re.post_mono q (fun b τ1 q H1 A1 S1 s1 => ?_) fun x τ1 q => ExT.s (ExT.step q s))
    have s01 := s.trans s1
    cases b with
    | false =>
      rw [if_neg Bool.false_ne_true]
      exact q σ' H1 A1 S1 s01
    | true =>
      rw [if_pos rfl]
      rw [if_pos rfl, Re.post_bind] at q
      refine ⟨fun σ' H' => ∃ τ' A', Stt K R π H' σ' τ' A' ∧ Step A H A' H' ∧ (iterW qc qt m τ').post (OkS K R π H A D) (ExT K R π W H A), fun σ2 H2 z => ⟨m, Nat.lt_succ_self m, z⟩, ?_⟩
      refine hs R π σ' τ1 H1 A1 _ S1 (Re.post_mono q (fun f τ2 q => ?_) fun x τ2 q => ExT.step q s01)
      cases f with
      | nx => exact fun σ2 H2 A2 S2 s2 => ⟨τ2, A2, S2, s01.trans s2, q⟩
      | ct => exact fun σ2 H2 A2 S2 s2 => ⟨τ2, A2, S2, s01.trans s2, q⟩
      | bk => exact fun σ2 H2 A2 S2 s2 => q σ2 H2 A2 S2 (s01.trans s2)
      | rt t => exact fun v σ2 H2 A2 B S2 r d dR m s2 => q v σ2 H2 A2 B S2 r d dR m (s01.trans s2)
def forGo (pg : T → Ev → Rs Ev) (qs : Ev → Re Ev Fl) : List T → Ev → Re Ev Fl
  | [], τ => .ok .nx τ
  | x :: xs, τ => match pg x τ with
    | .ok τ1 => (qs τ1).bind fun f τ2 => match f with
      | .nx => forGo pg qs xs τ2
      | .ct => forGo pg qs xs τ2
      | .bk => .ok .nx τ2
      | .rt t => .ok (.rt t) τ2
    | _ => .bad
theorem imL_mem : ∀ {ts : List T} {t : T}, T.imL ts = true → t ∈ ts → t.im = true
  | x :: xs, t, h, hm => by
    simp only [T.imL, Bool.and_eq_true] at h
    rcases List.mem_cons.mp hm with e | e
    · rw [e]; exact h.1
    · exact imL_mem h.2 e
/-- the turns of a loop over things that aren't written in it -/
theorem for_run {g : TG} {pg : T → Ev → Rs Ev} {J : It} {C : Sa} {xs : List T} {σ : L2.St} {τ : Ev} {H1 : Hp} {A : Sa} {D : Ends} (hg : SmG K g pg) (hs : SmS K W t qt) (S : Stt K R π H1 σ τ A) (tl : TellsT K C J xs H1) (dC : Dj C A) (im : T.imL xs = true)
    (z : (forGo pg qt xs τ).post (OkS K R π H1 A D) (ExT K R π W H1 A)) : ∃ W' : Nat → Nat → L2.St → Hp → Prop, (∃ m, W' 0 m σ H1) ∧ ∀ i m σ H, W' i m σ H →
      (J.stop i H ∧ D.nx σ H) ∨ (J.go i H ∧ ∃ N : L2.St → Hp → Prop, (∀ σ' H', N σ' H' → ∃ m', m' < m ∧ W' (i + 1) m' σ' H') ∧ ∀ x H', J.yld i H x H' → g x σ H' fun σ2 H2 => t { D with nx := N, ct := N, bk := D.nx } σ2 H2) := by
  refine ⟨fun i m σ' H' => i + m = xs.length ∧ ∃ τ' A', Stt K R π H' σ' τ' A' ∧ Step A H1 A' H' ∧ (forGo pg qt (xs.drop i) τ').post (OkS K R π H1 A D) (ExT K R π W H1 A), ⟨xs.length, Nat.zero_add _, τ, A, S, Step.rfl, z⟩, fun i m σ' H' ⟨hm, τ', A', S', s, q⟩ => ?_⟩
  have kp : Kp K C H1 H' := s.x.kpM S.mA dC
  have tt := tl i H' kp (s.x.fkM S.mA)
  cases m with
  | zero =>
    have e : i = xs.length := hm
    refine .inl ⟨tt.2 (by omega), ?_⟩
    rw [e, List.drop_length] at q
    exact q σ' H' A' S' s
  | succ m =>
    have hk : i < xs.length := by omega
    obtain ⟨go, yl⟩ := tt.1 _ (List.getElem?_eq_getElem hk)
    rw [List.drop_eq_getElem_cons hk] at q
    unfold forGo at q
    refine .inr ⟨go, fun σ' H' => ∃ τ' A', Stt K R π H' σ' τ' A' ∧ Step A H1 A' H' ∧ (forGo pg qt (xs.drop (i + 1)) τ').post (OkS K R π H1 A D) (ExT K R π W H1 A), fun σ2 H2 z => ⟨m, Nat.lt_succ_self m, by omega, z⟩, fun x H2 hy => ?_⟩
    obtain ⟨x2, rx⟩ := yl x H2 hy
    have S2 := S'.ext x2
    cases e : pg xs[i] τ' with
    | exc _ => rw [e] at q; exact q.elim
    | bad => rw [e] at q; exact q.elim
    | ok τ1 =>
      rw [e] at q
      have q : ((qt τ1).bind _).post _ _ := q
      rw [Re.post_bind] at q
      refine hg R π σ' τ' H2 A' x xs[i] noM _ S2 (rx.im (imL_mem im (List.getElem_mem hk))) dj_noM dj_noM (fun _ h => h.elim) (Rs.post_eq e fun σ3 H3 A3 S3 s3 => ?_)
      have s13 : Step A H1 A3 H3 := (s.trans (Step.ext x2)).trans ⟨fun q o n e => s3.x q o (fun z => z.elim n fun z => z.elim) e, fun q z => (s3.g q z).elim (fun z => .inl (z.elim id fun z => z.elim)) .inr⟩
      refine hs R π σ3 τ1 H3 A3 _ S3 (Re.post_mono q (fun f τ2 q => ?_) fun x τ2 q => ExT.step q s13)
      cases f with
      | nx => exact fun σ2 H2 A2 S2 s2 => ⟨τ2, A2, S2, s13.trans s2, q⟩
      | ct => exact fun σ2 H2 A2 S2 s2 => ⟨τ2, A2, S2, s13.trans s2, q⟩
      | bk => exact fun σ2 H2 A2 S2 s2 => q σ2 H2 A2 S2 (s13.trans s2)
      | rt t => exact fun v σ2 H2 A2 B S2 r d dR m s2 => q v σ2 H2 A2 B S2 r d dR m (s13.trans s2)
/-- over nothing -/
theorem for_nil {g : TG} {t : TS} {J : It} {C : Sa} {σ : L2.St} {H1 : Hp} {D : Ends} (tl : TellsT K C J [] H1) (z : D.nx σ H1) : ∃ W' : Nat → Nat → L2.St → Hp → Prop, (∃ m, W' 0 m σ H1) ∧ ∀ i m σ H, W' i m σ H →
  (J.stop i H ∧ D.nx σ H) ∨ (J.go i H ∧ ∃ N : L2.St → Hp → Prop, (∀ σ' H', N σ' H' → ∃ m', m' < m ∧ W' (i + 1) m' σ' H') ∧ ∀ x H', J.yld i H x H' → g x σ H' fun σ2 H2 => t { D with nx := N, ct := N, bk := D.nx } σ2 H2) :=
  ⟨fun i m σ' H' => i = 0 ∧ σ' = σ ∧ H' = H1, ⟨0, rfl, rfl, rfl⟩, fun i m σ' H' h => by
    obtain ⟨rfl, rfl, rfl⟩ := h
    exact .inl ⟨(tl 0 _ (Ext.rfl.kp) (Ext.rfl.fk)).2 (Nat.le_refl _), z⟩⟩
def forS (pi : Ev → Rs (List T)) (pg : T → Ev → Rs Ev) (qs : Ev → Re Ev Fl) : Ev → Re Ev Fl := fun τ => (upE τ (pi τ)).bind fun xs _ => if T.imL xs = true then forGo pg qs xs τ else .bad
theorem sm_for {wi : TI} {pi : Ev → Rs (List T)} {g : TG} {pg : T → Ev → Rs Ev} (hi : SmIF K W wi pi) (hg : SmG K g pg) (hs : SmS K W t qt) : SmS K W (tFor wi g t) (forS pi pg qt) := fun R π σ τ H A D S z => by
  unfold forS at z
  rw [Re.post_bind] at z
  refine hi σ τ H _ S.r (Rs.post_mono (upE_post z) (fun xs q J H1 C x tl nw => ?_) fun x q => ExT.r S q)
  split at q
  · rename_i im
    exact for_run hg hs (S.ext x) tl (fun q c a => (mt_no (S.mA q a)).2.2 (nw q c)) im (Re.post_mono q (fun f τ q => q.step (Step.ext x)) fun _ _ q => ExT.step q (Step.ext x))
  · exact q.elim
/-! ### a def's frame -/
def entry (modes ow : List Bool) (ts : List T) (n : Nat) : Ev := (ts.zipIdx.map fun p => if modes.getD p.2 false = true then (if ow.getD p.2 false = true then Sl.own p.1 else .par p.1) else .bor p.1) ++ List.replicate (n - ts.length) .no
def Sl.out : Option Sl → T
  | some (.par t) => t
  | _ => .any
def outs (k : Nat) (τ : Ev) : List T := (List.range k).map fun i => Sl.out (τ[i]?)
def runF (modes ow : List Bool) (n : Nat) (qs : Ev → Re Ev Fl) (ts : List T) : Re (List T) T := match qs (entry modes ow ts n) with
  | .ok .nx τ => .ok .non (outs ts.length τ)
  | .ok (.rt t) τ => .ok t (outs ts.length τ)
  | .exc x τ => .exc x (outs ts.length τ)
  | _ => .bad
structure ArgOk (K : PySem.W.Frag) (H : Hp) (modes : List Bool) (vs : List V) (ts : List T) (A : Sa) : Prop where
  len : vs.length = ts.length
  P : ∃ P : Nat → Sa, (∀ i, Sub (P i) A) ∧ (∀ i j, i ≠ j → Dj (P i) (P j)) ∧ ∀ i v t, vs[i]? = some v → ts[i]? = some t → Rp K H v t (if modes.getD i false = true then P i else fun q => At H q ∧ ¬ A q)
  mA : ∀ q, A q → Mt H q
structure OutOk (K : PySem.W.Frag) (H : Hp) (modes : List Bool) (vs : List V) (ts : List T) (A : Sa) : Prop where
  len : ts.length = vs.length
  P : ∃ P : Nat → Sa, (∀ i, Sub (P i) A) ∧ (∀ i j, i ≠ j → Dj (P i) (P j)) ∧ ∀ i v t, modes.getD i false = true → vs[i]? = some v → ts[i]? = some t → Rp K H v t (P i)
  mA : ∀ q, A q → Mt H q
abbrev OkC (K : PySem.W.Frag) (modes : List Bool) (vs : List V) (H : Hp) (A : Sa) (Q : VK) (r : T) (ts' : List T) : Prop := ∀ v H' A' B, OutOk K H' modes vs ts' A' → Rp K H' v r B → Dj A' B → (∀ q, B q → Mt H' q) → Step A H (Uni A' B) H' → Q v H'
abbrev ExC (K : PySem.W.Frag) (modes : List Bool) (vs : List V) (H : Hp) (A : Sa) (E : XK) (x : Xc) (ts' : List T) : Prop := ∀ cls d H' A', OutOk K H' modes vs ts' A' → RpX K H' cls d x → Step A H A' H' → E cls d H'
def SpF (K : PySem.W.Frag) (sp : Sp) (modes : List Bool) (pf : List T → Re (List T) T) : Prop := ∀ vs ts H A Q E, ArgOk K H modes vs ts A → (pf ts).post (OkC K modes vs H A Q) (ExC K modes vs H A E) → sp vs H Q E
theorem entry_at {modes ow : List Bool} {ts : List T} {n i : Nat} {s : Sl} (e : (entry modes ow ts n)[i]? = some s) : (∃ t, ts[i]? = some t ∧ s = if modes.getD i false = true then (if ow.getD i false = true then Sl.own t else .par t) else .bor t) ∨ s = .no := by
  unfold entry at e
  by_cases h : i < ts.length
  · rw [List.getElem?_append_left (by simpa using h)] at e
    left
    refine ⟨ts[i], List.getElem?_eq_getElem h, ?_⟩
    rw [List.getElem?_map, List.getElem?_zipIdx, List.getElem?_eq_getElem h] at e
    simp at e
    exact e.symm
  · rw [List.getElem?_append_right (by simpa using Nat.le_of_not_lt h)] at e
    right
    rw [List.getElem?_replicate] at e
    split at e
    · exact (Option.some.inj e).symm
    · cases e
theorem start_at {N : List Str} {vs : List V} {i : Nat} {v : V} (e : vs[i]? = some v) : (L2.start N vs)[i]? = some (some v) := by
  unfold L2.start
  have h := (List.getElem?_eq_some_iff.mp e).1
  rw [List.getElem?_append_left (by simpa using h), List.getElem?_map, e]
  rfl
theorem entry_stt {H : Hp} {modes ow : List Bool} {vs : List V} {ts : List T} {A : Sa} {N : List Str} (h : ArgOk K H modes vs ts A) : Stt K (fun _ q => At H q ∧ ¬ A q) (fun i => nth vs i) H (L2.start N vs) (entry modes ow ts N.length) A := by
  obtain ⟨l, ⟨P, h1, h2, h3⟩, m⟩ := h
  refine ⟨?_, ⟨P, h1, h2, fun i s e => ?_⟩, fun q ⟨_, z⟩ a => z.2 a, fun q ⟨_, z⟩ => z.1, m⟩
  · unfold entry L2.start
    simp only [List.length_append, List.length_map, List.length_zipIdx, List.length_replicate, l]
    exact Nat.le_refl _
  · rcases entry_at e with ⟨t, et, rfl⟩ | rfl
    · have hi : i < vs.length := by
        rw [l]
        exact (List.getElem?_eq_some_iff.mp et).1
      have ev : vs[i]? = some vs[i] := List.getElem?_eq_getElem hi
      have r := h3 i _ t ev et
      by_cases c : modes.getD i false = true
      · rw [if_pos c] at r ⊢
        have en : nth vs i = vs[i] := by rw [nth_at, List.getD_eq_getElem?_getD, ev]; rfl
        by_cases oo : ow.getD i false = true
        · rw [if_pos oo]
          exact ⟨_, start_at ev, r⟩
        rw [if_neg oo]
        refine ⟨?_, ?_⟩
        · show (L2.start N vs)[i]? = some (some (nth vs i))
          rw [start_at ev, en]
        · show Rp K H (nth vs i) t (P i)
          rw [en]
          exact r
      · rw [if_neg c] at r ⊢
        exact ⟨_, start_at ev, r⟩
    · exact True.intro
theorem outs_ok {H : Hp} {modes : List Bool} {vs : List V} {σ : L2.St} {τ : Ev} {A : Sa} (S : Stt K R (fun i => nth vs i) H σ τ A) : OutOk K H modes vs (outs vs.length τ) A := by
  obtain ⟨l, ⟨P, h1, h2, h3⟩, _, _, m⟩ := S
  refine ⟨by simp [outs], ⟨P, h1, h2, fun i v t hm ev et => ?_⟩, m⟩
  have hi := (List.getElem?_eq_some_iff.mp ev).1
  unfold outs at et
  rw [List.getElem?_map, List.getElem?_range hi] at et
  have et : Sl.out (τ[i]?) = t := Option.some.inj et
  cases e : τ[i]? with
  | none =>
    rw [e] at et
    subst et
    exact .any
  | some s =>
    rw [e] at et
    have z := h3 i _ e
    cases s with
    | par t' =>
      subst et
      have en : nth vs i = v := by rw [nth_at, List.getD_eq_getElem?_getD, ev]; rfl
      rw [← en]
      exact z.2
    | _ => subst et; exact .any
/-- a def's promise, from its body's -/
theorem spF_of {es : List Ent} {n : Nat} {k : Ky} {en : Ent} {modes ow : List Bool} {qs : Ev → Re Ev Fl} (e : entOf es k = some en) (hb : ∀ W, SmS K W (en.T K (lev K es n) W) qs) :
    SpF K (lev K es (n + 1) k) modes (fun ts => if ts.length = en.ps.length then runF modes ow en.N.length qs ts else .bad) := fun vs ts H A Q E h z => by
  dsimp only at z
  split at z
  · rename_i l
    refine lev_in e (h.len.trans l) ?_
    unfold runF at z
    refine hb _ _ _ _ _ _ _ _ (entry_stt (ow := ow) h) ?_
    rw [← h.len] at z
    cases eq : qs (entry modes ow ts en.N.length) with
    | bad => rw [eq] at z; exact z.elim
    | exc x τ =>
      rw [eq] at z
      exact fun cls d σ' H' A' S r s => z cls d H' A' (outs_ok S) r s
    | ok f τ =>
      rw [eq] at z
      cases f with
      | nx => exact fun σ' H' A' S s => z .non H' A' noM (outs_ok S) .non dj_noM (fun _ h => h.elim) ⟨s.x, fun q z => z.elim (s.g q) fun z => z.elim⟩
      | bk => exact z.elim
      | ct => exact z.elim
      | rt t => exact fun v σ' H' A' B S r d dR m s => z v H' A' B (outs_ok S) r d m s
  · exact z.elim
/-- a def that changes nothing -/
def roF (pf : List T → Re (List T) T) : List T → Rs T := fun ts => match pf ts with
  | .ok r _ => .ok r
  | .exc x _ => .exc x
  | .bad => .bad
theorem SpF.ro {sp : Sp} {pf : List T → Re (List T) T} {modes : List Bool} (h : SpF K sp modes pf) (hm : modes = []) : SpR K sp (roF pf) := fun vs ts H Q E he z => by
  subst hm
  refine h vs ts H noM Q E ⟨Paired.length he, ⟨fun _ => noM, fun _ => noM_sub, fun _ _ _ => noM_dj, fun i v t ev et => ?_⟩, fun _ h => h.elim⟩ ?_
  · rw [if_neg (by simp)]
    have : ∃ B, Rp K H v t B := by
      clear z h
      induction he generalizing i with
      | nil => simp at ev
      | cons a _ ih =>
        cases i with
        | zero =>
          simp at ev et
          subst ev et
          exact a
        | succ i => exact ih i (by simpa using ev) (by simpa using et)
    obtain ⟨B, r⟩ := this
    exact r.at_.weak fun q z => ⟨z.2, fun h => h.elim⟩
  · unfold roF at z
    cases e : pf ts with
    | bad => rw [e] at z; exact z.elim
    | exc x s =>
      rw [e] at z
      exact fun cls d H' A' _ r s => z cls d H' s.x r
    | ok r s =>
      rw [e] at z
      exact fun v H' A' B _ rr d m s => z v H' B s.x rr fun q b => ⟨(s.g q (.inr b)).elim (fun h => h.elim) id, m q b⟩
end
end Rw

namespace Rw
open PySem PySem.Spec PyProof.Rows L2
section
variable {K : PySem.W.Frag} {W : WX} {R : Nat → Sa} {π : Nat → V} {te ta tb to ti : TE} {tA tK : TA} {pe : Ev → Rs T} {pA pK : Ev → Rs (List T)} {qe : Ev → Re Ev T} {pl : Ev → Rs Pl}
/-! ### a def that changes what it's handed, called -/
inductive Hd where
  | val (t : T) | plc (p : Pl)
inductive HdL (K : PySem.W.Frag) (H : Hp) (σ : L2.St) : List V → List Hd → Sa → Prop
  | nil {B} : HdL K H σ [] [] B
  | val {w ws t hs B B1 B2} (r : Rp K H w t B1) (rs : HdL K H σ ws hs B2) (s1 : Sub B1 B) (s2 : Sub B2 B) (d : Dj B1 B2) : HdL K H σ (w :: ws) (.val t :: hs) B
  | plc {v w ws p hs B} (e : σ[p.1]? = some (some v)) (rc : Rchs K H v p.2 w) (rs : HdL K H σ ws hs B) : HdL K H σ (w :: ws) (.plc p :: hs) B
theorem HdL.weak {H : Hp} {σ : L2.St} {ws : List V} {hs : List Hd} {B C : Sa} (h : HdL K H σ ws hs B) (s : Sub B C) : HdL K H σ ws hs C := by
  induction h generalizing C with
  | nil => exact .nil
  | val r rs s1 s2 d _ => exact .val r rs (s1.trans s) (s2.trans s) d
  | plc e rc _ ih => exact .plc e rc (ih s)
/-- arguments: what's read only ahead | what may change something -/
def SmCF (K : PySem.W.Frag) (W : WX) (ta : TA) (ca : Ev → Rs (List Hd)) : Prop := ∀ σ τ H (Q : List V → Hp → Prop), RpR K H σ τ → (ca τ).post (fun hs => ∀ vs H' B, Ext noM H H' → HdL K H' σ vs hs B → Fresh H H' B → Q vs H') (ExR K W H σ) → ta σ H Q
def SmCA (K : PySem.W.Frag) (W : WX) (ta : TA) (ca : Ev → Re Ev (List Hd)) : Prop := ∀ R π σ τ H A (Q : List V → Hp → Prop), Stt K R π H σ τ A →
  (ca τ).post (fun hs τ' => ∀ vs H' A' B, Stt K R π H' σ τ' A' → HdL K H' σ vs hs B → Dj A' B → Dj (RU R) B → (∀ q, B q → Mt H' q) → Step A H (Uni A' B) H' → Q vs H') (ExS K R π W σ H A) → ta σ H Q
def cnilF : Ev → Rs (List Hd) := fun _ => .ok []
def cvalF (pe : Ev → Rs T) (ca : Ev → Rs (List Hd)) : Ev → Rs (List Hd) := fun τ => (pe τ).bind fun t => (ca τ).bind fun hs => .ok (.val t :: hs)
def cplcF (pl : Ev → Rs Pl) (ca : Ev → Rs (List Hd)) : Ev → Rs (List Hd) := fun τ => (pl τ).bind fun p => (ca τ).bind fun hs => .ok (.plc p :: hs)
theorem HdL.ext {H H' : Hp} {σ : L2.St} {ws : List V} {hs : List Hd} {B : Sa} (h : HdL K H σ ws hs B) (x : Ext noM H H') : HdL K H' σ ws hs B := by
  induction h with
  | nil => exact .nil
  | val r rs s1 s2 d ih => exact .val (r.mono x.kp) ih s1 s2 d
  | plc e rc rs ih => exact .plc e (rc.ext x) ih
theorem sm_cf_nil : SmCF K W tNil cnilF := fun σ τ H Q h z => z [] H noM Ext.rfl .nil fresh_no
theorem sm_cf_val {ca : Ev → Rs (List Hd)} (he : SmF K W te pe) (hA : SmCF K W tA ca) : SmCF K W (tCons te tA) (cvalF pe ca) := fun σ τ H Q h z => by
  unfold cvalF at z
  rw [Rs.post_bind] at z
  refine he σ τ H _ h (Rs.post_mono z (fun t q v H1 B1 x r f => ?_) fun _ q => q)
  rw [Rs.post_bind] at q
  refine hA σ τ H1 _ (h.ext x) (Rs.post_mono q (fun hs q vs H2 B2 x2 r2 f2 => ?_) fun _ q => q.ext x)
  exact q (v :: vs) H2 (Uni B1 B2) (x.trans x2) (.val (r.mono x2.kp) r2 Sub.l Sub.r fun q a b => (mt_no (f q a).2).2.2 (f2 q b).1) fun q b => b.elim (fresh_ext f x2 q) (x.fr f2 q)
theorem sm_cf_plc {ca : Ev → Rs (List Hd)} (he : SmL K W te pl) (hA : SmCF K W tA ca) : SmCF K W (tCons te tA) (cplcF pl ca) := fun σ τ H Q h z => by
  unfold cplcF at z
  rw [Rs.post_bind] at z
  refine he σ τ H _ h (Rs.post_mono z (fun p q v w H1 x ev rc => ?_) fun _ q => q)
  rw [Rs.post_bind] at q
  refine hA σ τ H1 _ (h.ext x) (Rs.post_mono q (fun hs q vs H2 B2 x2 r2 f2 => ?_) fun _ q => q.ext x)
  exact q (w :: vs) H2 B2 (x.trans x2) (.plc ev (rc.ext x2) r2) (x.fr f2)
theorem SmCF.e {ca : Ev → Rs (List Hd)} (h : SmCF K W tA ca) : SmCA K W tA (upP ca) := fun R π σ τ H A Q S z =>
  h σ τ H Q S.r (Rs.post_mono (upE_post z) (fun t q v H' B x r f => q v H' A B (S.ext x) r (S.djN f).1 (S.djN f).2 (fun q b => (f q b).2) ((Step.ext x).more fun q b => (f q b).1)) fun x q => q.toR S)
def cnilE : Ev → Re Ev (List Hd) := fun τ => .ok [] τ
def cvalE (qe : Ev → Re Ev T) (ca : Ev → Re Ev (List Hd)) : Ev → Re Ev (List Hd) := fun τ => (qe τ).bind fun t τ1 => (ca τ1).bind fun hs τ2 => .ok (.val t :: hs) τ2
def cvarE (i : Nat) (ca : Ev → Re Ev (List Hd)) : Ev → Re Ev (List Hd) := fun τ => match varP i τ with
  | .ok _ => (ca τ).bind fun hs τ2 => .ok (.plc (i, []) :: hs) τ2
  | _ => .bad
theorem sm_ca_val {ca : Ev → Re Ev (List Hd)} (he : SmE K W te qe) (hA : SmCA K W tA ca) : SmCA K W (tCons te tA) (cvalE qe ca) := fun R π σ τ H A Q S z => by
  unfold cvalE at z
  rw [Re.post_bind] at z
  refine he R π σ τ H A _ S (Re.post_mono z (fun t τ1 q v H1 A1 B1 S1 r1 d1 dR1 m1 s1 => ?_) fun _ _ q => q)
  rw [Re.post_bind] at q
  refine hA R π σ τ1 H1 A1 _ S1 (Re.post_mono q (fun ts τ2 q vs H2 A2 B2 S2 r2 d2 dR2 m2 s2 => ?_) fun _ _ q => q.step (s1.sub Sub.l))
  have d12 : Dj B1 B2 := fun q a b => aside_dj m1 d1 s2 q (.inr b) a
  refine q (v :: vs) H2 A2 (Uni B1 B2) S2 (.val (aside r1 d1 S1.mA s2) r2 Sub.l Sub.r d12) (fun q a b => b.elim (fun b => aside_dj m1 d1 s2 q (.inl a) b) (d2 q a)) (fun q a b => b.elim (dR1 q a) (dR2 q a))
    (fun q b => b.elim (aside_mt m1 d1 s2 q) (m2 q)) ⟨((s1.sub Sub.l).trans s2).x, fun q z => ?_⟩
  rcases z with z | z | z
  · exact ((s1.sub Sub.l).trans s2).g q (.inl z)
  · exact s1.g q (.inr z)
  · exact ((s1.sub Sub.l).trans s2).g q (.inr z)
theorem sm_ca_var {ca : Ev → Re Ev (List Hd)} (i : Nat) (hA : SmCA K W tA ca) : SmCA K W (tCons (tVar i) tA) (cvarE i ca) := fun R π σ τ H A Q S z => by
  unfold cvarE at z
  split at z
  · rename_i x e
    obtain ⟨s, es, et⟩ := varP_ok e
    obtain ⟨v, B, ev, _⟩ := S.r.sl i s _ es et
    rw [Re.post_bind] at z
    exact ⟨v, ev, hA R π σ τ H A _ S (Re.post_mono z (fun hs τ2 q vs H2 A2 B2 S2 r2 d2 dR2 m2 s2 => q (v :: vs) H2 A2 B2 S2 (.plc ev .nil r2) d2 dR2 m2 s2) fun _ _ q => q)⟩
  · exact z.elim
/-! the places that the def may change are taken out of the frame, and put back -/
def strips (τ : Ev) : List Pl → Ev
  | [] => τ
  | p :: L => strips (τ.set p.1 .no) L
def takes (τ : Ev) : List Pl → Option (List T)
  | [] => some []
  | p :: L => (mineAt τ p).bind fun u => (takes (τ.set p.1 .no) L).map (u :: ·)
def backs (τ : Ev) : List Pl → List T → Ev
  | p :: L, u :: us => match τ[p.1]? with
    | some s => match s.mine with
      | some t => (backs (τ.set p.1 .no) L us).set p.1 (s.upd (setP t p.2 u))
      | none => τ
    | none => τ
  | _, _ => τ
/-- a slot of one's own, taken out -/
theorem Stt.take {H : Hp} {σ : L2.St} {τ : Ev} {A : Sa} (S : Stt K R π H σ τ A) {i : Nat} {s : Sl} {t : T} (e : τ[i]? = some s) (hm : s.mine = some t) : ∃ v B A', σ[i]? = some (some v) ∧ (s.isPar = true → v = π i) ∧ Rp K H v t B ∧ Stt K R π H σ (τ.set i .no) A' ∧ Dj A' B ∧ Sub B A ∧ Sub A' A := by
  obtain ⟨l, ⟨P, h1, h2, h3⟩, dR', a, mA⟩ := S
  have hi : i < τ.length := (List.getElem?_eq_some_iff.mp e).1
  obtain ⟨v, ev, hp, r⟩ : ∃ v, σ[i]? = some (some v) ∧ (s.isPar = true → v = π i) ∧ Rp K H v t (P i) := by
    have z := h3 i s e
    cases s with
    | own t' => cases hm; obtain ⟨v, a, b⟩ := z; exact ⟨v, a, (fun z => by cases z), b⟩
    | par t' => cases hm; exact ⟨_, z.1, fun _ => rfl, z.2⟩
    | _ => cases hm
  refine ⟨v, P i, fun q => A q ∧ ¬ P i q, ev, hp, r, ⟨by rw [List.length_set]; exact l, ⟨fun j => if j = i then noM else P j, fun j => ?_, fun j k ne => ?_, fun j s' e' => ?_⟩, fun q z y => dR' q z y.1, a, fun q z => mA q z.1⟩, fun q a b => a.2 b, h1 i, fun q z => z.1⟩
  · by_cases h : j = i
    · simp only [h, if_true]; exact noM_sub
    · simp only [h, if_false]; exact fun q z => ⟨h1 j q z, fun y => h2 i j (fun e => h e.symm) q y z⟩
  · by_cases hj : j = i
    · simp only [hj, if_true]; exact noM_dj
    · by_cases hk : k = i
      · simp only [hk, if_true]; exact dj_noM
      · simp only [hj, hk, if_false]; exact h2 j k ne
  · by_cases hj : i = j
    · subst hj
      rw [List.getElem?_set_self hi] at e'
      cases e'
      exact True.intro
    · rw [List.getElem?_set_ne hj] at e'
      have z := h3 j s' e'
      have hj' : ¬ j = i := fun z => hj z.symm
      simp only [hj', if_false]
      exact z
/-- .. put back -/
theorem Stt.give {H : Hp} {σ : L2.St} {τ : Ev} {A B : Sa} (S : Stt K R π H σ τ A) {i : Nat} {s : Sl} {v : V} {t : T} (e : τ[i]? = some .no) (hs : (∃ t0, s.mine = some t0)) (ev : σ[i]? = some (some v)) (hp : s.isPar = true → v = π i) (r : Rp K H v t B) (d : Dj A B) (dR : Dj (RU R) B) (m : ∀ q, B q → Mt H q) :
    Stt K R π H σ (τ.set i (s.upd t)) (Uni A B) := by
  obtain ⟨l, ⟨P, h1, h2, h3⟩, dR', a, mA⟩ := S
  have hi : i < τ.length := (List.getElem?_eq_some_iff.mp e).1
  refine ⟨by rw [List.length_set]; exact l, ⟨fun j => if j = i then B else P j, fun j => ?_, fun j k ne => ?_, fun j s' e' => ?_⟩, fun q z y => y.elim (dR' q z) (dR q z), a, fun q z => z.elim (mA q) (m q)⟩
  · by_cases h : j = i
    · simp only [h, if_true]; exact Sub.r
    · simp only [h, if_false]; exact (h1 j).trans Sub.l
  · by_cases hj : j = i
    · by_cases hk : k = i
      · exact absurd (hj.trans hk.symm) ne
      · simp only [hj, hk, if_true, if_false]; exact (d.sub (h1 k) Sub.rfl).symm
    · by_cases hk : k = i
      · simp only [hj, hk, if_true, if_false]; exact d.sub (h1 j) Sub.rfl
      · simp only [hj, hk, if_false]; exact h2 j k ne
  · by_cases hj : i = j
    · subst hj
      rw [List.getElem?_set_self hi] at e'
      cases e'
      obtain ⟨t0, ht⟩ := hs
      cases s with
      | own t' => refine ⟨v, ev, ?_⟩; simp only [if_true]; exact r
      | par t' =>
        have e := hp rfl
        subst e
        refine ⟨ev, ?_⟩
        simp only [if_true]
        exact r
      | _ => cases ht
    · rw [List.getElem?_set_ne hj] at e'
      have z := h3 j s' e'
      have hj' : ¬ j = i := fun z => hj z.symm
      simp only [hj', if_false]
      exact z
/-- what is left stays, whatever happens to what was taken out -/
theorem Stt.kept {H H' : Hp} {σ : L2.St} {τ : Ev} {A M : Sa} (S : Stt K R π H σ τ A) (x : Ext M H H') (mM : ∀ q, M q → Mt H q) (d : Dj A M) (dR : Dj (RU R) M) : Stt K R π H' σ τ A := by
  obtain ⟨l, ⟨P, h1, h2, h3⟩, dR', a, mA⟩ := S
  have keep : ∀ q, ¬ M q → At H q → H' q = H q := fun q n z => by
    unfold At at z
    cases e : H q with
    | none => exact absurd e z
    | some o => exact x q o n e
  have kp : ∀ {D : Sa}, Dj D M → Kp K D H H' := fun d => x.kpM mM d
  refine ⟨l, ⟨P, h1, h2, fun i s e => ?_⟩, dR', fun q z => ?_, fun q z => ?_⟩
  · have z := h3 i s e
    cases s with
    | no => exact True.intro
    | bor t => obtain ⟨v, a, b⟩ := z; exact ⟨v, a, b.mono (kp (dR.sub (fun q z => ⟨0, z⟩) Sub.rfl))⟩
    | lnd t => obtain ⟨v, a, b⟩ := z; exact ⟨v, a, b.mono (kp (dR.sub (fun q z => ⟨i + 1, z⟩) Sub.rfl))⟩
    | own t => obtain ⟨v, a, b⟩ := z; exact ⟨v, a, b.mono (kp (d.sub (h1 i) Sub.rfl))⟩
    | par t => exact ⟨z.1, z.2.mono (kp (d.sub (h1 i) Sub.rfl))⟩
  · unfold At
    rw [keep q (fun y => dR q z y) (a q z)]
    exact a q z
  · have := keep q (fun y => d q z y) (mt_no (mA q z)).2.2
    unfold Mt
    rw [this]
    exact mA q z
/-- places within the frame: their things, side by side -/
inductive Wts (K : PySem.W.Frag) (H : Hp) (σ : L2.St) : List Pl → List V → List T → Sa → Prop
  | nil {B} : Wts K H σ [] [] [] B
  | cons {p L v w ws u us B B1 B2} (e : σ[p.1]? = some (some v)) (rc : Rchs K H v p.2 w) (uq : ∀ x, Rchs K H v p.2 x → x = w) (r : Rp K H w u B1) (rs : Wts K H σ L ws us B2) (s1 : Sub B1 B) (s2 : Sub B2 B) (d : Dj B1 B2) : Wts K H σ (p :: L) (w :: ws) (u :: us) B
theorem backs_no {i : Nat} : ∀ {L : List Pl} {τ : Ev} {us : List T}, τ[i]? = some .no → (backs τ L us)[i]? = some .no
  | [], τ, _, h => by unfold backs; exact h
  | p :: L, τ, [], h => by unfold backs; exact h
  | p :: L, τ, u :: us, h => by
    unfold backs
    cases e : τ[p.1]? with
    | none => exact h
    | some s =>
      show (match s.mine with | some t => (backs (τ.set p.1 .no) L us).set p.1 (s.upd (setP t p.2 u)) | none => τ)[i]? = _
      cases em : s.mine with
      | none => exact h
      | some t =>
        have ne : p.1 ≠ i := fun z => by
          rw [z, h] at e
          cases e
          cases em
        show ((backs (τ.set p.1 .no) L us).set p.1 _)[i]? = _
        rw [List.getElem?_set_ne ne]
        exact backs_no (by rw [List.getElem?_set_ne ne]; exact h)
theorem take_all {H : Hp} {σ : L2.St} : ∀ {L : List Pl} {τ : Ev} {A : Sa} {us : List T}, Stt K R π H σ τ A → takes τ L = some us → ∃ ws B A0, Wts K H σ L ws us B ∧ Stt K R π H σ (strips τ L) A0 ∧ Dj A0 B ∧ Sub B A ∧ Sub A0 A ∧
    ∀ H' us' B' M, Ext M H H' → (∀ q, M q → Mt H q) → (∀ q, M q → B q ∨ ¬ A q) → Dj (RU R) M → (∀ q, B' q → B q ∨ ¬ A q) → Dj (RU R) B' → RpL K H' ws us' B' → (∀ q, B' q → Mt H' q) → ∃ A', Stt K R π H' σ (backs τ L us') A' ∧ (∀ q, A' q → (A q ∧ ¬ B q) ∨ B' q)
  | [], τ, A, us, S, e => by
    cases e
    refine ⟨[], noM, A, .nil, S, dj_noM, noM_sub, Sub.rfl, fun H' us' B' M x mM hM dM _ _ r _ => ?_⟩
    cases r
    exact ⟨A, S.kept x mM (fun q a z => (hM q z).elim id fun n => n a) dM, fun q z => .inl ⟨z, id⟩⟩
  | p :: L, τ, A, us, S, e => by
    obtain ⟨u, e1, e2⟩ := Option.bind_eq_some_iff.mp e
    obtain ⟨us2, e5, rfl⟩ := Option.map_eq_some_iff.mp e2
    unfold mineAt at e1
    obtain ⟨s, es, e3⟩ := Option.bind_eq_some_iff.mp e1
    obtain ⟨t, et, e4⟩ := Option.bind_eq_some_iff.mp e3
    obtain ⟨v, Bs, A1, ev, hp, r, S1, d1, sB, sA⟩ := S.take es et
    obtain ⟨w, Bu, C, rc, uq, ru, b1, c1, dBC, wand⟩ := rp_path r e4
    obtain ⟨ws, B2, A0, wt, S0, d0, sB2, sA0, back⟩ := take_all S1 e5
    have d12 : Dj Bu B2 := fun q a b => d1 q (sB2 q b) (b1 q a)
    have dC2 : Dj C B2 := fun q a b => d1 q (sB2 q b) (c1 q a)
    refine ⟨w :: ws, Uni Bu B2, A0, .cons ev rc uq ru wt Sub.l Sub.r d12, S0, fun q a b => b.elim (fun b => d1 q (sA0 q a) (b1 q b)) (d0 q a), fun q z => z.elim (fun z => sB q (b1 q z)) fun z => sA q (sB2 q z), sA0.trans sA, fun H' us' B' M x mM hM dM hB dR rr m => ?_⟩
    have toL : ∀ q, Uni Bu B2 q ∨ ¬ A q → B2 q ∨ ¬ A1 q := fun q z => z.elim (fun z => z.elim (fun z => .inr fun a => d1 q a (b1 q z)) .inl) fun n => .inr fun a => n (sA q a)
    have noC : ∀ q, Uni Bu B2 q ∨ ¬ A q → C q → False := fun q z c => z.elim (fun z => z.elim (fun z => dBC q z c) (dC2 q c)) fun n => n (sB q (c1 q c))
    cases rr with
    | @cons _ _ u' us'' _ B'1 B'2 h1 h2 s1 s2 dd =>
      obtain ⟨A'1, S', gA⟩ := back H' us'' B'2 M x mM (fun q z => toL q (hM q z)) dM (fun q z => toL q (hB q (s2 q z))) (dR.sub Sub.rfl s2) h2 fun q z => m q (s2 q z)
      have rt := wand H' u' B'1 (x.kpM mM fun q c z => noC q (hM q z) c) h1 fun q z c => noC q (hB q (s1 q z)) c
      have es' : (τ.set p.1 .no)[p.1]? = some .no := List.getElem?_set_self (List.getElem?_eq_some_iff.mp es).1
      have no1 : ∀ q, (A1 q ∧ ¬ B2 q) → B'1 q → False := fun q a z => (hB q (s1 q z)).elim (fun z => z.elim (fun z => d1 q a.1 (b1 q z)) a.2) fun n => n (sA q a.1)
      refine ⟨Uni A'1 (Uni B'1 C), ?_, fun q z => ?_⟩
      · have := S'.give (v := v) (s := s) (t := setP t p.2 u') (B := Uni B'1 C) (backs_no es') ⟨t, et⟩ ev hp rt (fun q a z => ?_) (fun q a z => z.elim (fun z => dR q a (s1 q z)) fun c => S.dR q a (sB q (c1 q c))) (fun q z => ?_)
        · show Stt K R π H' σ (match τ[p.1]? with | some s => (match s.mine with | some t => (backs (τ.set p.1 .no) L us'').set p.1 (s.upd (setP t p.2 u')) | none => τ) | none => τ) _
          rw [es]
          show Stt K R π H' σ (match s.mine with | some t => (backs (τ.set p.1 .no) L us'').set p.1 (s.upd (setP t p.2 u')) | none => τ) _
          rw [et]
          exact this
        · rcases gA q a with a | a
          · exact z.elim (no1 q a) fun c => d1 q a.1 (c1 q c)
          · exact z.elim (fun z => dd q z a) fun c => noC q (hB q (s2 q a)) c
        · rcases z with z | z
          · exact m q (s1 q z)
          · have nM : ¬ M q := fun y => noC q (hM q y) z
            rcases S.mA q (sB q (c1 q z)) with ⟨a, y⟩ | ⟨a, y⟩ | ⟨a, b, c, y⟩
            · exact .inl ⟨a, x q _ nM y⟩
            · exact .inr (.inl ⟨a, x q _ nM y⟩)
            · exact .inr (.inr ⟨a, b, c, x q _ nM y⟩)
      · rcases z with z | z | z
        · rcases gA q z with z | z
          · exact .inl ⟨sA q z.1, fun y => y.elim (fun y => d1 q z.1 (b1 q y)) z.2⟩
          · exact .inr (s2 q z)
        · exact .inr (s1 q z)
        · exact .inl ⟨sB q (c1 q z), fun y => y.elim (fun y => dBC q y z) (dC2 q z)⟩
end
end Rw

namespace Rw
open PySem PySem.Spec PyProof.Rows L2
section
variable {K : PySem.W.Frag} {W : WX} {R : Nat → Sa} {π : Nat → V} {te ta tb to ti : TE} {tA tK : TA} {pe : Ev → Rs T} {pA pK : Ev → Rs (List T)} {qe : Ev → Re Ev T} {pl : Ev → Rs Pl}
def parL : List Bool → List Hd → List Pl
  | m :: ms, .plc p :: hs => if m = true then p :: parL ms hs else parL ms hs
  | _ :: ms, .val _ :: hs => parL ms hs
  | _, _ => []
def parV : List Bool → List Hd → List V → List V
  | m :: ms, .plc _ :: hs, v :: vs => if m = true then v :: parV ms hs vs else parV ms hs vs
  | _ :: ms, .val _ :: hs, _ :: vs => parV ms hs vs
  | _, _, _ => []
def newU : List Bool → List Hd → List T → List T
  | m :: ms, .plc _ :: hs, t :: ts => if m = true then t :: newU ms hs ts else newU ms hs ts
  | _ :: ms, .val _ :: hs, _ :: ts => newU ms hs ts
  | _, _, _ => []
def borT (τ τs : Ev) (p : Pl) : Option T := match treeAt τs p with
  | some t => some t
  | none => (treeAt τ p).bind fun t => if t.im = true then some t else none
def argT (τ τs : Ev) : List Bool → List Hd → List T → Option (List T)
  | m :: ms, .plc p :: hs, us => if m = true then (match us with
      | u :: us => (argT τ τs ms hs us).map (u :: ·)
      | [] => none) else (borT τ τs p).bind fun t => (argT τ τs ms hs us).map (t :: ·)
  | _ :: ms, .val t :: hs, us => (argT τ τs ms hs us).map (t :: ·)
  | [], .plc p :: hs, us => (borT τ τs p).bind fun t => (argT τ τs [] hs us).map (t :: ·)
  | [], .val t :: hs, us => (argT τ τs [] hs us).map (t :: ·)
  | _, [], _ => some []
/-- the arguments, those to be changed and the others -/
inductive HdM (K : PySem.W.Frag) (H : Hp) (σ : L2.St) : List Bool → List V → List Hd → Sa → Sa → Prop
  | nil {ms B C} : HdM K H σ ms [] [] B C
  | valP {ms w ws t hs B B1 B2 C} (r : Rp K H w t B1) (rs : HdM K H σ ms ws hs B2 C) (s1 : Sub B1 B) (s2 : Sub B2 B) (d : Dj B1 B2) : HdM K H σ (true :: ms) (w :: ws) (.val t :: hs) B C
  | valB {ms w ws t hs B C} (r : Rp K H w t C) (rs : HdM K H σ ms ws hs B C) : HdM K H σ (false :: ms) (w :: ws) (.val t :: hs) B C
  | valN {w ws t hs B C} (r : Rp K H w t C) (rs : HdM K H σ [] ws hs B C) : HdM K H σ [] (w :: ws) (.val t :: hs) B C
  | plc {m ms v w ws p hs B C} (e : σ[p.1]? = some (some v)) (rc : Rchs K H v p.2 w) (rs : HdM K H σ ms ws hs B C) : HdM K H σ (m :: ms) (w :: ws) (.plc p :: hs) B C
  | plcN {v w ws p hs B C} (e : σ[p.1]? = some (some v)) (rc : Rchs K H v p.2 w) (rs : HdM K H σ [] ws hs B C) : HdM K H σ [] (w :: ws) (.plc p :: hs) B C
theorem HdM.weak {H : Hp} {σ : L2.St} {ms : List Bool} {ws : List V} {hs : List Hd} {B B' C C' : Sa} (h : HdM K H σ ms ws hs B C) (s : Sub B B') (s' : Sub C C') : HdM K H σ ms ws hs B' C' := by
  induction h generalizing B' C' with
  | nil => exact .nil
  | valP r rs s1 s2 d ih => exact .valP r (ih Sub.rfl s') (s1.trans s) (s2.trans s) d
  | valB r rs ih => exact .valB (r.weak s') (ih s s')
  | valN r rs ih => exact .valN (r.weak s') (ih s s')
  | plc e rc rs ih => exact .plc e rc (ih s s')
  | plcN e rc rs ih => exact .plcN e rc (ih s s')
theorem HdL.m {H : Hp} {σ : L2.St} : ∀ {ms : List Bool} {ws : List V} {hs : List Hd} {B : Sa}, HdL K H σ ws hs B → ∃ B1 C, HdM K H σ ms ws hs B1 C ∧ Sub B1 B ∧ Sub C B ∧ Dj B1 C
  | ms, _, _, B, .nil => ⟨noM, noM, .nil, noM_sub, noM_sub, noM_dj⟩
  | [], _, _, B, .val r rs s1 s2 d => by
    obtain ⟨Bq, C, h, b, c, dj⟩ := rs.m (ms := [])
    exact ⟨Bq, Uni _ C, .valN (r.weak Sub.l) (h.weak Sub.rfl Sub.r), b.trans s2, fun q z => z.elim (s1 q) fun z => s2 q (c q z), fun q a z => z.elim (fun z => d q z (b q a)) (dj q a)⟩
  | true :: ms, _, _, B, .val r rs s1 s2 d => by
    obtain ⟨Bq, C, h, b, c, dj⟩ := rs.m (ms := ms)
    exact ⟨Uni _ Bq, C, .valP r h Sub.l Sub.r (d.sub Sub.rfl b), fun q z => z.elim (s1 q) fun z => s2 q (b q z), c.trans s2, fun q a z => a.elim (fun a => d q a (c q z)) fun a => dj q a z⟩
  | false :: ms, _, _, B, .val r rs s1 s2 d => by
    obtain ⟨Bq, C, h, b, c, dj⟩ := rs.m (ms := ms)
    exact ⟨Bq, Uni _ C, .valB (r.weak Sub.l) (h.weak Sub.rfl Sub.r), b.trans s2, fun q z => z.elim (s1 q) fun z => s2 q (c q z), fun q a z => z.elim (fun z => d q z (b q a)) (dj q a)⟩
  | [], _, _, B, .plc e rc rs => by
    obtain ⟨Bq, C, h, b, c, dj⟩ := rs.m (ms := [])
    exact ⟨Bq, C, .plcN e rc h, b, c, dj⟩
  | m :: ms, _, _, B, .plc e rc rs => by
    obtain ⟨Bq, C, h, b, c, dj⟩ := rs.m (ms := ms)
    exact ⟨Bq, C, .plc e rc h, b, c, dj⟩
inductive ArgL (K : PySem.W.Frag) (H : Hp) (G : Sa) : List Bool → List V → List T → Sa → Prop
  | nil {ms A} : ArgL K H G ms [] [] A
  | par {ms v t vs ts A A1 A2} (r : Rp K H v t A1) (rs : ArgL K H G ms vs ts A2) (s1 : Sub A1 A) (s2 : Sub A2 A) (d : Dj A1 A2) : ArgL K H G (true :: ms) (v :: vs) (t :: ts) A
  | bor {ms v t vs ts A} (r : Rp K H v t G) (rs : ArgL K H G ms vs ts A) : ArgL K H G (false :: ms) (v :: vs) (t :: ts) A
  | borN {v t vs ts A} (r : Rp K H v t G) (rs : ArgL K H G [] vs ts A) : ArgL K H G [] (v :: vs) (t :: ts) A
theorem ArgL.ok {H : Hp} {G : Sa} : ∀ {ms : List Bool} {vs : List V} {ts : List T} {A : Sa}, ArgL K H G ms vs ts A → vs.length = ts.length ∧ ∃ P : Nat → Sa, (∀ i, Sub (P i) A) ∧ (∀ i j, i ≠ j → Dj (P i) (P j)) ∧ ∀ (i : Nat) v t, vs[i]? = some v → ts[i]? = some t → Rp K H v t (if ms.getD i false = true then P i else G)
  | ms, _, _, A, .nil => ⟨rfl, fun _ => noM, fun _ => noM_sub, fun _ _ _ => noM_dj, fun i v t e => by simp at e⟩
  | true :: ms, _, _, A, .par (A1 := A1) r rs s1 s2 d => by
    obtain ⟨l, P, h1, h2, h3⟩ := rs.ok
    refine ⟨by rw [List.length_cons, List.length_cons, l], fun i => match i with | 0 => A1 | i + 1 => P i, fun i => ?_, fun i j ne => ?_, fun i v t e1 e2 => ?_⟩
    · cases i with
      | zero => exact s1
      | succ i => exact (h1 i).trans s2
    · cases i with
      | zero =>
        cases j with
        | zero => exact absurd rfl ne
        | succ j => exact d.sub Sub.rfl (h1 j)
      | succ i =>
        cases j with
        | zero => exact (d.sub Sub.rfl (h1 i)).symm
        | succ j => exact h2 i j fun e => ne (by rw [e])
    · cases i with
      | zero =>
        simp at e1 e2
        subst e1 e2
        exact r
      | succ i => simpa using h3 i v t (by simpa using e1) (by simpa using e2)
  | false :: ms, _, _, A, .bor r rs => by
    obtain ⟨l, P, h1, h2, h3⟩ := rs.ok
    refine ⟨by rw [List.length_cons, List.length_cons, l], fun i => match i with | 0 => noM | i + 1 => P i, fun i => ?_, fun i j ne => ?_, fun i v t e1 e2 => ?_⟩
    · cases i with
      | zero => exact noM_sub
      | succ i => exact h1 i
    · cases i with
      | zero => exact noM_dj
      | succ i =>
        cases j with
        | zero => exact dj_noM
        | succ j => exact h2 i j fun e => ne (by rw [e])
    · cases i with
      | zero =>
        simp at e1 e2
        subst e1 e2
        exact r
      | succ i => simpa using h3 i v t (by simpa using e1) (by simpa using e2)
  | [], _, _, A, .borN r rs => by
    obtain ⟨l, P, h1, h2, h3⟩ := rs.ok
    refine ⟨by rw [List.length_cons, List.length_cons, l], fun _ => noM, fun _ => noM_sub, fun _ _ _ => noM_dj, fun i v t e1 e2 => ?_⟩
    cases i with
    | zero =>
      simp at e1 e2
      subst e1 e2
      exact r
    | succ i => simpa using h3 i v t (by simpa using e1) (by simpa using e2)
theorem Stt.tree {H : Hp} {σ : L2.St} {τ : Ev} {A : Sa} {p : Pl} {t : T} (S : Stt K R π H σ τ A) (e : treeAt τ p = some t) : ∃ v w, σ[p.1]? = some (some v) ∧ (∀ x, Rchs K H v p.2 x → x = w) ∧ Rp K H w t (fun q => A q ∨ RU R q) := by
  unfold treeAt at e
  obtain ⟨s, e1, e2⟩ := Option.bind_eq_some_iff.mp e
  obtain ⟨t0, e3, e4⟩ := Option.bind_eq_some_iff.mp e2
  obtain ⟨v, ev, r⟩ : ∃ v, σ[p.1]? = some (some v) ∧ Rp K H v t0 (fun q => A q ∨ RU R q) := by
    obtain ⟨P, h1, _, h3⟩ := S.sl
    have z := h3 p.1 s e1
    cases s with
    | no => cases e3
    | bor t => cases e3; obtain ⟨v, a, b⟩ := z; exact ⟨v, a, b.weak fun q z => .inr ⟨_, z⟩⟩
    | lnd t => cases e3; obtain ⟨v, a, b⟩ := z; exact ⟨v, a, b.weak fun q z => .inr ⟨_, z⟩⟩
    | own t => cases e3; obtain ⟨v, a, b⟩ := z; exact ⟨v, a, b.weak fun q z => .inl (h1 _ q z)⟩
    | par t => cases e3; exact ⟨_, z.1, z.2.weak fun q z => .inl (h1 _ q z)⟩
  obtain ⟨w, Bu, C, _, uq, r', sb, _⟩ := rp_path r e4
  exact ⟨v, w, ev, uq, r'.weak sb⟩
theorem bor_ok {H : Hp} {σ : L2.St} {τ τs : Ev} {A A0 G : Sa} {p : Pl} {t : T} {v w : V} (S : Stt K R π H σ τ A) (S0 : Stt K R π H σ τs A0) (e : borT τ τs p = some t) (ev : σ[p.1]? = some (some v)) (rc : Rchs K H v p.2 w) (g : ∀ q, A0 q ∨ RU R q → At H q → G q) : Rp K H w t G := by
  unfold borT at e
  split at e
  · rename_i t' e'
    cases e
    obtain ⟨v', w', ev', uq, r⟩ := S0.tree e'
    rw [ev] at ev'
    cases ev'
    rw [uq w rc]
    exact r.at_.weak fun q z => g q z.1 z.2
  · obtain ⟨t', e1, e2⟩ := Option.bind_eq_some_iff.mp e
    split at e2
    · rename_i im
      cases e2
      obtain ⟨v', w', ev', uq, r⟩ := S.tree e1
      rw [ev] at ev'
      cases ev'
      rw [uq w rc]
      exact r.im im
    · cases e2
/-- all arguments are as the def wants them -/
theorem build {H : Hp} {σ : L2.St} {τ τs : Ev} {A A0 G : Sa} (S : Stt K R π H σ τ A) (S0 : Stt K R π H σ τs A0) (g : ∀ q, A0 q ∨ RU R q → At H q → G q) : ∀ {ms : List Bool} {vs : List V} {hs : List Hd} {us : List T} {ts : List T} {Bq Br Bp : Sa} {ws : List V}, HdM K H σ ms vs hs Bq Br → (∀ q, Br q → At H q → G q) →
    Wts K H σ (parL ms hs) ws us Bp → argT τ τs ms hs us = some ts → Dj Bp Bq → ArgL K H G ms vs ts (Uni Bp Bq) ∧ parV ms hs vs = ws := by
  intro ms vs hs us ts Bq Br Bp ws h
  induction h generalizing us ts Bp ws with
  | @nil ms B C =>
    intro _ wt e _
    have : parL ms [] = [] := by cases ms <;> rfl
    rw [this] at wt
    cases wt
    have e : some ([] : List T) = some ts := by cases ms <;> exact e
    cases e
    exact ⟨.nil, by cases ms <;> rfl⟩
  | valP r rs s1 s2 d ih =>
    intro hb wt e dj
    obtain ⟨ts', e1, rfl⟩ := Option.map_eq_some_iff.mp (show (argT τ τs _ _ us).map _ = some ts from e)
    obtain ⟨i1, i2⟩ := ih hb wt e1 (dj.sub Sub.rfl s2)
    refine ⟨.par r i1 (s1.trans Sub.r) (fun q z => z.elim .inl fun z => .inr (s2 q z)) fun q a z => z.elim (fun z => dj q z (s1 q a)) (d q a), i2⟩
  | valB r rs ih =>
    intro hb wt e dj
    obtain ⟨ts', e1, rfl⟩ := Option.map_eq_some_iff.mp (show (argT τ τs _ _ us).map _ = some ts from e)
    obtain ⟨i1, i2⟩ := ih hb wt e1 dj
    exact ⟨.bor (r.at_.weak fun q z => hb q z.1 z.2) i1, i2⟩
  | valN r rs ih =>
    intro hb wt e dj
    obtain ⟨ts', e1, rfl⟩ := Option.map_eq_some_iff.mp (show (argT τ τs _ _ us).map _ = some ts from e)
    obtain ⟨i1, i2⟩ := ih hb (by cases wt; exact .nil) e1 dj
    exact ⟨.borN (r.at_.weak fun q z => hb q z.1 z.2) i1, by cases wt; rfl⟩
  | @plc m ms v w ws' p hs B C ev rc rs ih =>
    intro hb wt e dj
    cases m with
    | true =>
      have wt : Wts K H σ (p :: parL ms hs) ws us Bp := wt
      cases wt with
      | @cons _ _ v' w' ws2 u us2 _ B1 B2 e' rc' uq r' rs' s1 s2 d =>
        rw [ev] at e'
        cases e'
        obtain rfl := uq w rc
        obtain ⟨ts', e1, rfl⟩ := Option.map_eq_some_iff.mp (show (argT τ τs _ _ us2).map _ = some ts from e)
        obtain ⟨i1, i2⟩ := ih hb rs' e1 (dj.sub s2 Sub.rfl)
        exact ⟨.par r' i1 (s1.trans Sub.l) (fun q z => z.elim (fun z => .inl (s2 q z)) .inr) fun q a z => z.elim (d q a) (dj q (s1 q a)), by
          show w :: parV ms hs ws' = _
          rw [i2]⟩
    | false =>
      have wt : Wts K H σ (parL ms hs) ws us Bp := wt
      obtain ⟨t, e1, e2⟩ := Option.bind_eq_some_iff.mp (show (borT τ τs p).bind _ = some ts from e)
      obtain ⟨ts', e3, rfl⟩ := Option.map_eq_some_iff.mp e2
      obtain ⟨i1, i2⟩ := ih hb wt e3 dj
      exact ⟨.bor (bor_ok S S0 e1 ev rc g) i1, i2⟩
  | @plcN v w ws' p hs B C ev rc rs ih =>
    intro hb wt e dj
    obtain ⟨t, e1, e2⟩ := Option.bind_eq_some_iff.mp (show (borT τ τs p).bind _ = some ts from e)
    obtain ⟨ts', e3, rfl⟩ := Option.map_eq_some_iff.mp e2
    obtain ⟨i1, i2⟩ := ih hb (by cases wt; exact .nil) e3 dj
    exact ⟨.borN (bor_ok S S0 e1 ev rc g) i1, by cases wt; rfl⟩
/-- what the def left of them -/
theorem out_list {H : Hp} : ∀ {ms : List Bool} {hs : List Hd} {vs : List V} {ts : List T} {P : Nat → Sa}, (∀ i j, i ≠ j → Dj (P i) (P j)) → (∀ (i : Nat) v t, ms.getD i false = true → vs[i]? = some v → ts[i]? = some t → Rp K H v t (P i)) → ts.length = vs.length → RpL K H (parV ms hs vs) (newU ms hs ts) (fun q => ∃ i, P i q)
  | [], hs, vs, ts, P, _, _, _ => by
    have a : parV [] hs vs = [] := by cases hs <;> rfl
    have b : newU [] hs ts = [] := by cases hs <;> rfl
    rw [a, b]
    exact .nil
  | m :: ms, [], vs, ts, P, _, _, _ => .nil
  | m :: ms, .val _ :: hs, [], ts, P, _, _, l => by
    cases ts with
    | nil => exact .nil
    | cons _ _ => cases l
  | m :: ms, .plc _ :: hs, [], ts, P, _, _, l => by
    cases ts with
    | nil => exact .nil
    | cons _ _ => cases l
  | m :: ms, .val _ :: hs, v :: vs, [], P, _, _, l => by cases l
  | m :: ms, .plc _ :: hs, v :: vs, [], P, _, _, l => by cases l
  | m :: ms, .val _ :: hs, v :: vs, t :: ts, P, d, h, l => (out_list (P := fun i => P (i + 1)) (fun i j ne => d _ _ fun e => ne (Nat.succ.inj e)) (fun i v t hm a b => h (i + 1) v t (by simpa using hm) (by simpa using a) (by simpa using b)) (Nat.succ.inj l)).weak fun q ⟨i, z⟩ => ⟨i + 1, z⟩
  | m :: ms, .plc _ :: hs, v :: vs, t :: ts, P, d, h, l => by
    have ih := out_list (ms := ms) (hs := hs) (vs := vs) (ts := ts) (P := fun i => P (i + 1)) (fun i j ne => d _ _ fun e => ne (Nat.succ.inj e)) (fun i v t hm a b => h (i + 1) v t (by simpa using hm) (by simpa using a) (by simpa using b)) (Nat.succ.inj l)
    cases m with
    | false => exact ih.weak fun q ⟨i, z⟩ => ⟨i + 1, z⟩
    | true => exact .cons (h 0 v t rfl rfl rfl) ih (fun q z => ⟨0, z⟩) (fun q ⟨i, z⟩ => ⟨i + 1, z⟩) fun q a ⟨i, z⟩ => d 0 (i + 1) (by simp) q a z
def callP (ms : List Bool) (pf : List T → Re (List T) T) (hs : List Hd) (τ : Ev) : Re Ev T := match takes τ (parL ms hs) with
  | some us => match argT τ (strips τ (parL ms hs)) ms hs us with
    | some ts => match pf ts with
      | .ok r ts' => .ok r (backs τ (parL ms hs) (newU ms hs ts'))
      | .exc x ts' => .exc x (backs τ (parL ms hs) (newU ms hs ts'))
      | .bad => .bad
    | none => .bad
  | none => .bad
theorem call_core {sp : Sp} {ms : List Bool} {pf : List T → Re (List T) T} (hsp : SpF K sp ms pf) {σ : L2.St} {τ : Ev} {H : Hp} {A B : Sa} {vs : List V} {hs : List Hd} {Q : VK} {E : XK} (S : Stt K R π H σ τ A) (h : HdL K H σ vs hs B) (dB : Dj A B) (dRB : Dj (RU R) B) (mB : ∀ q, B q → Mt H q)
    (z : (callP ms pf hs τ).post (fun t τ' => ∀ v H' A' B', Stt K R π H' σ τ' A' → Rp K H' v t B' → Dj A' B' → Dj (RU R) B' → (∀ q, B' q → Mt H' q) → Step (Uni A B) H (Uni A' B') H' → Q v H') (fun x τ' => ∀ cls d H' A', Stt K R π H' σ τ' A' → RpX K H' cls d x → Step (Uni A B) H A' H' → E cls d H')) : sp vs H Q E := by
  unfold callP at z
  split at z
  · rename_i us eus
    obtain ⟨ws, Bp, A0, wt, S0, d0, sBp, sA0, back⟩ := take_all S eus
    split at z
    · rename_i ts ets
      obtain ⟨Bq, Br, hm, sq, sr, dqr⟩ := h.m (ms := ms)
      have dpq : Dj Bp Bq := fun q a b => dB q (sBp q a) (sq q b)
      obtain ⟨al, epv⟩ := build (G := fun q => At H q ∧ ¬ Uni Bp Bq q) S S0 (fun q z at_ => ⟨at_, fun y => z.elim (fun z => y.elim (d0 q z) fun y => dB q (sA0 q z) (sq q y)) fun z => y.elim (fun y => S.dR q z (sBp q y)) fun y => dRB q z (sq q y)⟩) hm
        (fun q z at_ => ⟨at_, fun y => y.elim (fun y => dB q (sBp q y) (sr q z)) fun y => dqr q y z⟩) wt ets dpq
      have mT : ∀ q, Uni Bp Bq q → Mt H q := fun q z => z.elim (fun z => S.mA q (sBp q z)) fun z => mB q (sq q z)
      obtain ⟨l, P, p1, p2, p3⟩ := al.ok
      have ao : ArgOk K H ms vs ts (Uni Bp Bq) := ⟨l, ⟨P, p1, p2, p3⟩, mT⟩
      have hM : ∀ q, Uni Bp Bq q → Bp q ∨ ¬ A q := fun q z => z.elim .inl fun z => .inr fun a => dB q a (sq q z)
      have dRM : Dj (RU R) (Uni Bp Bq) := fun q a z => z.elim (fun z => S.dR q a (sBp q z)) fun z => dRB q a (sq q z)
      -- behind the call
      have fin : ∀ {H' : Hp} {ts' : List T} {Ac : Sa} {B' : Sa}, OutOk K H' ms vs ts' Ac → Step (Uni Bp Bq) H (Uni Ac B') H' → ∃ A', Stt K R π H' σ (backs τ (parL ms hs) (newU ms hs ts')) A' ∧ (∀ q, A' q → (A q ∧ ¬ Bp q) ∨ Ac q) := by
        intro H' ts' Ac B' oo st
        obtain ⟨l', ⟨P', q1, q2, q3⟩, m'⟩ := oo
        have rl := out_list (ms := ms) (hs := hs) (vs := vs) (ts := ts') q2 q3 l'
        rw [epv] at rl
        have nw : ∀ q, Ac q → Bp q ∨ ¬ A q := fun q z => by
          rcases st.g q (.inl z) with y | y
          · exact hM q y
          · exact .inr fun a => (mt_no (S.mA q a)).2.2 y
        obtain ⟨A', S', g⟩ := back H' _ (fun q => ∃ i, P' i q) (Uni Bp Bq) st.x mT hM dRM (fun q ⟨i, z⟩ => nw q (q1 i q z)) (fun q a ⟨i, z⟩ => by
          rcases st.g q (.inl (q1 i q z)) with y | y
          · exact dRM q a y
          · exact S.aR q a y) rl (fun q ⟨i, z⟩ => m' q (q1 i q z))
        exact ⟨A', S', fun q z => (g q z).imp id fun ⟨i, z⟩ => q1 i q z⟩
      refine hsp vs ts H (Uni Bp Bq) Q E ao ?_
      cases ep : pf ts with
      | bad => rw [ep] at z; exact z.elim
      | ok r ts' =>
        rw [ep] at z
        intro v H' Ac B' oo rr dAB m' st
        obtain ⟨A', S', g⟩ := fin oo st
        have nB : ∀ q, B' q → Uni Bp Bq q ∨ H q = none := fun q z => st.g q (.inr z)
        refine z v H' A' B' S' rr (fun q a b => ?_) (fun q a b => ?_) m' ⟨fun q o n e => st.x q o (fun y => n (y.elim (fun y => .inl (sBp q y)) fun y => .inr (sq q y))) e, fun q y => ?_⟩
        · rcases g q a with a | a
          · rcases nB q b with y | y
            · exact y.elim a.2 fun y => dB q a.1 (sq q y)
            · exact (mt_no (S.mA q a.1)).2.2 y
          · exact dAB q a b
        · rcases nB q b with y | y
          · exact dRM q a y
          · exact S.aR q a y
        · have sub : ∀ q, Uni Bp Bq q ∨ H q = none → Uni A B q ∨ H q = none := fun q y => y.imp (fun y => y.elim (fun y => .inl (sBp q y)) fun y => .inr (sq q y)) id
          rcases y with y | y
          · rcases g q y with y | y
            · exact .inl (.inl y.1)
            · exact sub q (st.g q (.inl y))
          · exact sub q (nB q y)
      | exc x ts' =>
        rw [ep] at z
        intro cls d H' Ac oo rx st
        obtain ⟨A', S', g⟩ := fin (B' := noM) oo (st.more fun _ z => z.elim)
        refine z cls d H' A' S' rx ⟨fun q o n e => st.x q o (fun y => n (y.elim (fun y => .inl (sBp q y)) fun y => .inr (sq q y))) e, fun q y => ?_⟩
        rcases g q y with y | y
        · exact .inl (.inl y.1)
        · exact (st.g q y).imp (fun y => y.elim (fun y => .inl (sBp q y)) fun y => .inr (sq q y)) id
    · exact z.elim
  · exact z.elim
end
end Rw

namespace Rw
open PySem PySem.Spec PyProof.Rows L2
section
variable {K : PySem.W.Frag} {W : WX} {R : Nat → Sa} {π : Nat → V} {te ta tb to ti : TE} {tA tK : TA} {pe : Ev → Rs T} {pA pK : Ev → Rs (List T)} {qe : Ev → Re Ev T} {pl : Ev → Rs Pl}
/-- how handed-in things come to the parameters -/
def pickH (plan : List Src) (hs hz : List Hd) : List Hd := plan.map fun s => match s with
  | .pos i => (hs[i]?).getD (.val .any)
  | .kw j => (hz[j]?).getD (.val .any)
  | .dfl v => .val (T.dv v)
def posOf : Src → Option Nat
  | .pos i => some i
  | _ => none
def kwOf : Src → Option Nat
  | .kw i => some i
  | _ => none
def okPlan (plan : List Src) : Bool := decide (plan.filterMap posOf).Nodup && decide (plan.filterMap kwOf).Nodup
def HdOk (K : PySem.W.Frag) (H : Hp) (σ : L2.St) (w : V) (h : Hd) (B : Sa) : Prop := match h with
  | .val t => Rp K H w t B
  | .plc p => ∃ v, σ[p.1]? = some (some v) ∧ Rchs K H v p.2 w
theorem HdL.ix {H : Hp} {σ : L2.St} : ∀ {ws : List V} {hs : List Hd} {B : Sa}, HdL K H σ ws hs B → ws.length = hs.length ∧ ∃ P : Nat → Sa, (∀ i, Sub (P i) B) ∧ (∀ i j, i ≠ j → Dj (P i) (P j)) ∧ ∀ (i : Nat) w h, ws[i]? = some w → hs[i]? = some h → HdOk K H σ w h (P i)
  | _, _, B, .nil => ⟨rfl, fun _ => noM, fun _ => noM_sub, fun _ _ _ => noM_dj, fun i w h e => by simp at e⟩
  | _, _, B, .val (B1 := B1) r rs s1 s2 d => by
    obtain ⟨l, P, h1, h2, h3⟩ := rs.ix
    refine ⟨by rw [List.length_cons, List.length_cons, l], fun i => match i with | 0 => B1 | i + 1 => P i, fun i => ?_, fun i j ne => ?_, fun i w h e1 e2 => ?_⟩
    · cases i with
      | zero => exact s1
      | succ i => exact (h1 i).trans s2
    · cases i with
      | zero =>
        cases j with
        | zero => exact absurd rfl ne
        | succ j => exact d.sub Sub.rfl (h1 j)
      | succ i =>
        cases j with
        | zero => exact (d.sub Sub.rfl (h1 i)).symm
        | succ j => exact h2 i j fun e => ne (by rw [e])
    · cases i with
      | zero =>
        simp at e1 e2
        subst e1 e2
        exact r
      | succ i => exact h3 i w h (by simpa using e1) (by simpa using e2)
  | _, _, B, .plc e0 rc rs => by
    obtain ⟨l, P, h1, h2, h3⟩ := rs.ix
    refine ⟨by rw [List.length_cons, List.length_cons, l], fun i => match i with | 0 => noM | i + 1 => P i, fun i => ?_, fun i j ne => ?_, fun i w h e1 e2 => ?_⟩
    · cases i with
      | zero => exact noM_sub
      | succ i => exact h1 i
    · cases i with
      | zero => exact noM_dj
      | succ i =>
        cases j with
        | zero => exact dj_noM
        | succ j => exact h2 i j fun e => ne (by rw [e])
    · cases i with
      | zero =>
        simp at e1 e2
        subst e1 e2
        exact ⟨_, e0, rc⟩
      | succ i => exact h3 i w h (by simpa using e1) (by simpa using e2)
theorem HdOk.cons {H : Hp} {σ : L2.St} {w : V} {h : Hd} {B1 B2 B : Sa} {ws : List V} {hs : List Hd} (o : HdOk K H σ w h B1) (rs : HdL K H σ ws hs B2) (s1 : Sub B1 B) (s2 : Sub B2 B) (d : Dj B1 B2) : HdL K H σ (w :: ws) (h :: hs) B := by
  cases h with
  | val t => exact .val o rs s1 s2 d
  | plc p =>
    obtain ⟨v, e, rc⟩ := o
    exact .plc e rc (rs.weak s2)
theorem hd_pick {H : Hp} {σ : L2.St} {ws zs : List V} {hs hz : List Hd} {P P2 : Nat → Sa} (lw : ws.length = hs.length) (lz : zs.length = hz.length) (p2 : ∀ i j, i ≠ j → Dj (P i) (P j)) (p3 : ∀ (i : Nat) w h, ws[i]? = some w → hs[i]? = some h → HdOk K H σ w h (P i))
    (q2 : ∀ i j, i ≠ j → Dj (P2 i) (P2 j)) (q3 : ∀ (i : Nat) w h, zs[i]? = some w → hz[i]? = some h → HdOk K H σ w h (P2 i)) (dd : ∀ i j, Dj (P i) (P2 j)) :
    ∀ {plan : List Src}, (plan.filterMap posOf).Nodup → (plan.filterMap kwOf).Nodup → HdL K H σ (plug K plan ws zs) (pickH plan hs hz) (fun q => (∃ i ∈ plan.filterMap posOf, P i q) ∨ ∃ i ∈ plan.filterMap kwOf, P2 i q)
  | [], _, _ => .nil
  | .dfl v :: l, h1, h2 => .val (dv_ok (B := noM) v) (hd_pick lw lz p2 p3 q2 q3 dd h1 h2) noM_sub Sub.rfl noM_dj
  | .pos i :: l, h1, h2 => by
    have h1 : (i :: l.filterMap posOf).Nodup := h1
    rw [List.nodup_cons] at h1
    have ih := hd_pick (plan := l) lw lz p2 p3 q2 q3 dd h1.2 h2
    have o : HdOk K H σ (nth ws i) ((hs[i]?).getD (.val .any)) (P i) := by
      by_cases c : i < hs.length
      · have c' : i < ws.length := by omega
        have := p3 i _ _ (List.getElem?_eq_getElem c') (List.getElem?_eq_getElem c)
        rw [nth_at, List.getD_eq_getElem?_getD, List.getElem?_eq_getElem c', List.getElem?_eq_getElem c]
        exact this
      · rw [List.getElem?_eq_none (by omega)]
        exact .any
    refine o.cons ih (fun q z => .inl ⟨i, List.mem_cons_self, z⟩) (fun q z => z.imp (fun ⟨j, m, z⟩ => ⟨j, List.mem_cons_of_mem _ m, z⟩) id) fun q a b => ?_
    rcases b with ⟨j, m, b⟩ | ⟨j, m, b⟩
    · exact p2 i j (fun e => h1.1 (by rw [e]; exact m)) q a b
    · exact dd i j q a b
  | .kw i :: l, h1, h2 => by
    have h2 : (i :: l.filterMap kwOf).Nodup := h2
    rw [List.nodup_cons] at h2
    have ih := hd_pick (plan := l) lw lz p2 p3 q2 q3 dd h1 h2.2
    have o : HdOk K H σ (nth zs i) ((hz[i]?).getD (.val .any)) (P2 i) := by
      by_cases c : i < hz.length
      · have c' : i < zs.length := by omega
        have := q3 i _ _ (List.getElem?_eq_getElem c') (List.getElem?_eq_getElem c)
        rw [nth_at, List.getD_eq_getElem?_getD, List.getElem?_eq_getElem c', List.getElem?_eq_getElem c]
        exact this
      · rw [List.getElem?_eq_none (by omega)]
        exact .any
    refine o.cons ih (fun q z => .inr ⟨i, List.mem_cons_self, z⟩) (fun q z => z.imp id fun ⟨j, m, z⟩ => ⟨j, List.mem_cons_of_mem _ m, z⟩) fun q a b => ?_
    rcases b with ⟨j, m, b⟩ | ⟨j, m, b⟩
    · exact dd j i q b a
    · exact q2 i j (fun e => h2.1 (by rw [e]; exact m)) q a b
theorem HdL.app {H : Hp} {σ : L2.St} {ws ws' : List V} {hs hs' : List Hd} {B : Sa} (h : HdL K H σ ws hs B) (h' : HdL K H σ ws' hs' noM) : HdL K H σ (ws ++ ws') (hs ++ hs') B := by
  induction h with
  | nil => exact h'.weak noM_sub
  | val r rs s1 s2 d ih => exact .val r ih s1 s2 d
  | plc e rc rs ih => exact .plc e rc ih
/-- handed in: first (the receiver), then hs, then what is named or left out -/
def callE (ms : List Bool) (plan : List Src) (na nk : Nat) (pf : List T → Re (List T) T) (first : List Hd) (ck : Ev → Rs (List Hd)) (hs : List Hd) (τ1 : Ev) : Re Ev T := (upE τ1 (ck τ1)).bind fun hz _ => if hs.length = na ∧ hz.length = nk then callP ms pf (pickH plan (first ++ hs) hz) τ1 else .bad
theorem args_runE {c : Cn} {na : Nat} {ks : List Str} {s : Shp} {ms : List Bool} {pf : List T → Re (List T) T} {first : List V} {fh : List Hd} {σ : L2.St} {τ : Ev} {H H1 : Hp} {A A1 B1 : Sa} {Q : VK} {vs : List V} {hs : List Hd} {ck : Ev → Rs (List Hd)}
    (sp : SpF c.K (c.Ph s.key) ms pf) (hp : okPlan s.plan = true) (hK : SmCF c.K c.W tK ck) (S : Stt c.K R π H1 σ τ A1) (st : Step A H (Uni A1 B1) H1) (h : HdL c.K H1 σ (first ++ vs) (fh ++ hs) B1) (lf : first.length = fh.length) (dB : Dj A1 B1) (dR : Dj (RU R) B1) (m : ∀ q, B1 q → Mt H1 q)
    (z : (callE ms s.plan na ks.length pf fh ck hs τ).post (OkE c.K R π σ H A Q) (ExS c.K R π c.W σ H A)) : tK σ H1 fun zs H2 => vs.length = na ∧ zs.length = ks.length ∧ c.Ph s.key (plug c.K s.plan (first ++ vs) zs) H2 Q (WE c.W σ) := by
  unfold callE at z
  rw [Re.post_bind] at z
  refine hK σ τ H1 _ S.r (Rs.post_mono (upE_post z) (fun hz q zs H2 B2 x hh f => ?_) fun x q => (ExS.step q (st.sub Sub.l)).toR S)
  split at q
  · rename_i cc
    obtain ⟨lw, P, p1, p2, p3⟩ := (h.ext x).ix
    obtain ⟨lz, P2, q1, q2, q3⟩ := hh.ix
    have lv : vs.length = na := by
      rw [List.length_append, List.length_append, lf] at lw
      omega
    refine ⟨lv, lz.trans cc.2, ?_⟩
    unfold okPlan at hp
    rw [Bool.and_eq_true] at hp
    have d12 : Dj B1 B2 := fun q a b => (mt_no (m q a)).2.2 (f q b).1
    have hfull := (hd_pick (σ := σ) (plan := s.plan) lw lz p2 p3 q2 q3 (fun i j => d12.sub (p1 i) (q1 j)) (of_decide_eq_true hp.1) (of_decide_eq_true hp.2)).weak (C := Uni B1 B2) fun q z => z.elim (fun ⟨i, _, z⟩ => .inl (p1 i q z)) fun ⟨i, _, z⟩ => .inr (q1 i q z)
    have dA2 : Dj A1 B2 := fun q a b => (mt_no (S.mA q a)).2.2 (f q b).1
    have dR2 : Dj (RU R) B2 := fun q a b => S.aR q a (f q b).1
    have st2 : Step (Uni A1 B1) H1 (Uni A1 (Uni B1 B2)) H2 := ⟨x.up, fun q z => z.elim (fun z => .inl (.inl z)) fun z => z.elim (fun z => .inl (.inr z)) fun z => .inr (f q z).1⟩
    refine call_core (R := R) (π := π) sp (S.ext x) hfull (fun q a b => b.elim (dB q a) (dA2 q a)) (fun q a b => b.elim (dR q a) (dR2 q a)) (fun q z => z.elim (fun z => mt_ext x (m q z)) fun z => (f q z).2) (Re.post_mono q (fun t τ' q v H' A' B' S' r d dR' m' s' => ?_) fun x τ' q cls d H' A' S' rx s' => ?_)
    · exact q v H' A' B' S' r d dR' m' ((st.trans st2).trans s')
    · exact q cls d H' A' S' rx ((st.trans st2).trans s')
  · exact q.elim
def fnE (ms : List Bool) (plan : List Src) (na nk : Nat) (pf : List T → Re (List T) T) (ca : Ev → Re Ev (List Hd)) (ck : Ev → Rs (List Hd)) : Ev → Re Ev T := fun τ => (ca τ).bind fun hs τ1 => callE ms plan na nk pf [] ck hs τ1
theorem sm_fnE {c : Cn} {x : Str} {na : Nat} {ks : List Str} {s : Shp} {ms : List Bool} {pf : List T → Re (List T) T} {ca : Ev → Re Ev (List Hd)} (hs : shpOf c.sh (x, none) (([] : List V).length + na) ks = some s) (sp : SpF c.K (c.Ph s.key) ms pf) {ck : Ev → Rs (List Hd)} (hp : okPlan s.plan = true)
    (hA : SmCA c.K c.W tA ca) (hK : SmCF c.K c.W tK ck) : SmE c.K c.W (tFn c x na ks tA tK) (fnE ms s.plan na ks.length pf ca ck) := fun R π σ τ H A Q S z => by
  unfold fnE at z
  rw [Re.post_bind] at z
  exact ⟨s, hs, hA R π σ τ H A _ S (Re.post_mono z (fun hs τ1 q vs H1 A1 B1 S1 h1 d1 dR1 m1 s1 => args_runE (first := []) (fh := []) sp hp hK S1 s1 h1 rfl d1 dR1 m1 q) fun _ _ q => q)⟩
/-- o.m(..), o a place -/
def methE (C m : Str) (ms : List Bool) (plan : List Src) (na nk : Nat) (pf : List T → Re (List T) T) (pl : Ev → Rs Pl) (ca ck : Ev → Rs (List Hd)) : Ev → Re Ev T := fun τ => (upE τ (pl τ)).bind fun p _ => match treeAt τ p with
  | some (.ins D fs) => if D = C ∧ fs.lookup m = none then (upE τ (ca τ)).bind fun hs _ => callE ms plan na nk pf [.plc p] ck hs τ else .bad
  | _ => .bad
theorem sm_methE {c : Cn} {C m : Str} {na : Nat} {ks : List Str} {s : Shp} {ms : List Bool} {pf : List T → Re (List T) T} {ca ck : Ev → Rs (List Hd)} (hs : shpOf c.sh (C, some m) (1 + na) ks = some s) (k1 : hasF (isCls C) c.fa = true) (k2 : hasF (isMeth C m) c.fa = true) (sp : SpF c.K (c.Ph s.key) ms pf)
    (hp : okPlan s.plan = true) (ho : SmL c.K c.W to pl) (hA : SmCF c.K c.W tA ca) (hK : SmCF c.K c.W tK ck) : SmE c.K c.W (tMeth c m na ks to tA tK) (methE C m ms s.plan na ks.length pf pl ca ck) := fun R π σ τ H A Q S z => by
  unfold methE at z
  rw [Re.post_bind] at z
  refine ho σ τ H _ S.r (Rs.post_mono (upE_post z) (fun p q v w H1 x ev rc => ?_) fun _ q => q.toR S)
  split at q
  · rename_i D fs e
    split at q
    · rename_i cc
      obtain ⟨rfl, hl⟩ := cc
      obtain ⟨v', w', B, ev', _, uq, r⟩ := treeAt_rp (S.r.ext x) e
      rw [ev] at ev'
      cases ev'
      obtain rfl := uq w rc
      cases r with
      | @ins d _ dx vs _ _ _ mm hh ss ee rr =>
        refine ⟨d, D, dx, vs, rfl, hh, k1, k2, lookup_none ee hl, s, hs, ?_⟩
        rw [Re.post_bind] at q
        refine hA σ τ H1 _ (S.r.ext x) (Rs.post_mono (upE_post q) (fun hs q ws H2 B2 x2 h2 f2 => ?_) fun x0 q => (q.toR S).ext x)
        have x12 := x.trans x2
        have dj := S.djN (x.fr f2)
        exact args_runE (R := R) (π := π) (first := [V.ref d]) (fh := [.plc p]) sp hp hK (S.ext x12) ((Step.ext x12).more fun q b => (x.fr f2 q b).1) (.plc ev (rc.ext x2) h2) rfl dj.1 dj.2 (fun q b => (f2 q b).2) q
    · exact q.elim
  · exact q.elim
/-- o.m(..), o a name, the arguments of any kind -/
def methVE (C m : Str) (ms : List Bool) (plan : List Src) (na nk : Nat) (pf : List T → Re (List T) T) (i : Nat) (ca : Ev → Re Ev (List Hd)) (ck : Ev → Rs (List Hd)) : Ev → Re Ev T := fun τ => match varP i τ with
  | .ok (.ins D fs) => if D = C ∧ fs.lookup m = none then (ca τ).bind fun hs τ1 => callE ms plan na nk pf [.plc (i, [])] ck hs τ1 else .bad
  | _ => .bad
theorem sm_methVE {c : Cn} {C m : Str} {na i : Nat} {ks : List Str} {s : Shp} {ms : List Bool} {pf : List T → Re (List T) T} {ca : Ev → Re Ev (List Hd)} {ck : Ev → Rs (List Hd)} (hs : shpOf c.sh (C, some m) (1 + na) ks = some s) (k1 : hasF (isCls C) c.fa = true) (k2 : hasF (isMeth C m) c.fa = true) (sp : SpF c.K (c.Ph s.key) ms pf)
    (hp : okPlan s.plan = true) (hA : SmCA c.K c.W tA ca) (hK : SmCF c.K c.W tK ck) : SmE c.K c.W (tMeth c m na ks (tVar i) tA tK) (methVE C m ms s.plan na ks.length pf i ca ck) := fun R π σ τ H A Q S z => by
  unfold methVE at z
  split at z
  · rename_i D fs e
    obtain ⟨s', es, et⟩ := varP_ok e
    obtain ⟨v, B, ev, r⟩ := S.r.sl i s' _ es et
    split at z
    · rename_i cc
      obtain ⟨rfl, hl⟩ := cc
      cases r with
      | @ins d _ dx vs _ _ _ mm hh ss ee rr =>
        refine ⟨_, ev, d, D, dx, vs, rfl, hh, k1, k2, lookup_none ee hl, s, hs, ?_⟩
        rw [Re.post_bind] at z
        refine hA R π σ τ H A _ S (Re.post_mono z (fun hs τ1 q ws H1 A1 B1 S1 h1 d1 dR1 m1 s1 => ?_) fun _ _ q => q)
        exact args_runE (first := [V.ref d]) (fh := [.plc (i, [])]) sp hp hK S1 s1 (.plc ev .nil h1) rfl d1 dR1 m1 q
    · exact z.elim
  · exact z.elim
/-- C(..): a new instance -/
def mkP (C : Str) (plan : List Src) (na nk : Nat) (pf : List T → Re (List T) T) (pA pK : Ev → Rs (List T)) : Ev → Rs T := fun τ => (pA τ).bind fun ts => (pK τ).bind fun zs => if ts.length = na ∧ zs.length = nk then match pf (plugT plan (.ins C [] :: ts) zs) with
    | .ok .non (t :: _) => .ok t
    | .exc x _ => .exc x
    | _ => .bad
  else .bad
def headPos : List Src → Bool
  | .pos 0 :: l => l.all fun s => match s with | .pos 0 => false | _ => true
  | _ => false
theorem sm_mk {c : Cn} {x : Str} {na : Nat} {ks : List Str} {s : Shp} {pf : List T → Re (List T) T} (hk : hasF (isMkr x) c.fa = true) (hs : shpOf c.sh (x, some ("__init__" : Str)) (na + 1) ks = some s) (sp : SpF c.K (c.Ph s.key) [true] pf) (hp : headPos s.plan = true) (hA : SmAR c.K c.W tA pA) (hK : SmAR c.K c.W tK pK) :
    SmF c.K c.W (tMk c x na ks tA tK) (mkP x s.plan na ks.length pf pA pK) := fun σ τ H Q h z => by
  unfold mkP at z
  rw [Rs.post_bind] at z
  refine ⟨hk, s, hs, hA σ τ H _ h (Rs.post_mono z (fun ts q vs H1 x1 y1 => ?_) fun _ q => q)⟩
  rw [Rs.post_bind] at q
  refine hK σ τ H1 _ (h.ext x1) (Rs.post_mono q (fun us q zs H2 x2 y2 => ?_) fun _ q => q.ext x1)
  have x12 := x1.trans x2
  split at q
  · rename_i l
    refine ⟨(Paired.length y1).trans l.1, (Paired.length y2).trans l.2, fun d dx nd ndx ne => ?_⟩
    generalize eH : upd (upd H2 dx (.own d)) d (.ins (He.ga c.K x) dx []) = H3
    have x3 : Ext noM H2 H3 := by
      rw [← eH]
      exact (Ext.new ndx).trans (Ext.new (by rw [upd_ne ne.symm]; exact nd))
    have ed : H3 d = some (.ins (He.ga c.K x) dx []) := by rw [← eH]; exact upd_same
    have x13 := x12.trans x3
    have rd : Rp c.K H3 (.ref d) (.ins x []) (at1 d) := .ins rfl ed (A1 := noM) (fun _ z => z.elim) rfl .nil
    have each : EachR c.K H3 (V.ref d :: vs) (T.ins x [] :: ts) := .cons ⟨_, rd⟩ (each_mono y1 (x2.trans x3))
    cases hpl : s.plan with
    | nil => rw [hpl] at hp; cases hp
    | cons s0 pl0 =>
      rw [hpl] at hp q
      have hs0 : s0 = .pos 0 ∧ (pl0.all fun s => match s with | .pos 0 => false | _ => true) = true := by
        cases s0 with
        | pos i =>
          cases i with
          | zero => exact ⟨rfl, hp⟩
          | succ i => cases hp
        | _ => cases hp
      obtain ⟨rfl, hall⟩ := hs0
      -- the other arguments stand apart from the new instance
      have oth : ∀ (i : Nat) v t, (plug c.K pl0 (V.ref d :: vs) zs)[i]? = some v → (plugT pl0 (T.ins x [] :: ts) us)[i]? = some t → Rp c.K H3 v t (fun q => At H3 q ∧ ¬ at1 d q) := by
        intro i v t e1 e2
        unfold plug at e1
        unfold plugT at e2
        rw [List.getElem?_map] at e1 e2
        cases ep : pl0[i]? with
        | none => rw [ep] at e1; cases e1
        | some src =>
          rw [ep] at e1 e2
          have hsrc := List.all_eq_true.mp hall src (List.mem_of_getElem? ep)
          have old : ∀ {w : V} {u : T}, (∃ B, Rp c.K H2 w u B) → Rp c.K H3 w u (fun q => At H3 q ∧ ¬ at1 d q) := fun {w u} ⟨B, r⟩ => (r.at_.mono x3.kp).weak fun q z => ⟨at_ext x3 z.2, fun e => z.2 (by rw [show q = d from e]; exact nd)⟩
          cases src with
          | pos j =>
            cases j with
            | zero => cases hsrc
            | succ j =>
              have e1 : some (nth vs j) = some v := e1
              have e2 : some (ntT (T.ins x [] :: ts) (j + 1)) = some t := e2
              cases e1
              cases e2
              have : ntT (T.ins x [] :: ts) (j + 1) = ntT ts j := by unfold ntT; simp
              rw [this]
              exact old (each_get j (each_mono y1 x2))
          | kw j =>
            cases e1
            cases e2
            exact old (each_get j y2)
          | dfl v0 =>
            cases e1
            cases e2
            exact dv_ok v0
      have ao : ArgOk c.K H3 [true] (plug c.K (.pos 0 :: pl0) (V.ref d :: vs) zs) (plugT (.pos 0 :: pl0) (T.ins x [] :: ts) us) (at1 d) := by
        refine ⟨by simp [plug, plugT], ⟨fun i => match i with | 0 => at1 d | _ => noM, fun i => ?_, fun i j ne => ?_, fun i v t e1 e2 => ?_⟩, fun q e => by rw [show q = d from e]; exact .inr (.inr ⟨_, _, _, ed⟩)⟩
        · cases i with
          | zero => exact Sub.rfl
          | succ i => exact noM_sub
        · cases i with
          | zero =>
            cases j with
            | zero => exact absurd rfl ne
            | succ j => exact dj_noM
          | succ i => exact noM_dj
        · cases i with
          | zero =>
            have e1 : some (V.ref d) = some v := e1
            have e2 : some (T.ins x []) = some t := e2
            cases e1
            cases e2
            exact rd
          | succ i => 
            have := oth i v t (by simpa [plug] using e1) (by simpa [plugT] using e2)
            simpa using this
      refine sp _ _ H3 (at1 d) _ _ ao ?_
      have back : ∀ {A' : Sa} {H' : Hp}, Step (at1 d) H3 A' H' → Ext noM H H' ∧ ∀ q, A' q → H q = none := fun {A' H'} st => by
        refine ⟨fun q o _ e => ?_, fun q a => ?_⟩
        · have e2 := x12 q o noM_not e
          have nq : q ≠ d := fun z => by rw [z, nd] at e2; cases e2
          exact st.x q o nq (x3 q o noM_not e2)
        · rcases st.g q a with z | z
          · rw [show q = d from z]
            exact x12.nn nd
          · exact x13.nn z
      cases epf : pf (plugT (.pos 0 :: pl0) (T.ins x [] :: ts) us) with
      | bad => rw [epf] at q; exact q.elim
      | exc xx ts' =>
        rw [epf] at q
        exact fun cls dd H' A' oo rx st => q cls dd H' (back st).1 rx
      | ok r ts' =>
        rw [epf] at q
        cases r with
        | non =>
          cases ts' with
          | nil => exact q.elim
          | cons t ts' =>
            intro v H' A' B oo rv dAB mB st
            cases rv
            obtain ⟨b1, b2⟩ := back st
            obtain ⟨l', ⟨P, p1, p2, p3⟩, m'⟩ := oo
            exact ⟨rfl, q _ H' (P 0) b1 (p3 0 (.ref d) t rfl rfl rfl) fun q a => ⟨b2 q (.inl (p1 0 q a)), m' q (p1 0 q a)⟩⟩
        | _ => exact q.elim
  · exact q.elim
end
end Rw

namespace Rw
open PySem PySem.Spec PyProof.Rows L2
section
variable {K : PySem.W.Frag} {W : WX} {R : Nat → Sa} {π : Nat → V} {te ta tb to ti : TE} {tA tK : TA} {pe : Ev → Rs T} {pA pK : Ev → Rs (List T)} {qe qa qb : Ev → Re Ev T} {qA : Ev → Re Ev (List T)} {pl : Ev → Rs Pl} {t u : TS} {qt qu : Ev → Re Ev Fl}
theorem o_f_pow : OpS K rPowU f_pow := o_ii fun i j H Q c h => v_pow (by
  simp only [Bool.or_eq_true, Bool.and_eq_true, decide_eq_true_eq] at c
  rcases c with ⟨rfl, c⟩ | ⟨rfl, c⟩ <;> exact ⟨by omega, by omega, by decide⟩) h
theorem fn_isi : FnS (rInst K) K q_isi := fun vs ts H Q u h e q => by
  unfold q_isi at e
  split at e
  · exact fn_isi1 _ _ _ _ _ _ h e q
  · cases e
/-- one of two readings, as what is there asks -/
def altE (q1 q2 : Ev → Re Ev T) : Ev → Re Ev T := fun τ => match q1 τ with
  | .bad => q2 τ
  | r => r
theorem sm_altE (h1 : SmE K W ta qa) (h2 : SmE K W tb qb) : SmE K W (tEor ta tb) (altE qa qb) := fun R π σ τ H A Q S z => by
  unfold altE at z
  split at z
  · exact .inr (h2 R π σ τ H A Q S z)
  · exact .inl (h1 R π σ τ H A Q S z)
/-- xs.append(e), xs a name, e of any kind -/
def bmVE (Ty : String) (f : T → List T → Option (T × T)) (i : Nat) (qA : Ev → Re Ev (List T)) : Ev → Re Ev T := fun τ => match varP i τ with
  | .ok u0 => if u0.isTy Ty = true then (qA τ).bind fun ts τ1 => match mineAt τ1 (i, []) with
      | some u => (ofOe τ1 (f u ts)).bind fun r _ => .ok r.1 (setAt τ1 (i, []) r.2)
      | none => .bad
    else .bad
  | _ => .bad
theorem sm_bmVE {Ty : String} {r : V → List V → Hp → VK → Prop} {f : T → List T → Option (T × T)} {i : Nat} (o : MtM r K f) (hA : SmAE K W tA qA) : SmE K W (tBMU K Ty r (tVar i) tA) (bmVE Ty f i qA) := fun R π σ τ H A Q S z => by
  unfold bmVE at z
  split at z
  · rename_i u0 e0
    split at z
    · rename_i ty
      obtain ⟨s, es, et⟩ := varP_ok e0
      obtain ⟨v, B, ev, r0⟩ := S.r.sl i s _ es et
      refine ⟨v, ev, isTy_ok r0 ty, ?_⟩
      rw [Re.post_bind] at z
      refine hA R π σ τ H A _ S (Re.post_mono z (fun ts τ1 q vs H1 A1 B1 S1 r1 d1 dR1 m1 s1 => ?_) fun _ _ q => q)
      split at q
      · rename_i u e
        rw [Re.post_bind] at q
        obtain ⟨⟨res, u'⟩, ef, q⟩ := ofOe_post q
        obtain ⟨v', w', Bu, ev', rc', uq, ru, sb, wand⟩ := mine_foc S1 e
        rw [ev] at ev'
        cases ev'
        cases rc'
        refine o v vs u ts Bu B1 H1 Q res u' ru (fun q z => S1.mA q (sb q z)) r1 (d1.sub sb Sub.rfl) m1 ef fun v3 H3 Bu' Br r2 r3 d23 mu mr x3 g => ?_
        have dN : Dj A1 (fun q => B1 q ∨ H1 q = none) := fun q a z => z.elim (d1 q a) fun n => (mt_no (S1.mA q a)).2.2 n
        have dRN : Dj (RU (R)) (fun q => B1 q ∨ H1 q = none) := fun q a z => z.elim (dR1 q a) fun n => S1.aR q a n
        have S3 := wand H3 u' Bu' _ x3 (fun q z => (g q (.inl z)).elim (fun z => z.elim .inl fun z => .inr (.inl z)) fun z => .inr (.inr z)) dN dRN r2 mu
        have gB : ∀ q, Br q → Bu q ∨ B1 q ∨ H1 q = none := fun q z => (g q (.inr z)).elim (fun z => z.elim .inl fun z => .inr (.inl z)) fun z => .inr (.inr z)
        refine q v3 H3 _ Br S3 r3 (fun q a b => ?_) (fun q a b => ?_) mr (s1.trans ⟨fun q o n e => x3 q o (fun z => n (.inl (sb q z))) e, fun q z => ?_⟩)
        · rcases a with a | a
          · exact d23 q a b
          · rcases gB q b with z | z | z
            · exact a.2 z
            · exact d1 q a.1 z
            · exact (mt_no (S1.mA q a.1)).2.2 z
        · rcases gB q b with z | z | z
          · exact S1.dR q a (sb q z)
          · exact dR1 q a z
          · exact S1.aR q a z
        · have nw : ∀ q, Bu q ∨ B1 q ∨ H1 q = none → Uni A1 B1 q ∨ H1 q = none := fun q z => z.elim (fun z => .inl (.inl (sb q z))) fun z => z.elim (fun z => .inl (.inr z)) .inr
          rcases z with z | z
          · rcases z with z | z
            · exact nw q ((g q (.inl z)).elim (fun z => z.elim .inl fun z => .inr (.inl z)) fun z => .inr (.inr z))
            · exact .inl (.inl z.1)
          · exact nw q (gB q z)
      · exact q.elim
    · exact z.elim
  · exact z.elim
/-! dicts -/
theorem sm_dict0 : SmF K W tDNewK (cP (.dct [])) := fun σ τ H Q h z p np => z _ _ (fun q => q = p) (Ext.new np) (.dct rfl (.inl upd_same) (A1 := noM) (fun _ z => z.elim) rfl List.nodup_nil .nil) (fresh_dK np)
def SmPs (K : PySem.W.Frag) (W : WX) (trs : List (TE × TE)) (ps : Ev → Rs (List (T × T))) : Prop := ∀ σ τ H (Q : List (V × V) → Hp → Prop), RpR K H σ τ → (ps τ).post (fun ts => ∀ vs H' B, Ext noM H H' → RpL K H' (vs.map (·.1)) (ts.map (·.1)) noM → RpL K H' (vs.map (·.2)) (ts.map (·.2)) B → Fresh H H' B → Q vs H') (ExR K W H σ) → tPairs trs σ H Q
def pnilP : Ev → Rs (List (T × T)) := fun _ => .ok []
def pconsP (pk pv : Ev → Rs T) (ps : Ev → Rs (List (T × T))) : Ev → Rs (List (T × T)) := fun τ => (pk τ).bind fun k => (pv τ).bind fun v => (ps τ).bind fun r => if k.im = true then .ok ((k, v) :: r) else .bad
theorem sm_ps_nil : SmPs K W [] pnilP := fun σ τ H Q h z => z [] H noM Ext.rfl .nil .nil fresh_no
theorem sm_ps_cons {tk tv : TE} {pk pv : Ev → Rs T} {trs : List (TE × TE)} {ps : Ev → Rs (List (T × T))} (hk : SmF K W tk pk) (hv : SmF K W tv pv) (hr : SmPs K W trs ps) : SmPs K W ((tk, tv) :: trs) (pconsP pk pv ps) := fun σ τ H Q h z => by
  unfold pconsP at z
  rw [Rs.post_bind] at z
  refine hk σ τ H _ h (Rs.post_mono z (fun k q x H1 B1 x1 r1 f1 => ?_) fun _ q => q)
  rw [Rs.post_bind] at q
  refine hv σ τ H1 _ (h.ext x1) (Rs.post_mono q (fun v q y H2 B2 x2 r2 f2 => ?_) fun _ q => q.ext x1)
  rw [Rs.post_bind] at q
  have x12 := x1.trans x2
  refine hr σ τ H2 _ (h.ext x12) (Rs.post_mono q (fun ts q vs H3 B3 x3 r3 r4 f3 => ?_) fun _ q => q.ext x12)
  split at q
  · rename_i im
    exact q ((x, y) :: vs) H3 (Uni B2 B3) (x12.trans x3) (.cons (((r1.im (B := noM) im).mono x2.kp).mono x3.kp) r3 Sub.rfl Sub.rfl noM_dj) (.cons (r2.mono x3.kp) r4 Sub.l Sub.r fun q a b => (mt_no (f2 q a).2).2.2 (f3 q b).1)
      fun q b => b.elim (fresh_ext (x1.fr f2) x3 q) (x12.fr f3 q)
  · exact q.elim
def T.keys : List T → Option (List Key)
  | [] => some []
  | k :: ks => match k.key, T.keys ks with
    | some a, some b => some (a :: b)
    | _, _ => none
theorem keys_ok {H : Hp} : ∀ {vs : List V} {ts : List T} {B : Sa} {ks : List Key}, RpL K H vs ts B → T.keys ts = some ks → vs = ks.map kV
  | _, _, _, _, .nil, e => by cases e; rfl
  | _, _, _, _, .cons h1 h2 _ _ _, e => by
    simp only [T.keys] at e
    split at e
    · rename_i a b e1 e2
      cases e
      rw [key_ok h1 e1, keys_ok h2 e2]
      rfl
    · cases e
/-- a written dict: its keys are unlike one another -/
def dispP (ps : Ev → Rs (List (T × T))) : Ev → Rs T := fun τ => (ps τ).bind fun ts => match T.keys (ts.map (·.1)) with
  | some ks => if ks.Nodup ∧ ks.length ≤ 15 then .ok (.dct (ks.zip (ts.map (·.2)))) else .bad
  | none => .bad
theorem merge_nd : ∀ (kvs acc : List (Key × V)), ((acc ++ kvs).map (·.1)).Nodup → mergeK acc kvs = acc ++ kvs
  | [], acc, _ => by unfold mergeK; simp
  | p :: kvs, acc, h => by
    unfold mergeK
    rw [List.foldl_cons]
    have hn : p.1 ∉ acc.map (·.1) := fun z => by
      rw [List.map_append, List.nodup_append] at h
      exact h.2.2 p.1 z p.1 (by simp) rfl
    have : putK acc p.1 p.2 = acc ++ [p] := put_new hn
    rw [this]
    have h2 : ((acc ++ [p] ++ kvs).map (·.1)).Nodup := by
      rw [List.append_assoc]
      exact h
    have := merge_nd kvs (acc ++ [p]) h2
    unfold mergeK at this
    rw [this, List.append_assoc]
    rfl
theorem sm_disp {trs : List (TE × TE)} {ps : Ev → Rs (List (T × T))} (hp : SmPs K W trs ps) : SmF K W (tDisp trs) (dispP ps) := fun σ τ H Q h z p np => by
  unfold dispP at z
  rw [Rs.post_bind] at z
  have x0 : Ext noM H (upd H p (.dK [])) := Ext.new np
  refine hp σ τ _ _ (h.ext x0) (Rs.post_mono z (fun ts q vs H1 B x r1 r2 f => ?_) fun _ q => q.ext x0)
  split at q
  · rename_i ks ek
    split at q
    · rename_i c
      have ep : H1 p = some (.dK []) := x p _ noM_not upd_same
      have ekv := keys_ok r1 ek
      have lv : vs.length = ks.length := by
        have := congrArg List.length ekv
        simpa using this
      have lt : ts.length = ks.length := by
        have := r1.len
        simp only [List.length_map] at this
        omega
      let kvs : List (Key × V) := ks.zip (vs.map (·.2))
      have k1 : kvs.map (·.1) = ks := List.map_fst_zip (by simp [lv])
      have k2 : kvs.map (·.2) = vs.map (·.2) := List.map_snd_zip (by simp [lv])
      have k3 : (ks.zip (ts.map (·.2))).map (·.1) = ks := List.map_fst_zip (by simp [lt])
      have k4 : (ks.zip (ts.map (·.2))).map (·.2) = ts.map (·.2) := List.map_snd_zip (by simp [lt])
      have evs : vs = kvs.map fun kv => (kV kv.1, kv.2) := by
        apply List.ext_getElem?
        intro i
        by_cases hi : i < vs.length
        · have hik : i < ks.length := by omega
          have a1 : (vs.map (·.1))[i]? = (ks.map kV)[i]? := by rw [ekv]
          rw [List.getElem?_map, List.getElem?_map, List.getElem?_eq_getElem hi, List.getElem?_eq_getElem hik] at a1
          have a1 : vs[i].1 = kV ks[i] := Option.some.inj a1
          have e2 : kvs[i]? = some (ks[i], vs[i].2) := List.getElem?_zip_eq_some.mpr ⟨List.getElem?_eq_getElem hik, by rw [List.getElem?_map, List.getElem?_eq_getElem hi]; rfl⟩
          rw [List.getElem?_map, e2, List.getElem?_eq_getElem hi]
          show some vs[i] = some (kV ks[i], vs[i].2)
          rw [← a1]
        · rw [List.getElem?_eq_none (by omega), List.getElem?_eq_none (by simp [kvs]; omega)]
      have m0 : mergeK [] kvs = kvs := merge_nd kvs [] (by rw [List.nil_append, k1]; exact c.1)
      refine ⟨ep, kvs, evs, by rw [← List.length_map (f := (·.1)), k1]; exact c.2, ?_⟩
      rw [m0]
      have nB : ∀ q, B q → q ≠ p := fun q b e => by
        have := (f q b).1
        rw [e, upd_same] at this
        cases this
      have x01 := x0.trans x
      refine q _ (upd H1 p (.dK kvs)) (fun q => q = p ∨ B q) (x01.setNew np) (.dct (.inl rfl) (.inl upd_same) (A1 := B) (fun q b => ⟨.inr b, nB q b⟩) (by rw [k1, k3]) (by rw [k3]; exact c.1) ?_) fun q z => ?_
      · rw [k2, k4]
        exact r2.mono (kp_set (.inr (.inl ⟨_, ep⟩)) nB)
      · rcases z with z | z
        · rw [z]
          exact ⟨np, .inr (.inl ⟨_, upd_same⟩)⟩
        · have := (x0.fr f) q z
          refine ⟨this.1, ?_⟩
          unfold Mt
          rw [upd_ne (nB q z)]
          exact this.2
    · exact q.elim
  · exact q.elim
end
end Rw

namespace Rw
open PySem PySem.Spec PyProof.Rows L2
section
variable {K : PySem.W.Frag} {W : WX} {R : Nat → Sa} {π : Nat → V} {te ta tb to ti : TE} {tA tK : TA} {pe pb pi : Ev → Rs T} {pA pK : Ev → Rs (List T)} {qe qa qb qi : Ev → Re Ev T} {qA : Ev → Re Ev (List T)} {pl : Ev → Rs Pl} {t u : TS} {qt qu : Ev → Re Ev Fl}
/-! ### what is only lent -/
def SmB (K : PySem.W.Frag) (W : WX) (te : TE) (pb : Ev → Rs T) : Prop := ∀ R π σ τ H A (Q : VK), Stt K R π H σ τ A → (pb τ).post (fun t => ∀ v H', Ext noM H H' → Rp K H' v t (R 0) → Q v H') (ExR K W H σ) → te σ H Q
def borVar (i : Nat) : Ev → Rs T := fun τ => match τ[i]? with
  | some (.bor t) => .ok t
  | _ => .bad
theorem sm_bVar (i : Nat) : SmB K W (tVar i) (borVar i) := fun R π σ τ H A Q S z => by
  unfold borVar at z
  split at z
  · rename_i t e
    obtain ⟨P, _, _, h3⟩ := S.sl
    obtain ⟨v, ev, r⟩ := h3 i _ e
    exact ⟨v, ev, z v H Ext.rfl r⟩
  · exact z.elim
theorem sm_bAttr {fa : List He.Fa} {f : Str} (he : SmB K W te pb) : SmB K W (tAttr K fa te f) (attrPc (attrOk fa f) pb f) := fun R π σ τ H A Q S z => by
  unfold attrPc at z
  rw [Rs.post_bind] at z
  refine he R π σ τ H A _ S (Rs.post_mono z (fun t q v H1 x y => ?_) fun _ q => q)
  by_cases ok : isInsOf (attrOk fa f) t = true
  · rw [if_pos ok] at q
    obtain ⟨u, e, q2⟩ := ofO_post q
    cases y with
    | ins m hh s ee r =>
      obtain ⟨k, e1, e2⟩ := lookup_ix e
      obtain ⟨v', e3, rv⟩ := r.get e1
      unfold isInsOf attrOk at ok
      simp only [Bool.and_eq_true] at ok
      exact ⟨_, _, _, _, v', rfl, hh, ok.1, ok.2, (e2 _ ee).trans e3, q2 v' H1 x (rv.weak fun q z => (s q z).1)⟩
    | _ => cases e
  · rw [if_neg ok] at q
    exact q.elim
theorem f_ix_reg {H : Hp} {x y : V} {s t u : T} {G By : Sa} {Q : VK} (rx : Rp K H x s G) (ry : Rp K H y t By) (e : f_ix s t = some u) (h : ∀ v, Rp K H v u G → Q v H) : rSubU' K x y H Q := by
  unfold f_ix at e
  split at e
  · obtain ⟨k, e1, e2⟩ := Option.bind_eq_some_iff.mp e
    cases rx with
    | dct m g s ee nd rr =>
      obtain ⟨v, e3, q⟩ := val_rp ee rr e2
      rw [key_ok ry e1]
      exact .inr ⟨_, v, rfl, .inl ⟨_, k, g, rfl, e3.symm⟩, h v (q.weak fun q z => (s q z).1)⟩
  · split at e
    · split at e
      · obtain ⟨c, e1, rfl⟩ := Option.map_eq_some_iff.mp e
        cases rx
        cases ry
        exact .inl (.inr (.inr ⟨_, _, c, rfl, rfl, by assumption, e1, h _ .str⟩))
      · cases e
    · cases e
  · split at e
    · rename_i ts i e1
      obtain ⟨p, vs, rfl, g, rr⟩ := items_ok rx e1
      cases ry
      obtain ⟨k, e2, e3⟩ := atI_len rr.len e
      obtain ⟨v, e4, q⟩ := rr.get e2
      rcases g with g | g
      · exact .inl (.inl ⟨p, vs, _, v, rfl, rfl, g, e3.trans e4, h v q⟩)
      · exact .inl (.inr (.inl ⟨p, vs, _, v, rfl, rfl, g, e3.trans e4, h v q⟩))
    · cases e
theorem sm_bSub (he : SmB K W te pb) (hi : SmR K W ti pi) : SmB K W (tOp (rSubU' K) te ti) (opP f_ix pb pi) := fun R π σ τ H A Q S z => by
  unfold opP at z
  rw [Rs.post_bind] at z
  refine he R π σ τ H A _ S (Rs.post_mono z (fun t q v H1 x y => ?_) fun _ q => q)
  rw [Rs.post_bind] at q
  refine hi σ τ H1 _ (S.r.ext x) (Rs.post_mono q (fun k q w H2 B2 x2 y2 => ?_) fun _ q => q.ext x)
  obtain ⟨u, e, q⟩ := ofO_post q
  exact f_ix_reg (y.mono x2.kp) y2 e fun v' r => q v' H2 (x.trans x2) r
/-- a name is lent something -/
theorem Stt.asgB {H : Hp} {σ : L2.St} {τ : Ev} {A : Sa} (S : Stt K R π H σ τ A) {i : Nat} {s : Sl} {v : V} {t : T} (e : τ[i]? = some s) (hp : s.isPar = false) (r : Rp K H v t (R 0)) : Stt K R π H (σ.set i (some v)) (τ.set i (.bor t)) A := by
  obtain ⟨l, ⟨P, h1, h2, h3⟩, dR', a, mA⟩ := S
  have hi : i < τ.length := (List.getElem?_eq_some_iff.mp e).1
  refine ⟨by rw [List.length_set, List.length_set]; exact l, ⟨P, h1, h2, fun j s' e' => ?_⟩, dR', a, mA⟩
  by_cases hj : i = j
  · subst hj
    rw [List.getElem?_set_self hi] at e'
    cases e'
    exact ⟨v, List.getElem?_set_self (Nat.lt_of_lt_of_le hi l), r⟩
  · rw [List.getElem?_set_ne hj] at e'
    have z := h3 j s' e'
    rw [List.getElem?_set_ne hj]
    exact z
def setNB (i : Nat) : T → Ev → Rs Ev := fun t τ => match τ[i]? with
  | some s => if s.isPar = true then .bad else .ok (τ.set i (.bor t))
  | none => .bad
def SmGB (K : PySem.W.Frag) (g : TG) (pg : T → Ev → Rs Ev) : Prop := ∀ R π σ τ H A v t (Q : L2.St → Hp → Prop), Stt K R π H σ τ A → Rp K H v t (R 0) → (pg t τ).post (fun τ' => ∀ σ', Stt K R π H σ' τ' A → Q σ' H) (fun _ => False) → g v σ H Q
def SmGsB (K : PySem.W.Frag) (g : TGs) (pg : List T → Ev → Rs Ev) : Prop := ∀ R π σ τ H A vs ts (Q : L2.St → Hp → Prop), Stt K R π H σ τ A → RpL K H vs ts (R 0) → (pg ts τ).post (fun τ' => ∀ σ', Stt K R π H σ' τ' A → Q σ' H) (fun _ => False) → g vs σ H Q
theorem sm_gNB (i : Nat) : SmGB K (gName i) (setNB i) := fun R π σ τ H A v t Q S r z => by
  unfold setNB at z
  split at z
  · rename_i s e
    split at z
    · exact z.elim
    · rename_i hp
      exact z _ (S.asgB e (by simpa using hp) r)
  · exact z.elim
theorem sm_gsnilB : SmGsB K gNil gnilP := fun R π σ τ H A vs ts Q S r z => by
  cases r with
  | nil => exact ⟨rfl, z σ S⟩
  | cons _ _ _ _ _ => exact z.elim
theorem sm_gsconsB {g : TG} {gs : TGs} {p : T → Ev → Rs Ev} {ps : List T → Ev → Rs Ev} (hg : SmGB K g p) (hs : SmGsB K gs ps) : SmGsB K (gCons g gs) (gconsP p ps) := fun R π σ τ H A vs ts Q S r z => by
  cases r with
  | nil => exact z.elim
  | cons h1 h2 s1 s2 dd =>
    have z : (Rs.bind _ _).post _ _ := z
    rw [Rs.post_bind] at z
    exact ⟨_, _, rfl, hg R π σ τ H A _ _ _ S (h1.weak s1) (Rs.post_mono z (fun τ' q σ' S' => hs R π σ' τ' H A _ _ Q S' (h2.weak s2) q) fun _ q => q)⟩
theorem sm_gUnpB {n : Nat} {gs : TGs} {ps : List T → Ev → Rs Ev} (hs : SmGsB K gs ps) : SmGB K (gUnp K n gs) (unpS n ps) := fun R π σ τ H A v t Q S r z => by
  unfold unpS at z
  split at z
  · rename_i ts e
    split at z
    · rename_i c
      obtain ⟨p, xs, rfl, g, rr⟩ := items_ok r e
      have z2 := hs R π σ τ H A xs ts Q S rr z
      rcases g with g | g
      · exact .inr ⟨p, xs, rfl, g, by rw [rr.len]; exact c, z2⟩
      · exact .inl ⟨p, xs, rfl, g, by rw [rr.len]; exact c, z2⟩
    · exact z.elim
  · exact z.elim
def asgBS (pb : Ev → Rs T) (pg : T → Ev → Rs Ev) : Ev → Re Ev Fl := fun τ => (upE τ (pb τ)).bind fun t _ => match pg t τ with
  | .ok τ2 => .ok .nx τ2
  | _ => .bad
theorem sm_asgB {g : TG} {pg : T → Ev → Rs Ev} (he : SmB K W te pb) (hg : SmGB K g pg) : SmS K W (tAsg te g) (asgBS pb pg) := fun R π σ τ H A D S z => by
  unfold asgBS at z
  rw [Re.post_bind] at z
  refine he R π σ τ H A _ S (Rs.post_mono (upE_post z) (fun t q v H1 x r => ?_) fun x q => ExT.r S q)
  refine hg R π σ τ H1 A v t _ (S.ext x) r ?_
  cases e : pg t τ with
  | ok τ2 =>
    rw [e] at q
    exact fun σ' S' => q σ' H1 A S' (Step.ext x)
  | exc x => rw [e] at q; exact q.elim
  | bad => rw [e] at q; exact q.elim
/-- as what is there asks -/
def altS (q1 q2 : Ev → Re Ev Fl) : Ev → Re Ev Fl := fun τ => match q1 τ with
  | .bad => q2 τ
  | r => r
theorem sm_altS (h1 : SmS K W t qt) (h2 : SmS K W t qu) : SmS K W t (altS qt qu) := fun R π σ τ H A D S z => by
  unfold altS at z
  split at z
  · exact h2 R π σ τ H A D S z
  · exact h1 R π σ τ H A D S z
theorem sm_sor (h1 : SmS K W t qt) (h2 : SmS K W u qu) : SmS K W (tSor t u) (altS qt qu) := fun R π σ τ H A D S z => by
  unfold altS at z
  split at z
  · exact .inr (h2 R π σ τ H A D S z)
  · exact .inl (h1 R π σ τ H A D S z)
/-! loops over what is lent -/
def forGoB (pg : T → Ev → Rs Ev) (qs : Ev → Re Ev Fl) : List T → Ev → Re Ev Fl := forGo pg qs
theorem for_runB {g : TG} {pg : T → Ev → Rs Ev} {J : It} {C : Sa} {xs : List T} {σ : L2.St} {τ : Ev} {H1 : Hp} {A : Sa} {D : Ends} (hg : SmGB K g pg) (hs : SmS K W t qt) (S : Stt K R π H1 σ τ A) (tl : TellsT K C J xs H1) (sC : Sub C (R 0))
    (z : (forGo pg qt xs τ).post (OkS K R π H1 A D) (ExT K R π W H1 A)) : ∃ W' : Nat → Nat → L2.St → Hp → Prop, (∃ m, W' 0 m σ H1) ∧ ∀ i m σ H, W' i m σ H →
      (J.stop i H ∧ D.nx σ H) ∨ (J.go i H ∧ ∃ N : L2.St → Hp → Prop, (∀ σ' H', N σ' H' → ∃ m', m' < m ∧ W' (i + 1) m' σ' H') ∧ ∀ x H', J.yld i H x H' → g x σ H' fun σ2 H2 => t { D with nx := N, ct := N, bk := D.nx } σ2 H2) := by
  have dC : Dj C A := fun q c a => S.dR q ⟨0, sC q c⟩ a
  refine ⟨fun i m σ' H' => i + m = xs.length ∧ ∃ τ' A', Stt K R π H' σ' τ' A' ∧ Step A H1 A' H' ∧ (forGo pg qt (xs.drop i) τ').post (OkS K R π H1 A D) (ExT K R π W H1 A), ⟨xs.length, Nat.zero_add _, τ, A, S, Step.rfl, z⟩, fun i m σ' H' ⟨hm, τ', A', S', s, q⟩ => ?_⟩
  have kp : Kp K C H1 H' := s.x.kpM S.mA dC
  have tt := tl i H' kp (s.x.fkM S.mA)
  cases m with
  | zero =>
    have e : i = xs.length := hm
    refine .inl ⟨tt.2 (by omega), ?_⟩
    rw [e, List.drop_length] at q
    exact q σ' H' A' S' s
  | succ m =>
    have hk : i < xs.length := by omega
    obtain ⟨go, yl⟩ := tt.1 _ (List.getElem?_eq_getElem hk)
    rw [List.drop_eq_getElem_cons hk] at q
    unfold forGo at q
    refine .inr ⟨go, fun σ' H' => ∃ τ' A', Stt K R π H' σ' τ' A' ∧ Step A H1 A' H' ∧ (forGo pg qt (xs.drop (i + 1)) τ').post (OkS K R π H1 A D) (ExT K R π W H1 A), fun σ2 H2 z => ⟨m, Nat.lt_succ_self m, by omega, z⟩, fun x H2 hy => ?_⟩
    obtain ⟨x2, rx⟩ := yl x H2 hy
    have S2 := S'.ext x2
    cases e : pg xs[i] τ' with
    | exc _ => rw [e] at q; exact q.elim
    | bad => rw [e] at q; exact q.elim
    | ok τ1 =>
      rw [e] at q
      have q : ((qt τ1).bind _).post _ _ := q
      rw [Re.post_bind] at q
      refine hg R π σ' τ' H2 A' x xs[i] _ S2 (rx.weak sC) (Rs.post_eq e fun σ3 S3 => ?_)
      have s13 : Step A H1 A' H2 := s.trans (Step.ext x2)
      refine hs R π σ3 τ1 H2 A' _ S3 (Re.post_mono q (fun f τ2 q => ?_) fun x τ2 q => ExT.step q s13)
      cases f with
      | nx => exact fun σ2 H2 A2 S2 s2 => ⟨τ2, A2, S2, s13.trans s2, q⟩
      | ct => exact fun σ2 H2 A2 S2 s2 => ⟨τ2, A2, S2, s13.trans s2, q⟩
      | bk => exact fun σ2 H2 A2 S2 s2 => q σ2 H2 A2 S2 (s13.trans s2)
      | rt t => exact fun v σ2 H2 A2 B S2 r d dR m s2 => q v σ2 H2 A2 B S2 r d dR m (s13.trans s2)
def forBS (pb : Ev → Rs T) (pg : T → Ev → Rs Ev) (qs : Ev → Re Ev Fl) : Ev → Re Ev Fl := fun τ => (upE τ (anyP pb τ)).bind fun xs _ => forGo pg qs xs τ
theorem sm_forB {g : TG} {pg : T → Ev → Rs Ev} (hi : SmB K W te pb) (hg : SmGB K g pg) (hs : SmS K W t qt) : SmS K W (tFor (iAny K te) g t) (forBS pb pg qt) := fun R π σ τ H A D S z => by
  unfold forBS at z
  rw [Re.post_bind] at z
  refine anyRule (τ := τ) (pe := pb) (W := W) (fun B _ => Sub B (R 0)) (fun Q q => hi R π σ τ H A Q S (Rs.post_mono q (fun t q v H' x y => q v H' (R 0) x y Sub.rfl) fun _ q => q)) (Rs.post_mono (upE_post z) (fun xs q J H1 C x tl sC => ?_) fun x q => ExT.r S q)
  exact for_runB hg hs (S.ext x) tl sC (Re.post_mono q (fun f τ q => q.step (Step.ext x)) fun _ _ q => ExT.step q (Step.ext x))
/-! a dict, locked while it's walked -/
theorem kp_lock {H : Hp} {d : Addr} {kvs : List (Key × V)} {o : Obj} {D : Sa} (h : H d = some (.dK kvs)) : Kp K D H (upd H d (.frz o (.dK kvs))) := by
  have ne : ∀ {q : Addr} {u : HO}, H q = some u → u ≠ .dK kvs → q ≠ d := fun e n z => by rw [z, h] at e; exact n (Option.some.inj e).symm
  refine ⟨fun q xs _ e => ?_, fun q xs _ e => ?_, fun q C dx fs _ e => ?_, fun q xs e => ?_, fun q xs e => ?_, fun q fs e => by rw [upd_ne (ne e (fun z => nomatch z))]; exact e, fun q o' e => by rw [upd_ne (ne e (fun z => nomatch z))]; exact e⟩
  · rw [upd_ne (ne e (fun z => nomatch z))]; exact e
  · by_cases z : q = d
    · subst z
      rcases e with e | ⟨o', e⟩
      · rw [h] at e; cases e; exact .inr ⟨o, upd_same⟩
      · rw [h] at e; cases e
    · rcases e with e | ⟨o', e⟩
      · exact .inl (by rw [upd_ne z]; exact e)
      · exact .inr ⟨o', by rw [upd_ne z]; exact e⟩
  · rw [upd_ne (ne e (fun z => nomatch z))]; exact e
  · rcases e with e | e
    · rcases e with e | ⟨o', e⟩
      · exact .inl (.inl (by rw [upd_ne (ne e (fun z => nomatch z))]; exact e))
      · exact .inl (.inr ⟨o', by rw [upd_ne (ne e (fun z => nomatch z))]; exact e⟩)
    · exact .inr e
  · rcases e with ⟨o', e⟩ | e
    · exact .inl ⟨o', by rw [upd_ne (ne e (fun z => nomatch z))]; exact e⟩
    · exact .inr e
theorem kp_unlock {H : Hp} {d : Addr} {kvs : List (Key × V)} {o : Obj} {D : Sa} (h : H d = some (.frz o (.dK kvs))) (hk : kvs ≠ []) : Kp K D H (upd H d (.dK kvs)) := by
  have ne : ∀ {q : Addr} {u : HO}, H q = some u → u ≠ .frz o (.dK kvs) → q ≠ d := fun e n z => by rw [z, h] at e; exact n (Option.some.inj e).symm
  refine ⟨fun q xs _ e => ?_, fun q xs _ e => ?_, fun q C dx fs _ e => ?_, fun q xs e => ?_, fun q xs e => ?_, fun q fs e => by rw [upd_ne (ne e (fun z => nomatch z))]; exact e, fun q o' e => by rw [upd_ne (ne e (fun z => by cases z; exact hk rfl))]; exact e⟩
  · rw [upd_ne (ne e (fun z => nomatch z))]; exact e
  · by_cases z : q = d
    · subst z
      rcases e with e | ⟨o', e⟩
      · rw [h] at e; cases e
      · rw [h] at e; cases e; exact .inl upd_same
    · rcases e with e | ⟨o', e⟩
      · exact .inl (by rw [upd_ne z]; exact e)
      · exact .inr ⟨o', by rw [upd_ne z]; exact e⟩
  · rw [upd_ne (ne e (fun z => nomatch z))]; exact e
  · rcases e with e | e
    · rcases e with e | ⟨o', e⟩
      · exact .inl (.inl (by rw [upd_ne (ne e (fun z => nomatch z))]; exact e))
      · refine .inl (.inr ⟨o', ?_⟩)
        rw [upd_ne (ne e (fun z => nomatch z))]
        exact e
    · exact .inr e
  · rcases e with ⟨o', e⟩ | e
    · exact .inl ⟨o', by rw [upd_ne (ne e (fun z => nomatch z))]; exact e⟩
    · exact .inr e
theorem tells_keys {H : Hp} {d : Addr} {o : Obj} {kvs : List (Key × V)} {ks : List Key} {C : Sa} (h : H d = some (.frz o (.dK kvs))) (e : kvs.map (·.1) = ks) : TellsT K C (Itk d o kvs) (ks.map T.ofKey) H := fun k H2 kp fk => by
  have l : kvs.length = ks.length := by rw [← e, List.length_map]
  have h2 := fk _ _ _ h
  refine ⟨fun t ht => ?_, fun hl => ⟨h2, by rw [List.length_map] at hl; omega⟩⟩
  rw [List.getElem?_map] at ht
  obtain ⟨ky, h1, rfl⟩ := Option.map_eq_some_iff.mp ht
  have hk : k < ks.length := (List.getElem?_eq_some_iff.mp h1).1
  refine ⟨⟨h2, by omega⟩, fun x H' y => ?_⟩
  obtain ⟨e1, k', v', e2, e3⟩ := y
  subst e1 e3
  have : ks[k]? = some k' := by rw [← e, List.getElem?_map, e2]; rfl
  rw [h1] at this
  cases this
  refine ⟨Ext.rfl, ?_⟩
  cases ky with
  | inl i => exact .int
  | inr s => exact .str
theorem Stt.chg {H H' : Hp} {σ : L2.St} {τ : Ev} {A : Sa} (S : Stt K R π H σ τ A) (k : ∀ D, Kp K D H H') (ha : ∀ q, At H q → At H' q) (hm : ∀ q, A q → Mt H' q) : Stt K R π H' σ τ A := by
  obtain ⟨l, ⟨P, h1, h2, h3⟩, dR', a, mA⟩ := S
  refine ⟨l, ⟨P, h1, h2, fun i s e => ?_⟩, dR', fun q z => ha q (a q z), hm⟩
  have z := h3 i s e
  cases s with
  | no => exact True.intro
  | bor t => obtain ⟨v, a, b⟩ := z; exact ⟨v, a, b.mono (k _)⟩
  | lnd t => obtain ⟨v, a, b⟩ := z; exact ⟨v, a, b.mono (k _)⟩
  | own t => obtain ⟨v, a, b⟩ := z; exact ⟨v, a, b.mono (k _)⟩
  | par t => exact ⟨z.1, z.2.mono (k _)⟩
theorem imL_keys : ∀ ks : List Key, T.imL (ks.map T.ofKey) = true
  | [] => rfl
  | k :: ks => by
    rw [List.map_cons]
    simp only [T.imL, imL_keys ks, Bool.and_true]
    cases k <;> rfl
def noXe {S α : Type} : Re S α → Re S α
  | .ok a s => .ok a s
  | _ => .bad
/-- for k in d: .., d lent -/
def forDS (i : Nat) (pg : T → Ev → Rs Ev) (qs : Ev → Re Ev Fl) : Ev → Re Ev Fl := fun τ => match τ[i]? with
  | some (.bor (.dct ks)) => noXe (forGo pg qs (ks.map fun p => T.ofKey p.1) τ)
  | _ => .bad
theorem sm_forD {g : TG} {pg : T → Ev → Rs Ev} {i : Nat} (hg : SmG K g pg) (hs : SmS K W t qt) : SmS K W (tSor (tFor (iAny K (tVar i)) g t) (tLock (tFor (iAny K (tVar i)) g t))) (forDS i pg qt) := fun R π σ τ H A D S z => by
  unfold forDS at z
  split at z
  · rename_i ks e
    obtain ⟨P, _, _, h3⟩ := S.sl
    obtain ⟨v, ev, r⟩ := h3 i _ e
    cases r with
    | @dct d kvs _ _ A1 m h s ee nd rr =>
      have eks : (ks.map fun p => T.ofKey p.1) = (ks.map (·.1)).map T.ofKey := by rw [List.map_map]; rfl
      rw [eks] at z
      cases eg : forGo pg qt ((ks.map (·.1)).map T.ofKey) τ with
      | bad => rw [eg] at z; exact z.elim
      | exc x s => rw [eg] at z; exact z.elim
      | ok f τ' =>
        rw [eg] at z
        have z : OkS K R π H A D f τ' := z
        have nd : ∀ {A' : Sa} {H' : Hp}, Stt K R π H' σ τ A' → ¬ A' d := fun S' a => S'.dR d ⟨0, m⟩ a
        rcases h with h | ⟨o, h⟩
        · -- live: it's locked
          refine .inr ⟨d, .dK kvs, h, True.intro, fun od => ?_⟩
          by_cases hk : kvs = []
          · subst hk
            have ek : ks.map (·.1) = [] := ee.symm
            rw [ek] at eg
            have eg : Re.ok Fl.nx τ = .ok f τ' := eg
            cases eg
            refine .inr (.inr ⟨.ref d, ev, d, od, rfl, .inl ⟨[], upd_same, ?_⟩⟩)
            refine for_nil (K := K) (C := noM) (tells_keys upd_same rfl) ⟨upd_same, ?_⟩
            have eH : upd (upd H d (.frz od (.dK []))) d (.dK []) = H := by
              funext b
              by_cases c : b = d
              · rw [c, upd_same, h]
              · rw [upd_ne c, upd_ne c]
            rw [eH]
            exact z σ H A S Step.rfl
          generalize eH : upd H d (.frz od (.dK kvs)) = H0
          have e0 : H0 d = some (.frz od (.dK kvs)) := by rw [← eH]; exact upd_same
          have old : ∀ q, q ≠ d → H0 q = H q := fun q n => by rw [← eH]; exact upd_ne n
          have S0 : Stt K R π H0 σ τ A := S.chg (fun D => by rw [← eH]; exact kp_lock h) (fun q z => by
            unfold At at z ⊢
            by_cases c : q = d
            · rw [c, e0]; simp
            · rw [old q c]; exact z) fun q a => by
            have c : q ≠ d := fun c => S.dR d ⟨0, m⟩ (by rw [← c]; exact a)
            have := S.mA q a
            unfold Mt at this ⊢
            rw [old q c]
            exact this
          have nA : ¬ A d := fun a => S.dR d ⟨0, m⟩ a
          -- what is behind: unlocked
          have un : ∀ {σ' : L2.St} {H' : Hp} {A' B : Sa} {τ' : Ev}, Stt K R π H' σ' τ' A' → Step A H0 (Uni A' B) H' → H' d = some (.frz od (.dK kvs)) ∧ Stt K R π (upd H' d (.dK kvs)) σ' τ' A' ∧ Step A H (Uni A' B) (upd H' d (.dK kvs)) := by
            intro σ' H' A' B τ' S' st
            have ed : H' d = some (.frz od (.dK kvs)) := st.x d _ nA e0
            refine ⟨ed, S'.chg (fun D => kp_unlock ed hk) (fun q z => ?_) (fun q a => ?_), ⟨fun q o n eq => ?_, fun q z => ?_⟩⟩
            · unfold At at z ⊢
              by_cases c : q = d
              · rw [c, upd_same]; simp
              · rw [upd_ne c]; exact z
            · by_cases c : q = d
              · rw [c]; exact .inr (.inl ⟨_, upd_same⟩)
              · have := S'.mA q a
                unfold Mt at this ⊢
                rw [upd_ne c]
                exact this
            · by_cases c : q = d
              · rw [c, upd_same, ← h, ← c]; exact eq
              · rw [upd_ne c]
                exact st.x q o n (by rw [old q c]; exact eq)
            · rcases st.g q z with y | y
              · exact .inl y
              · by_cases c : q = d
                · rw [c, e0] at y; cases y
                · exact .inr (by rw [← old q c]; exact y)
          refine .inr (.inr ⟨.ref d, ev, d, od, rfl, .inl ⟨kvs, e0, ?_⟩⟩)
          refine for_run (C := noM) hg hs S0 (tells_keys e0 ee) noM_dj (imL_keys _) ?_
          rw [eg]
          cases f with
          | nx =>
            intro σ' H' A' S' st
            obtain ⟨a, b, c⟩ := un (B := noM) S' (st.more fun _ z => z.elim)
            exact ⟨a, z σ' _ A' b (c.sub Sub.l)⟩
          | bk =>
            intro σ' H' A' S' st
            obtain ⟨a, b, c⟩ := un (B := noM) S' (st.more fun _ z => z.elim)
            exact ⟨a, z σ' _ A' b (c.sub Sub.l)⟩
          | ct =>
            intro σ' H' A' S' st
            obtain ⟨a, b, c⟩ := un (B := noM) S' (st.more fun _ z => z.elim)
            exact ⟨a, z σ' _ A' b (c.sub Sub.l)⟩
          | rt t' =>
            intro v σ' H' A' B S' rv dv dR mv st
            obtain ⟨a, b, c⟩ := un S' st
            have nB : ¬ B d := fun y => dR d ⟨0, m⟩ y
            refine ⟨a, z v σ' _ A' B b (rv.mono (kp_unlock a hk)) dv dR (fun q y => ?_) c⟩
            have cq : q ≠ d := fun c => nB (by rw [← c]; exact y)
            have := mv q y
            unfold Mt at this ⊢
            rw [upd_ne cq]
            exact this
        · -- locked already
          refine .inl (.inr (.inr ⟨.ref d, ev, d, o, rfl, .inl ⟨kvs, h, ?_⟩⟩))
          refine for_run (C := noM) hg hs S (tells_keys h ee) noM_dj (imL_keys _) ?_
          rw [eg]
          exact z
  · exact z.elim
end
end Rw

namespace Rw
open PySem PySem.Spec PyProof.Rows L2
/-- a tuple of the module -/
def TabOk (K : PySem.W.Frag) (x : Str) (ts : List T) : Prop := ∃ vs : List V, (∀ H : Hp, SqT K H (He.ga K x) vs) ∧ ∀ H, RpL K H vs ts noM
section
variable {K : PySem.W.Frag} {W : WX} {R : Nat → Sa} {π : Nat → V} {te ta tb to ti : TE} {tA tK : TA} {pe pi pa pb : Ev → Rs T} {pA pK : Ev → Rs (List T)} {qe : Ev → Re Ev T} {qA : Ev → Re Ev (List T)} {t u : TS} {qt qu : Ev → Re Ev Fl} {pl : Ev → Rs Pl}
/-! sorted -/
def isort (ns : List Int) : List Int := ns.mergeSort fun a b => decide (a ≤ b)
theorem isort_perm (ns : List Int) : (isort ns).Perm ns := List.mergeSort_perm _ _
theorem isort_le (ns : List Int) : (isort ns).Pairwise (· ≤ ·) := by
  have := List.pairwise_mergeSort (le := fun a b : Int => decide (a ≤ b)) (fun a b c h1 h2 => by simp at *; omega) (fun a b => by simp; omega) ns
  exact this.imp (fun h => by simpa using h)
theorem isort_eq {ns ys : List Int} (p : ys.Perm ns) (s : ys.Pairwise (· ≤ ·)) : ys = isort ns :=
  List.Perm.eq_of_pairwise (le := fun a b => a ≤ b) (fun a b _ _ h1 h2 => Int.le_antisymm h1 h2) s (isort_le ns) (p.trans (isort_perm ns).symm)
def kInts : List Key → Option (List Int)
  | [] => some []
  | .inl i :: ks => (kInts ks).map (i :: ·)
  | _ => none
theorem kInts_ok : ∀ {ks : List Key} {ns : List Int}, kInts ks = some ns → ks = ns.map Sum.inl
  | [], _, e => by cases e; rfl
  | .inl i :: ks, _, e => by
    obtain ⟨ms, e1, rfl⟩ := Option.map_eq_some_iff.mp (show (kInts ks).map _ = _ from e)
    rw [kInts_ok e1]
    rfl
  | .inr _ :: _, _, e => by cases e
def lexB2 (a b : Int × Int) : Bool := decide (a.1 < b.1) || (decide (a.1 = b.1) && decide (a.2 ≤ b.2))
def psort (ps : List (Int × Int)) : List (Int × Int) := ps.mergeSort lexB2
theorem psort_perm (ps : List (Int × Int)) : (psort ps).Perm ps := List.mergeSort_perm _ _
theorem psort_le (ps : List (Int × Int)) : (psort ps).Pairwise fun a b => a.1 < b.1 ∨ a.1 = b.1 ∧ a.2 ≤ b.2 := by
  have := List.pairwise_mergeSort (le := lexB2) (fun a b c h1 h2 => by unfold lexB2 at *; simp at *; omega) (fun a b => by unfold lexB2; simp; omega) ps
  exact this.imp (fun h => by unfold lexB2 at h; simpa using h)
theorem psort_eq {ps ys : List (Int × Int)} (p : ys.Perm ps) (s : ys.Pairwise fun a b => a.1 < b.1 ∨ a.1 = b.1 ∧ a.2 ≤ b.2) : ys = psort ps :=
  List.Perm.eq_of_pairwise (le := fun a b : Int × Int => a.1 < b.1 ∨ a.1 = b.1 ∧ a.2 ≤ b.2) (fun a b _ _ h1 h2 => Prod.ext (by omega) (by omega)) s (psort_le ps) (p.trans (psort_perm ps).symm)
theorem rp_prAt {H : Hp} {v : V} {p : Int × Int} (h : prAt K H p v) : Rp K H v (.tup [.int p.1, .int p.2]) noM := by
  obtain ⟨t, rfl, g⟩ := h
  exact .tup g (.cons .int (.cons .int .nil noM_sub noM_sub noM_dj) noM_sub noM_sub noM_dj)
theorem rp_prAts {H : Hp} : ∀ {qs : List (Int × Int)} {ys : List V}, Paired (prAt K H) qs ys → RpL K H ys (qs.map fun p => .tup [.int p.1, .int p.2]) noM
  | _, _, .nil => .nil
  | _, _, .cons h t => .cons (rp_prAt h) (rp_prAts t) noM_sub noM_sub noM_dj
def q_sorted : List T → Option T
  | [.dct ks] => (kInts (ks.map (·.1))).map fun ns => .lst ((isort ns).map T.int)
  | [t] => t.lits.bind fun ts => match T.ints ts with
    | some ns => some (.lst ((isort ns).map T.int))
    | none => (T.prs ts).map fun ps => .lst ((psort ps).map fun p => .tup [.int p.1, .int p.2])
  | _ => none
theorem fn_sorted : FnS (rSortU K) K q_sorted := fun vs ts H Q u h e q => by
  unfold q_sorted at e
  split at e
  · obtain ⟨ns, e1, rfl⟩ := Option.map_eq_some_iff.mp e
    obtain ⟨v, B, rfl, r⟩ := each1 h
    cases r with
    | dct m g s ee nd rr =>
      refine .inr (.inr (.inr ⟨_, _, ns, rfl, g, by rw [ee]; exact kInts_ok e1, fun ys p hp hs np => ?_⟩))
      rw [isort_eq hp hs]
      exact q _ _ _ (Ext.new np) (new_im np (rp_ints _)) (fresh_lst np)
  · obtain ⟨ts, e1, e2⟩ := Option.bind_eq_some_iff.mp e
    obtain ⟨v, B, rfl, r⟩ := each1 h
    obtain ⟨p, ws, rfl, g, rr⟩ := lits_ok r e1
    split at e2
    · rename_i ns e2'
      cases e2
      rw [ints_ok rr e2'] at g
      refine .inl ⟨p, ns, rfl, g, fun ys p hp hs np => ?_⟩
      rw [isort_eq hp hs]
      exact q _ _ _ (Ext.new np) (new_im np (rp_ints _)) (fresh_lst np)
    · obtain ⟨ps, e3, rfl⟩ := Option.map_eq_some_iff.mp e2
      refine .inr (.inr (.inl ⟨p, ws, ps, rfl, g, prs_ok rr e3, fun ys qs p hy hp hs np => ?_⟩))
      rw [← psort_eq hp hs] at q
      exact q _ _ _ (Ext.new np) (new_im np ((rp_prAts hy))) (fresh_lst np)
  · cases e
/-! min of a list: of ints, of pairs of ints -/
theorem minP_fold : ∀ (ps : List (Int × Int)) (a : Int × Int), (ps.foldl (fun a p => if lexLe a p = true then a else p) a = a ∨ ps.foldl (fun a p => if lexLe a p = true then a else p) a ∈ ps) ∧
    lexLe (ps.foldl (fun a p => if lexLe a p = true then a else p) a) a = true ∧ ∀ y ∈ ps, lexLe (ps.foldl (fun a p => if lexLe a p = true then a else p) a) y = true
  | [], a => ⟨.inl rfl, by unfold lexLe; simp, fun _ h => (List.not_mem_nil h).elim⟩
  | p :: ps, a => by
    have tr : ∀ {x y z : Int × Int}, lexLe x y = true → lexLe y z = true → lexLe x z = true := fun {x y z} h1 h2 => by
      unfold lexLe at *
      simp only [Bool.or_eq_true, Bool.and_eq_true, decide_eq_true_eq] at *
      omega
    have tot : ∀ {x y : Int × Int}, ¬ lexLe x y = true → lexLe y x = true := fun {x y} h => by
      unfold lexLe at *
      simp only [Bool.or_eq_true, Bool.and_eq_true, decide_eq_true_eq] at *
      omega
    rw [List.foldl_cons]
    by_cases c : lexLe a p = true
    · rw [if_pos c]
      obtain ⟨h1, h2, h3⟩ := minP_fold ps a
      refine ⟨h1.imp id (List.mem_cons_of_mem _), h2, fun y hy => ?_⟩
      rcases List.mem_cons.mp hy with e | e
      · rw [e]; exact tr h2 c
      · exact h3 y e
    · rw [if_neg c]
      obtain ⟨h1, h2, h3⟩ := minP_fold ps p
      refine ⟨.inr (h1.elim (fun e => by rw [e]; exact List.mem_cons_self) (List.mem_cons_of_mem _)), tr h2 (tot c), fun y hy => ?_⟩
      rcases List.mem_cons.mp hy with e | e
      · rw [e]; exact h2
      · exact h3 y e
theorem minP_mem {ps : List (Int × Int)} (ne : ps ≠ []) : minP ps ∈ ps := by
  cases ps with
  | nil => exact absurd rfl ne
  | cons p ps =>
    unfold minP
    rcases (minP_fold (p :: ps) p).1 with e | e
    · show List.foldl _ p _ ∈ _
      rw [e]; exact List.mem_cons_self
    · exact e
theorem minP_le {ps : List (Int × Int)} {y : Int × Int} (hy : y ∈ ps) : lexLe (minP ps) y = true := by
  cases ps with
  | nil => exact (List.not_mem_nil hy).elim
  | cons p ps => exact (minP_fold (p :: ps) p).2.2 y hy
def q_min1 : List T → Option T
  | [t] => t.lits.bind fun ts => match T.ints ts with
    | some bs => if bs.isEmpty = true then none else some (.int (minI bs))
    | none => (T.prs ts).bind fun ps => if ps.isEmpty = true then none else some (.tup [.int (minP ps).1, .int (minP ps).2])
  | _ => none
theorem prs_ts : ∀ {ts : List T} {ps : List (Int × Int)}, T.prs ts = some ps → ts = ps.map fun p => .tup [.int p.1, .int p.2]
  | [], _, e => by cases e; rfl
  | t :: ts, ps, e => by
    unfold T.prs at e
    split at e
    · rename_i z; cases z
    · rename_i i j xs z
      cases z
      obtain ⟨ms, e1, rfl⟩ := Option.map_eq_some_iff.mp e
      rw [List.map_cons, ← prs_ts e1]
    · cases e
theorem fn_min1 : FnS (rMinU K) K q_min1 := fun vs ts H Q u h e q => by
  unfold q_min1 at e
  split at e
  · obtain ⟨ts, e1, e2⟩ := Option.bind_eq_some_iff.mp e
    obtain ⟨v, B, rfl, r⟩ := each1 h
    obtain ⟨p, ws, rfl, g, rr⟩ := lits_ok r e1
    split at e2
    · rename_i bs eb
      split at e2
      · cases e2
      · rename_i ne
        have ne := ne_of_isEmpty ne
        cases e2
        rw [ints_ok rr eb] at g
        refine .inl ⟨p, bs, rfl, g, List.length_pos_iff.mpr ne, fun m m1 m2 => ?_⟩
        have : m = minI bs := Int.le_antisymm (m2 _ (minI_mem ne)) (minI_le m1)
        rw [this]
        exact q _ H noM Ext.rfl .int fresh_no
    · obtain ⟨ps, e3, e2⟩ := Option.bind_eq_some_iff.mp e2
      split at e2
      · cases e2
      · rename_i ne
        have ne := ne_of_isEmpty ne
        cases e2
        have et := prs_ts e3
        have lw : ws.length = ps.length := by rw [rr.len, et, List.length_map]
        refine .inr ⟨p, ws, fun i => ps.getD i (0, 0), rfl, g, fun z => ne (List.length_eq_zero_iff.mp (by rw [← lw, z]; rfl)), fun i x ex => ?_, fun i m em hm => ?_⟩
        · obtain ⟨t', e4, r4⟩ := rr.getV ex
          rw [et, List.getElem?_map] at e4
          obtain ⟨pp, e5, rfl⟩ := Option.map_eq_some_iff.mp e4
          have gd : ps.getD i (0, 0) = pp := by rw [List.getD_eq_getElem?_getD, e5]; rfl
          show ∃ t, x = V.ref t ∧ SqT K H t [V.int (ps.getD i (0, 0)).1, V.int (ps.getD i (0, 0)).2]
          rw [gd]
          exact rp_pair r4
        · obtain ⟨t', e4, r4⟩ := rr.getV em
          rw [et, List.getElem?_map] at e4
          obtain ⟨pp, e5, rfl⟩ := Option.map_eq_some_iff.mp e4
          have gd : ∀ {i pp}, ps[i]? = some pp → ps.getD i (0, 0) = pp := fun e5 => by rw [List.getD_eq_getElem?_getD, e5]; rfl
          obtain ⟨j, hj, ej⟩ := List.mem_iff_getElem.mp (minP_mem ne)
          have h1 := hm j (by rw [lw]; exact hj)
          simp only [gd e5, gd ((List.getElem?_eq_getElem hj).trans (congrArg some ej))] at h1
          have h2 := minP_le (List.mem_of_getElem? e5)
          have : minP ps = pp := by
            unfold lexLe at h2
            simp only [Bool.or_eq_true, Bool.and_eq_true, decide_eq_true_eq] at h2
            have h1 : ¬ ((minP ps).1 < pp.1 ∨ (minP ps).1 = pp.1 ∧ (minP ps).2 < pp.2) := h1
            exact Prod.ext (by omega) (by omega)
          rw [this] at q
          exact q m H noM Ext.rfl (r4.im rfl) fresh_no
  · cases e
/-! o[lo:hi] = xs -/
def putSl (u : T) (lo hi : Option Int) (t : T) : Option T := match u, lo, hi, t with
  | .lst xs, some a, some z, .lst ys => if T.imL xs = true ∧ T.imL ys = true ∧ 0 ≤ a ∧ a ≤ z ∧ z ≤ xs.length ∧ xs.length + ys.length ≤ sizeLine then some (.lst (xs.take a.toNat ++ ys ++ xs.drop z.toNat)) else none
  | _, _, _, _ => none
def setSl (pl : Ev → Rs Pl) (p1 p2 : Ev → Rs (Option Int)) : T → Ev → Rs Ev := fun t τ => (noX (pl τ)).bind fun p => (noX (p1 τ)).bind fun lo => (noX (p2 τ)).bind fun hi => match mineAt τ p with
  | some u => ofO ((putSl u lo hi t).map fun u' => setAt τ p u')
  | none => .bad
theorem sm_gSl {t1 t2 : TO} {p1 p2 : Ev → Rs (Option Int)} (hl : SmL K W to pl) (h1 : SmO K W t1 p1) (h2 : SmO K W t2 p2) : SmG K (gSsl to t1 t2) (setSl pl p1 p2) := fun R π σ τ H A v t B Q S r d dR m z => by
  unfold setSl at z
  rw [Rs.post_bind] at z
  refine hl σ τ H _ S.r (Rs.post_mono (noX_post (e' := ExR K W H σ) z) (fun p q v0 w H1 x ev rc => ?_) fun _ q => q)
  rw [Rs.post_bind] at q
  refine h1 σ τ H1 _ (S.r.ext x) (Rs.post_mono (noX_post (e' := ExR K W H1 σ) q) (fun lo q H2 x2 => ?_) fun _ q => q)
  rw [Rs.post_bind] at q
  refine h2 σ τ H2 _ (S.r.ext (x.trans x2)) (Rs.post_mono (noX_post (e' := ExR K W H2 σ) q) (fun hi q H3 x3 => ?_) fun _ q => q)
  have x13 := (x.trans x2).trans x3
  split at q
  · rename_i u e
    obtain ⟨τ', e2, q⟩ := ofO_post q
    obtain ⟨u', e3, rfl⟩ := Option.map_eq_some_iff.mp e2
    have S2 := S.ext x13
    obtain ⟨Bu, ru, mu, dj, pf⟩ := put_frame (H := H) S2 ev (rc.ext (x2.trans x3)) e d dR (Q := fun H3 => Q σ H3) (u' := u') fun H' A' S' s => q σ H' A' S' ((Step.ext x13).trans s)
    have ry := r.mono (A := B) x13.kp
    unfold putSl at e3
    split at e3
    · split at e3
      · rename_i c
        obtain ⟨c1, c2, c3, c4, c5, c6⟩ := c
        cases e3
        cases ru with
        | @lst la vs _ _ A1 ma ha sa ra =>
          cases ry with
          | @lst b ws _ _ B1 mb hb sb rb =>
            refine ⟨la, b, vs, ws, _, _, rfl, rfl, rfl, rfl, ha, hb, fun e => dj la ma (by rw [e]; exact mb), c3, c4, by rw [ra.len]; exact c5, by rw [ra.len, rb.len]; exact c6, ?_⟩
            have rv := ra.im c1
            have rw' := rb.im c2
            have rr : ∀ a z : Nat, RpL K H3 (vs.take a ++ ws ++ vs.drop z) (_ ++ _ ++ _) noM := fun a z => ((rpl_take a rv).append rw' noM_dj |>.weak (fun q z => z.elim id id)).append (rpl_drop z rv) noM_dj |>.weak fun q z => z.elim id id
            exact pf _ Bu (Ext.set ma) (.lst ma upd_same (A1 := noM) (fun _ z => z.elim) ((rr _ _).mono (kp_set (mu la ma) fun _ z => z.elim))) (fun q z => .inl z) fun q z => upd_mt (.inl ⟨_, upd_same⟩) (B := Bu) mu q (.inl z)
      · cases e3
    · cases e3
  · exact q.elim
/-! xs.pop(i) -/
def q_popAt : T → List T → Option (T × T)
  | .lst xs, [.int i] => if -(2 ^ 63) ≤ i ∧ i < 2 ^ 63 ∧ T.imL xs = true then (seqIndex? i xs.length).bind fun j => (xs[j]?).map fun y => (y, .lst (xs.eraseIdx j)) else none
  | _, _ => none
theorem rpl_erase {H : Hp} : ∀ {vs : List V} {ts : List T} (n : Nat), RpL K H vs ts noM → RpL K H (vs.eraseIdx n) (ts.eraseIdx n) noM
  | _, _, _, .nil => .nil
  | _, _, 0, .cons h1 h2 s1 s2 d => h2.weak s2
  | _, _, n + 1, .cons h1 h2 s1 s2 d => .cons (h1.weak s1) (rpl_erase n (h2.weak s2)) Sub.rfl Sub.rfl noM_dj
theorem mtm_popAt : MtM rPopAt K q_popAt := fun w vs u ts Bu Bv H Q res u' ru mu rv d mv e q => by
  unfold q_popAt at e
  split at e
  · split at e
    · rename_i c
      obtain ⟨c1, c2, c3⟩ := c
      obtain ⟨j, e1, e2⟩ := Option.bind_eq_some_iff.mp e
      obtain ⟨y, e3, e4⟩ := Option.map_eq_some_iff.mp e2
      cases e4
      cases ru with
      | @lst a xs _ _ A1 m h s r =>
        obtain ⟨x, B, rfl, rx⟩ := each1 (rpl_each rv)
        cases rx
        have r0 := r.im c3
        obtain ⟨v, ev, rr⟩ := r0.get e3
        refine ⟨a, xs, _, j, v, rfl, rfl, h, c1, c2, by rw [r.len]; exact e1, ev, ?_⟩
        refine q v _ Bu noM (.lst m upd_same (A1 := noM) (fun _ z => z.elim) ((rpl_erase j r0).mono (kp_set (mu a m) fun _ z => z.elim))) (rr.mono (kp_set (mu a m) fun _ h => h.elim)) dj_noM (fun q z => upd_mt (.inl ⟨_, upd_same⟩) mu q (.inl z)) (fun _ h => h.elim) (Ext.set m) fun q z => z.elim (fun z => .inl (.inl z)) fun z => z.elim
    · cases e
  · cases e
/-! for x in range(..), the ends changing something -/
def SmIE (K : PySem.W.Frag) (W : WX) (wi : TI) (qi : Ev → Re Ev (List T)) : Prop := ∀ R π σ τ H A (P : It → Hp → Prop), Stt K R π H σ τ A →
  (qi τ).post (fun ts τ' => ∀ J H' A', Stt K R π H' σ τ' A' → TellsT K noM J ts H' → Step A H A' H' → P J H') (ExS K R π W σ H A) → wi σ H P
def rng1E (qA : Ev → Re Ev (List T)) : Ev → Re Ev (List T) := fun τ => (qA τ).bind fun ts τ1 => match ts with
  | [.int j] => if okRng j = true then .ok (rngT 0 j.toNat) τ1 else .bad
  | _ => .bad
def rng2E (qA : Ev → Re Ev (List T)) : Ev → Re Ev (List T) := fun τ => (qA τ).bind fun ts τ1 => match ts with
  | [.int i, .int j] => if (okRng i && okRng j) = true then .ok (rngT i (j - i).toNat) τ1 else .bad
  | _ => .bad
theorem sm_rng1E (hA : SmAE K W tA qA) : SmIE K W (iRng1 tA) (rng1E qA) := fun R π σ τ H A P S z => by
  unfold rng1E at z
  rw [Re.post_bind] at z
  refine hA R π σ τ H A _ S (Re.post_mono z (fun ts τ1 q vs H1 A1 B1 S1 r1 d1 dR1 m1 s1 => ?_) fun _ _ q => q)
  split at q
  · split at q
    · rename_i c
      obtain ⟨v, B, rfl, r⟩ := each1 (rpl_each r1)
      cases r
      exact ⟨_, rfl, (okRng_ok c).1, (okRng_ok c).2, q _ H1 A1 S1 tells_rngT (s1.sub Sub.l)⟩
    · exact q.elim
  · exact q.elim
theorem sm_rng2E (hA : SmAE K W tA qA) : SmIE K W (iRng2 tA) (rng2E qA) := fun R π σ τ H A P S z => by
  unfold rng2E at z
  rw [Re.post_bind] at z
  refine hA R π σ τ H A _ S (Re.post_mono z (fun ts τ1 q vs H1 A1 B1 S1 r1 d1 dR1 m1 s1 => ?_) fun _ _ q => q)
  split at q
  · split at q
    · rename_i c
      rw [Bool.and_eq_true] at c
      obtain ⟨v, w, B, C, rfl, r, r2⟩ := each2 (rpl_each r1)
      cases r
      cases r2
      have c1 := okRng_ok c.1
      have c2 := okRng_ok c.2
      exact ⟨_, _, rfl, ⟨c1.1, c1.2, c2.1, c2.2⟩, q _ H1 A1 S1 tells_rngT (s1.sub Sub.l)⟩
    · exact q.elim
  · exact q.elim
def forE (qi : Ev → Re Ev (List T)) (pg : T → Ev → Rs Ev) (qs : Ev → Re Ev Fl) : Ev → Re Ev Fl := fun τ => (qi τ).bind fun xs τ1 => if T.imL xs = true then forGo pg qs xs τ1 else .bad
theorem sm_forE {wi : TI} {qi : Ev → Re Ev (List T)} {g : TG} {pg : T → Ev → Rs Ev} (hi : SmIE K W wi qi) (hg : SmG K g pg) (hs : SmS K W t qt) : SmS K W (tFor wi g t) (forE qi pg qt) := fun R π σ τ H A D S z => by
  unfold forE at z
  rw [Re.post_bind] at z
  refine hi R π σ τ H A _ S (Re.post_mono z (fun xs τ1 q J H1 A1 S1 tl s1 => ?_) fun x τ1 q => ExT.s q)
  split at q
  · rename_i im
    exact for_run hg hs S1 tl noM_dj im (Re.post_mono q (fun f τ q => q.step s1) fun _ _ q => ExT.step q s1)
  · exact q.elim
/-! o[k] = v, o a name, k changing something -/
def setKV (i : Nat) (qi : Ev → Re Ev T) (t : T) : Ev → Re Ev Fl := fun τ => match varP i τ with
  | .ok _ => (qi τ).bind fun k τ1 => match mineAt τ1 (i, []) with
    | some u => match putT u k t with
      | some u' => .ok .nx (setAt τ1 (i, []) u')
      | none => .bad
    | none => .bad
  | _ => .bad
def asgKV (i : Nat) (qe qi : Ev → Re Ev T) : Ev → Re Ev Fl := fun τ => (qe τ).bind fun t τ1 => setKV i qi t τ1
theorem sm_asgKV {i : Nat} {qi : Ev → Re Ev T} (he : SmE K W te qe) (hi : SmE K W ti qi) : SmS K W (tAsg te (gSub (tVar i) ti rPutU)) (asgKV i qe qi) := fun R π σ τ H A D S z => by
  unfold asgKV at z
  rw [Re.post_bind] at z
  refine he R π σ τ H A _ S (Re.post_mono z (fun t τ1 q v H1 A1 B1 S1 r1 d1 dR1 m1 s1 => ?_) fun x τ1 q => ExT.s q)
  unfold setKV at q
  split at q
  · rename_i x0 e0
    obtain ⟨s0, es0, et0⟩ := varP_ok e0
    obtain ⟨v0, B0, ev, _⟩ := S1.r.sl i s0 _ es0 et0
    refine ⟨v0, ev, ?_⟩
    rw [Re.post_bind] at q
    refine hi R π σ τ1 H1 A1 _ S1 (Re.post_mono q (fun k τ2 q kk H2 A2 B2 S2 r2 d2 dR2 m2 s2 => ?_) fun x τ2 q => ExT.s (ExT.step q (s1.sub Sub.l)))
    split at q
    · rename_i u e
      split at q
      · rename_i u' e3
        have s2' := s2.sub (B := A2) Sub.l
        obtain ⟨Bu, ru, mu, dj, pf⟩ := put_frame (H := H) S2 ev .nil e (aside_dj m1 d1 s2') dR1 (u' := u') (Q := fun H3 => D.nx σ H3) fun H' A' S' s => q σ H' A' S' ((s1.trans (A2 := Uni A2 B1) ⟨fun q o n e => s2.x q o (fun z => n (.inl z)) e, fun q z => z.elim (fun z => (s2.g q (.inl z)).imp .inl id) fun z => .inl (.inr z)⟩).trans s)
        exact put_core ru mu r2 (aside r1 d1 S1.mA s2') dj (aside_mt m1 d1 s2') e3 pf
      · exact q.elim
    · exact q.elim
  · exact q.elim
/-- C(..), the arguments changing something; what they are can't be changed itself -/
theorem mk_tail {c : Cn} {x : Str} {na : Nat} {ks : List Str} {s : Shp} {pf : List T → Re (List T) T} (sp : SpF c.K (c.Ph s.key) [true] pf) (hp : headPos s.plan = true) {σ : L2.St} {H H1 H2 : Hp} {Q : VK} {vs zs : List V} {ts us : List T} (x1 : Ext noM H H1) (x2 : Ext noM H1 H2) (y1 : EachR c.K H1 vs ts) (y2 : EachR c.K H2 zs us)
    (q : (if ts.length = na ∧ us.length = ks.length then match pf (plugT s.plan (.ins x [] :: ts) us) with
    | .ok .non (t :: _) => Rs.ok t
    | .exc x _ => .exc x
    | _ => .bad
  else .bad).post (OkF c.K H Q) (ExR c.K c.W H σ)) : vs.length = na ∧ zs.length = ks.length ∧ ∀ d dx, H2 d = none → H2 dx = none → dx ≠ d → c.Ph s.key (plug c.K s.plan (.ref d :: vs) zs) (upd (upd H2 dx (.own d)) d (.ins (He.ga c.K x) dx [])) (fun v H3 => v = .non ∧ Q (.ref d) H3) (WE c.W σ) := by
  have x12 := x1.trans x2
  split at q
  · rename_i l
    refine ⟨(Paired.length y1).trans l.1, (Paired.length y2).trans l.2, fun d dx nd ndx ne => ?_⟩
    generalize eH : upd (upd H2 dx (.own d)) d (.ins (He.ga c.K x) dx []) = H3
    have x3 : Ext noM H2 H3 := by
      rw [← eH]
      exact (Ext.new ndx).trans (Ext.new (by rw [upd_ne ne.symm]; exact nd))
    have ed : H3 d = some (.ins (He.ga c.K x) dx []) := by rw [← eH]; exact upd_same
    have x13 := x12.trans x3
    have rd : Rp c.K H3 (.ref d) (.ins x []) (at1 d) := .ins rfl ed (A1 := noM) (fun _ z => z.elim) rfl .nil
    have each : EachR c.K H3 (V.ref d :: vs) (T.ins x [] :: ts) := .cons ⟨_, rd⟩ (each_mono y1 (x2.trans x3))
    cases hpl : s.plan with
    | nil => rw [hpl] at hp; cases hp
    | cons s0 pl0 =>
      rw [hpl] at hp q
      have hs0 : s0 = .pos 0 ∧ (pl0.all fun s => match s with | .pos 0 => false | _ => true) = true := by
        cases s0 with
        | pos i =>
          cases i with
          | zero => exact ⟨rfl, hp⟩
          | succ i => cases hp
        | _ => cases hp
      obtain ⟨rfl, hall⟩ := hs0
      -- the other arguments stand apart from the new instance
      have oth : ∀ (i : Nat) v t, (plug c.K pl0 (V.ref d :: vs) zs)[i]? = some v → (plugT pl0 (T.ins x [] :: ts) us)[i]? = some t → Rp c.K H3 v t (fun q => At H3 q ∧ ¬ at1 d q) := by
        intro i v t e1 e2
        unfold plug at e1
        unfold plugT at e2
        rw [List.getElem?_map] at e1 e2
        cases ep : pl0[i]? with
        | none => rw [ep] at e1; cases e1
        | some src =>
          rw [ep] at e1 e2
          have hsrc := List.all_eq_true.mp hall src (List.mem_of_getElem? ep)
          have old : ∀ {w : V} {u : T}, (∃ B, Rp c.K H2 w u B) → Rp c.K H3 w u (fun q => At H3 q ∧ ¬ at1 d q) := fun {w u} ⟨B, r⟩ => (r.at_.mono x3.kp).weak fun q z => ⟨at_ext x3 z.2, fun e => z.2 (by rw [show q = d from e]; exact nd)⟩
          cases src with
          | pos j =>
            cases j with
            | zero => cases hsrc
            | succ j =>
              have e1 : some (nth vs j) = some v := e1
              have e2 : some (ntT (T.ins x [] :: ts) (j + 1)) = some t := e2
              cases e1
              cases e2
              have : ntT (T.ins x [] :: ts) (j + 1) = ntT ts j := by unfold ntT; simp
              rw [this]
              exact old (each_get j (each_mono y1 x2))
          | kw j =>
            cases e1
            cases e2
            exact old (each_get j y2)
          | dfl v0 =>
            cases e1
            cases e2
            exact dv_ok v0
      have ao : ArgOk c.K H3 [true] (plug c.K (.pos 0 :: pl0) (V.ref d :: vs) zs) (plugT (.pos 0 :: pl0) (T.ins x [] :: ts) us) (at1 d) := by
        refine ⟨by simp [plug, plugT], ⟨fun i => match i with | 0 => at1 d | _ => noM, fun i => ?_, fun i j ne => ?_, fun i v t e1 e2 => ?_⟩, fun q e => by rw [show q = d from e]; exact .inr (.inr ⟨_, _, _, ed⟩)⟩
        · cases i with
          | zero => exact Sub.rfl
          | succ i => exact noM_sub
        · cases i with
          | zero =>
            cases j with
            | zero => exact absurd rfl ne
            | succ j => exact dj_noM
          | succ i => exact noM_dj
        · cases i with
          | zero =>
            have e1 : some (V.ref d) = some v := e1
            have e2 : some (T.ins x []) = some t := e2
            cases e1
            cases e2
            exact rd
          | succ i => 
            have := oth i v t (by simpa [plug] using e1) (by simpa [plugT] using e2)
            simpa using this
      refine sp _ _ H3 (at1 d) _ _ ao ?_
      have back : ∀ {A' : Sa} {H' : Hp}, Step (at1 d) H3 A' H' → Ext noM H H' ∧ ∀ q, A' q → H q = none := fun {A' H'} st => by
        refine ⟨fun q o _ e => ?_, fun q a => ?_⟩
        · have e2 := x12 q o noM_not e
          have nq : q ≠ d := fun z => by rw [z, nd] at e2; cases e2
          exact st.x q o nq (x3 q o noM_not e2)
        · rcases st.g q a with z | z
          · rw [show q = d from z]
            exact x12.nn nd
          · exact x13.nn z
      cases epf : pf (plugT (.pos 0 :: pl0) (T.ins x [] :: ts) us) with
      | bad => rw [epf] at q; exact q.elim
      | exc xx ts' =>
        rw [epf] at q
        exact fun cls dd H' A' oo rx st => q cls dd H' (back st).1 rx
      | ok r ts' =>
        rw [epf] at q
        cases r with
        | non =>
          cases ts' with
          | nil => exact q.elim
          | cons t ts' =>
            intro v H' A' B oo rv dAB mB st
            cases rv
            obtain ⟨b1, b2⟩ := back st
            obtain ⟨l', ⟨P, p1, p2, p3⟩, m'⟩ := oo
            exact ⟨rfl, q _ H' (P 0) b1 (p3 0 (.ref d) t rfl rfl rfl) fun q a => ⟨b2 q (.inl (p1 0 q a)), m' q (p1 0 q a)⟩⟩
        | _ => exact q.elim
  · exact q.elim
def mkE (C : Str) (plan : List Src) (na nk : Nat) (pf : List T → Re (List T) T) (qA : Ev → Re Ev (List T)) (pK : Ev → Rs (List T)) : Ev → Re Ev T := fun τ => (qA τ).bind fun ts τ1 => if T.imL ts = true then upE τ1 ((pK τ1).bind fun zs => if ts.length = na ∧ zs.length = nk then match pf (plugT plan (.ins C [] :: ts) zs) with
    | .ok .non (t :: _) => .ok t
    | .exc x _ => .exc x
    | _ => .bad
  else .bad) else .bad
theorem sm_mkE {c : Cn} {x : Str} {na : Nat} {ks : List Str} {s : Shp} {pf : List T → Re (List T) T} (hk : hasF (isMkr x) c.fa = true) (hs : shpOf c.sh (x, some ("__init__" : Str)) (na + 1) ks = some s) (sp : SpF c.K (c.Ph s.key) [true] pf) (hp : headPos s.plan = true) (hA : SmAE c.K c.W tA qA) (hK : SmAR c.K c.W tK pK) :
    SmE c.K c.W (tMk c x na ks tA tK) (mkE x s.plan na ks.length pf qA pK) := fun R π σ τ H A Q S z => by
  unfold mkE at z
  rw [Re.post_bind] at z
  refine ⟨hk, s, hs, hA R π σ τ H A _ S (Re.post_mono z (fun ts τ1 q vs H1 A1 B1 S1 r1 d1 dR1 m1 s1 => ?_) fun _ _ q => q)⟩
  split at q
  · have q := upE_post q
    rw [Rs.post_bind] at q
    refine hK σ τ1 H1 _ S1.r (Rs.post_mono q (fun us q zs H2 x2 y2 => ?_) fun x q => ExS.toR S1 (ExS.step q (s1.sub Sub.l)))
    refine mk_tail sp hp Ext.rfl x2 (rpl_each r1) y2 (Rs.post_mono q (fun t q v H' B x r f => ?_) fun x q => ExS.toR S1 (ExS.step q (s1.sub Sub.l)))
    exact OkE.new S1 (s1.sub Sub.l) q v H' B x r f
  · exact q.elim
/-- sum(d.values()) -/
def q_sumV : T → Option T
  | .dct ks => (T.ints (ks.map (·.2))).map fun ns => .int ns.sum
  | _ => none
theorem sm_sumV (ho : SmR K W to pa) : SmF K W (tSumVals to) (unP q_sumV pa) := fun σ τ H Q h z => by
  unfold unP at z
  rw [Rs.post_bind] at z
  refine ho σ τ H _ h (Rs.post_mono z (fun t q v H1 B x r => ?_) fun _ q => q)
  obtain ⟨u, e, q⟩ := ofO_post q
  unfold q_sumV at e
  split at e
  · obtain ⟨ns, e1, rfl⟩ := Option.map_eq_some_iff.mp e
    cases r with
    | dct m h s ee nd rr => exact ⟨_, _, ns, rfl, h, ints_ok rr e1, q _ H1 noM x .int fresh_no⟩
  · cases e
/-- the reading first, then its proof -/
theorem unS {P : TS → Prop} {d : {t : TS // P t}} {t : TS} {h : P t} (e : d = ⟨t, h⟩) (s : SmS K W t qt) : SmS K W d.1 qt := by rw [e]; exact s
end
end Rw

namespace Rw
open PySem PySem.Spec PyProof.Rows L2
/-! ### walks over trees -/
def fin (k : Nat) : Re Ev Fl → Re (List T) T
  | .ok .nx τ => .ok .non (outs k τ)
  | .ok (.rt t) τ => .ok t (outs k τ)
  | .exc x τ => .exc x (outs k τ)
  | _ => .bad
theorem runF_fin {modes ow : List Bool} {n : Nat} {qs : Ev → Re Ev Fl} {ts : List T} : runF modes ow n qs ts = fin ts.length (qs (entry modes ow ts n)) := by
  unfold runF fin
  rfl
theorem rbok {α β : Type} {a : α} {f : α → Rs β} : (Rs.ok a).bind f = f a := (Eq.refl _).trans (Eq.refl _)
theorem rbbad {α β : Type} {f : α → Rs β} : (Rs.bad).bind f = .bad := rfl
theorem rbexc {α β : Type} {x : Xc} {f : α → Rs β} : (Rs.exc x).bind f = .exc x := rfl
theorem ebok {S α β : Type} {a : α} {s : S} {f : α → S → Re S β} : (Re.ok a s).bind f = f a s := (Eq.refl _).trans (Eq.refl _)
theorem ebbad {S α β : Type} {f : α → S → Re S β} : (Re.bad).bind f = .bad := rfl
theorem ebexc {S α β : Type} {x : Xc} {s : S} {f : α → S → Re S β} : (Re.exc x s).bind f = .exc x s := rfl
theorem upok {α : Type} {a : α} {τ : Ev} : upE τ (.ok a) = .ok a τ := (Eq.refl _).trans (Eq.refl _)
theorem upbad {α : Type} {τ : Ev} : upE τ (.bad : Rs α) = .bad := rfl
theorem upexc {α : Type} {x : Xc} {τ : Ev} : upE τ (.exc x : Rs α) = .exc x τ := rfl
theorem ofs {α : Type} {a : α} : ofO (some a) = .ok a := (Eq.refl _).trans (Eq.refl _)
theorem ofn {α : Type} : ofO (none : Option α) = .bad := rfl
theorem oes {S α : Type} {s : S} {a : α} : ofOe s (some a) = .ok a s := (Eq.refl _).trans (Eq.refl _)
theorem oen {S α : Type} {s : S} : ofOe s (none : Option α) = .bad := rfl
theorem rb_if {α β : Type} {c : Prop} [Decidable c] {a b : Rs α} {f : α → Rs β} : (if c then a else b).bind f = if c then a.bind f else b.bind f := by split <;> rfl
theorem eb_if {S α β : Type} {c : Prop} [Decidable c] {a b : Re S α} {f : α → S → Re S β} : (if c then a else b).bind f = if c then a.bind f else b.bind f := by split <;> rfl
theorem up_if {α : Type} {c : Prop} [Decidable c] {τ : Ev} {a b : Rs α} : upE τ (if c then a else b) = if c then upE τ a else upE τ b := by split <;> rfl
theorem fin_if {k : Nat} {c : Prop} [Decidable c] {a b : Re Ev Fl} : fin k (if c then a else b) = if c then fin k a else fin k b := by split <;> rfl
theorem var0 {i : Nat} {τ : Ev} {s : Sl} (h : τ[i]? = some s) : varP i τ = ofO s.t := by unfold varP; rw [h]
theorem q_of {modes ow : List Bool} {n k : Nat} {qs : Ev → Re Ev Fl} {ts : List T} {τ : Ev} (hk : ts.length = k) (he : entry modes ow ts n = τ) : (if ts.length = k then runF modes ow n qs ts else .bad) = fin k (qs τ) := by
  subst he
  rw [if_pos hk, runF_fin, hk]
theorem if_iff {α : Type} {c d : Prop} [Decidable c] [Decidable d] {a b : α} (h : c ↔ d) : (if c then a else b) = if d then a else b := by
  by_cases e : c
  · rw [if_pos e, if_pos (h.1 e)]
  · rw [if_neg e, if_neg fun z => e (h.2 z)]
def isMth (C m : Str) : T → Bool
  | .ins D fs => decide (D = C ∧ fs.lookup m = none)
  | _ => false
def fewF : T → Bool
  | .ins _ fs => decide (fs.length < 1000)
  | _ => false
theorem PX : (∀  (pe : Ev → Rs T)  (τ : Ev), imP pe  τ = ((pe τ).bind fun t => if t.im = true then .ok t else .bad)) ∧
  (∀  (f : T → T → Option T) (pa pb : Ev → Rs T)  (τ : Ev), opP f pa pb  τ = ((pa τ).bind fun x => (pb τ).bind fun y => ofO (f x y))) ∧
  (∀  (f : T → Option T) (pa : Ev → Rs T)  (τ : Ev), unP f pa  τ = ((pa τ).bind fun x => ofO (f x))) ∧
  (∀  (pe : Ev → Rs T) (pA : Ev → Rs (List T))  (τ : Ev), consP pe pA  τ = ((pe τ).bind fun x => (pA τ).bind fun xs => .ok (x :: xs))) ∧
  (∀  (f : List T → Option T) (pA : Ev → Rs (List T))  (τ : Ev), cbP f pA  τ = ((pA τ).bind fun ts => ofO (f ts))) ∧
  (∀  (pA : Ev → Rs (List T))  (τ : Ev), tupP pA  τ = ((pA τ).bind fun ts => if ts.length ≤ sizeLine then .ok (.tup ts) else .bad)) ∧
  (∀  (pA : Ev → Rs (List T))  (τ : Ev), lstP pA  τ = ((pA τ).bind fun ts => if ts.length ≤ sizeLine then .ok (.lst ts) else .bad)) ∧
  (∀  (pe : Ev → Rs T)  (τ : Ev), testP pe  τ = ((pe τ).bind fun t => match t with
  | .bl b => .ok b
  | _ => .bad)) ∧
  (∀  (pe : Ev → Rs T)  (τ : Ev), truP pe  τ = ((pe τ).bind fun t => ofO t.tru)) ∧
  (∀  (p1 p2 : Ev → Rs Bool)  (τ : Ev), andP p1 p2  τ = ((p1 τ).bind fun b => if b = true then p2 τ else .ok false)) ∧
  (∀  (p1 p2 : Ev → Rs Bool)  (τ : Ev), orP p1 p2  τ = ((p1 τ).bind fun b => if b = true then .ok true else p2 τ)) ∧
  (∀  (p1 : Ev → Rs Bool)  (τ : Ev), notP p1  τ = ((p1 τ).bind fun b => .ok (!b))) ∧
  (∀  (p1 : Ev → Rs Bool) (pa pb : Ev → Rs T)  (τ : Ev), ifP p1 pa pb  τ = ((p1 τ).bind fun b => if b = true then pa τ else pb τ)) ∧
  (∀  (pa pb : Ev → Rs T)  (τ : Ev), andVP pa pb  τ = ((pa τ).bind fun t => (ofO t.tru).bind fun k => if k = true then pb τ else .ok t)) ∧
  (∀  (pa pb : Ev → Rs T)  (τ : Ev), orVP pa pb  τ = ((pa τ).bind fun t => (ofO t.tru).bind fun k => if k = true then .ok t else pb τ)) ∧
  (∀  (pa : Ev → Rs T)  (τ : Ev), notVP pa  τ = ((pa τ).bind fun t => (ofO t.tru).bind fun k => .ok (.bl (!k)))) ∧
  (∀  (f g : T → T → Option T) (pa pb pc : Ev → Rs T)  (τ : Ev), chainP f g pa pb pc  τ = ((pa τ).bind fun x => (pb τ).bind fun y => (ofO (f x y)).bind fun z => match z with
  | .bl true => (pc τ).bind fun w => ofO (g y w)
  | .bl false => .ok (.bl false)
  | _ => .bad)) ∧
  (∀  (pe : Ev → Rs T) (f : Str)  (τ : Ev), attrP pe f  τ = ((pe τ).bind fun t => ofO (fieldF f t))) ∧
  (∀  (ok : Str → Bool) (pe : Ev → Rs T) (f : Str)  (τ : Ev), attrPc ok pe f  τ = ((pe τ).bind fun t => if isInsOf ok t = true then ofO (fieldF f t) else .bad)) ∧
  (∀  (pe : Ev → Rs T)  (τ : Ev), someP pe  τ = ((pe τ).bind fun t => match t with
  | .int i => .ok (some i)
  | _ => .bad)) ∧
  (∀  (pe : Ev → Rs T) (p1 p2 : Ev → Rs (Option Int))  (τ : Ev), slP pe p1 p2  τ = ((pe τ).bind fun t => (p1 τ).bind fun lo => (p2 τ).bind fun hi => ofO (q_sl t lo hi))) ∧
  (∀  (pe : Ev → Rs T)  (τ : Ev), anyP pe  τ = ((pe τ).bind fun t => ofO t.walk)) ∧
  (∀  (i : Nat) (t : T) (τ : Ev), setB i t τ = (if i < τ.length then .ok (τ.set i (.bor t)) else .bad)) ∧
  (∀  (ts : List T) (τ : Ev), gnilP  ts τ = (match ts with
  | [] => .ok τ
  | _ => .bad)) ∧
  (∀  (p : T → Ev → Rs Ev) (ps : List T → Ev → Rs Ev) (ts : List T) (τ : Ev), gconsP p ps ts τ = (match ts with
  | t :: ts => (p t τ).bind fun τ' => ps ts τ'
  | [] => .bad)) ∧
  (∀  (n : Nat) (ps : List T → Ev → Rs Ev) (t : T) (τ : Ev), gtupP n ps t τ = (match t.items with
  | some ts => if ts.length = n then ps ts τ else .bad
  | none => .bad)) ∧
  (∀  (pi : Ev → Rs (List T)) (pg : T → Ev → Rs Ev) (pt : Ev → Rs Bool) (pe : Ev → Rs T) (vs : List Nat)  (τ : Ev), lcP pi pg pt pe vs  τ = ((pi τ).bind fun xs => (noX (lcGo (lcStep pg pt pe (wipeE τ vs)) xs)).bind fun ys => if xs.length < sizeLine then .ok (.lst ys) else .bad)) ∧
  (∀  (first : List T) (plan : List Src) (na nk : Nat) (pf : List T → Rs T) (pA pK : Ev → Rs (List T))  (τ : Ev), fnP first plan na nk pf pA pK  τ = ((pA τ).bind fun ts => (pK τ).bind fun zs => if ts.length = na ∧ zs.length = nk then pf (plugT plan (first ++ ts) zs) else .bad)) ∧
  (∀  (Ty : String) (f : T → List T → Option T) (po : Ev → Rs T) (pA : Ev → Rs (List T))  (τ : Ev), bmP Ty f po pA  τ = ((po τ).bind fun s => if s.isTy Ty = true then (pA τ).bind fun ts => ofO (f s ts) else .bad)) ∧
  (∀  (pe : Ev → Rs T)  (τ : Ev), sumVP pe  τ = ((pe τ).bind fun t => match t with
  | .dct ks => ofO ((T.ints (ks.map (·.2))).map fun ns => .int ns.sum)
  | _ => .bad)) ∧
  (∀  (f : List T → List T → Option T) (pA pK : Ev → Rs (List T))  (τ : Ev), ckP f pA pK  τ = ((pA τ).bind fun ts => (pK τ).bind fun zs => ofO (f ts zs))) ∧
  (∀  {α : Type} (pe : Ev → Rs α)  (τ : Ev), upP pe  τ = (upE τ (pe τ))) ∧
  (∀   (τ : Ev), nilE   τ = (.ok [] τ)) ∧
  (∀  (qe : Ev → Re Ev T) (qA : Ev → Re Ev (List T))  (τ : Ev), consE qe qA  τ = ((qe τ).bind fun t τ1 => (qA τ1).bind fun ts τ2 => .ok (t :: ts) τ2)) ∧
  (∀  (f : T → T → Option T) (qa qb : Ev → Re Ev T)  (τ : Ev), opE f qa qb  τ = ((qa τ).bind fun x τ1 => (qb τ1).bind fun y τ2 => ofOe τ2 (f x y))) ∧
  (∀  (i : Nat) (qb : Ev → Re Ev T)  (τ : Ev), ixVE i qb  τ = (match varP i τ with
  | .ok _ => (qb τ).bind fun y τ1 => match varP i τ1 with
    | .ok x => ofOe τ1 ((f_ix x y).bind fun u => if u.im = true then some u else none)
    | _ => .bad
  | _ => .bad)) ∧
  (∀  (f : T → Option T) (qa : Ev → Re Ev T)  (τ : Ev), unE f qa  τ = ((qa τ).bind fun x τ1 => ofOe τ1 (f x))) ∧
  (∀  (f : List T → Option T) (qA : Ev → Re Ev (List T))  (τ : Ev), cbE f qA  τ = ((qA τ).bind fun ts τ1 => ofOe τ1 (f ts))) ∧
  (∀  (qA : Ev → Re Ev (List T))  (τ : Ev), tupE qA  τ = ((qA τ).bind fun ts τ1 => if ts.length ≤ sizeLine then .ok (.tup ts) τ1 else .bad)) ∧
  (∀  (qA : Ev → Re Ev (List T))  (τ : Ev), lstE qA  τ = ((qA τ).bind fun ts τ1 => if ts.length ≤ sizeLine then .ok (.lst ts) τ1 else .bad)) ∧
  (∀  (qe : Ev → Re Ev T)  (τ : Ev), testE qe  τ = ((qe τ).bind fun t τ1 => match t with
  | .bl b => .ok b τ1
  | _ => .bad)) ∧
  (∀  (qe : Ev → Re Ev T)  (τ : Ev), truE qe  τ = ((qe τ).bind fun t τ1 => ofOe τ1 t.tru)) ∧
  (∀  (q1 q2 : Ev → Re Ev Bool)  (τ : Ev), andE q1 q2  τ = ((q1 τ).bind fun b τ1 => if b = true then q2 τ1 else .ok false τ1)) ∧
  (∀  (q1 q2 : Ev → Re Ev Bool)  (τ : Ev), orE q1 q2  τ = ((q1 τ).bind fun b τ1 => if b = true then .ok true τ1 else q2 τ1)) ∧
  (∀  (q1 : Ev → Re Ev Bool)  (τ : Ev), notE q1  τ = ((q1 τ).bind fun b τ1 => .ok (!b) τ1)) ∧
  (∀  (q1 : Ev → Re Ev Bool) (qa qb : Ev → Re Ev T)  (τ : Ev), ifE q1 qa qb  τ = ((q1 τ).bind fun b τ1 => if b = true then qa τ1 else qb τ1)) ∧
  (∀  (qa qb : Ev → Re Ev T)  (τ : Ev), andVE qa qb  τ = ((qa τ).bind fun t τ1 => (ofOe τ1 t.tru).bind fun k τ1 => if k = true then qb τ1 else .ok t τ1)) ∧
  (∀  (qa qb : Ev → Re Ev T)  (τ : Ev), orVE qa qb  τ = ((qa τ).bind fun t τ1 => (ofOe τ1 t.tru).bind fun k τ1 => if k = true then .ok t τ1 else qb τ1)) ∧
  (∀  (i : Nat)  (τ : Ev), mvP i  τ = (match τ[i]? with
  | some (.own t) => if t.im = true then .ok t τ else .ok t (τ.set i .no)
  | some (.bor t) => if t.im = true then .ok t τ else .bad
  | some (.lnd t) => if t.im = true then .ok t τ else .bad
  | some (.par t) => if t.im = true then .ok t τ else .bad
  | _ => .bad)) ∧
  (∀  (pl : Ev → Rs Pl) (pi : Ev → Rs T)  (τ : Ev), plSub pl pi  τ = ((pl τ).bind fun p => (pi τ).bind fun k => match (treeAt τ p).bind fun t => stpOf t k with
  | some s => .ok (p.1, p.2 ++ [s])
  | none => .bad)) ∧
  (∀  (Ty : String) (f : T → List T → Option (T × T)) (pl : Ev → Rs Pl) (pA : Ev → Rs (List T))  (τ : Ev), bmE Ty f pl pA  τ = ((upE τ (pl τ)).bind fun p _ => match mineAt τ p with
  | some u => if u.isTy Ty = true then (upE τ (pA τ)).bind fun ts _ => (ofOe τ (f u ts)).bind fun r _ => .ok r.1 (setAt τ p r.2) else .bad
  | none => .bad)) ∧
  (∀  (q1 q2 : Ev → Re Ev Fl)  (τ : Ev), seqS q1 q2  τ = ((q1 τ).bind fun f τ1 => match f with
  | .nx => q2 τ1
  | f => .ok f τ1)) ∧
  (∀   (τ : Ev), nextS   τ = (.ok .nx τ)) ∧
  (∀  (qc : Ev → Re Ev Bool) (q1 q2 : Ev → Re Ev Fl)  (τ : Ev), ifS qc q1 q2  τ = ((qc τ).bind fun b τ1 => if b = true then q1 τ1 else q2 τ1)) ∧
  (∀  (qe : Ev → Re Ev T)  (τ : Ev), retS qe  τ = ((qe τ).bind fun t τ1 => .ok (.rt t) τ1)) ∧
  (∀   (τ : Ev), retNS   τ = (.ok (.rt .non) τ)) ∧
  (∀  (qe : Ev → Re Ev T)  (τ : Ev), dropS qe  τ = ((qe τ).bind fun _ τ1 => .ok .nx τ1)) ∧
  (∀  (qe : Ev → Re Ev T) (pg : T → Ev → Rs Ev)  (τ : Ev), asgS qe pg  τ = ((qe τ).bind fun t τ1 => match pg t τ1 with
  | .ok τ2 => .ok .nx τ2
  | _ => .bad)) ∧
  (∀  (i : Nat) (t : T) (τ : Ev), setN i t τ = (match τ[i]? with
  | some s => if s.isPar = true then .bad else .ok (τ.set i (.own t))
  | none => .bad)) ∧
  (∀  (n : Nat) (ps : List T → Ev → Rs Ev) (t : T) (τ : Ev), unpS n ps t τ = (match t.items with
  | some ts => if ts.length = n then ps ts τ else .bad
  | none => .bad)) ∧
  (∀  (pl : Ev → Rs Pl) (pi : Ev → Rs T) (t : T) (τ : Ev), setK pl pi t τ = ((noX (pl τ)).bind fun p => (noX (pi τ)).bind fun k => match mineAt τ p with
  | some u => ofO ((putT u k t).map fun u' => setAt τ p u')
  | none => .bad)) ∧
  (∀  (i j : Nat) (qA : Ev → Re Ev (List T))  (τ : Ev), setN2 i j qA  τ = ((qA τ).bind fun ts τ1 => match ts with
  | [t, u] => match setN i t τ1 with
    | .ok τ2 => match setN j u τ2 with
      | .ok τ3 => .ok .nx τ3
      | _ => .bad
    | _ => .bad
  | _ => .bad)) ∧
  (∀  (i j l : Nat) (qA : Ev → Re Ev (List T))  (τ : Ev), setN3 i j l qA  τ = ((qA τ).bind fun ts τ1 => match ts with
  | [t, u, w] => match setN i t τ1 with
    | .ok τ2 => match setN j u τ2 with
      | .ok τ3 => match setN l w τ3 with
        | .ok τ4 => .ok .nx τ4
        | _ => .bad
      | _ => .bad
    | _ => .bad
  | _ => .bad)) ∧
  (∀  (pi : Ev → Rs (List T)) (pg : T → Ev → Rs Ev) (qs : Ev → Re Ev Fl)  (τ : Ev), forS pi pg qs  τ = ((upE τ (pi τ)).bind fun xs _ => if T.imL xs = true then forGo pg qs xs τ else .bad)) ∧
  (∀  (pe : Ev → Rs T) (ca : Ev → Rs (List Hd))  (τ : Ev), cvalF pe ca  τ = ((pe τ).bind fun t => (ca τ).bind fun hs => .ok (.val t :: hs))) ∧
  (∀  (pl : Ev → Rs Pl) (ca : Ev → Rs (List Hd))  (τ : Ev), cplcF pl ca  τ = ((pl τ).bind fun p => (ca τ).bind fun hs => .ok (.plc p :: hs))) ∧
  (∀   (τ : Ev), cnilE   τ = (.ok [] τ)) ∧
  (∀  (qe : Ev → Re Ev T) (ca : Ev → Re Ev (List Hd))  (τ : Ev), cvalE qe ca  τ = ((qe τ).bind fun t τ1 => (ca τ1).bind fun hs τ2 => .ok (.val t :: hs) τ2)) ∧
  (∀  (ms : List Bool) (plan : List Src) (na nk : Nat) (pf : List T → Re (List T) T) (ca : Ev → Re Ev (List Hd)) (ck : Ev → Rs (List Hd))  (τ : Ev), fnE ms plan na nk pf ca ck  τ = ((ca τ).bind fun hs τ1 => callE ms plan na nk pf [] ck hs τ1)) ∧
  (∀  (C : Str) (plan : List Src) (na nk : Nat) (pf : List T → Re (List T) T) (pA pK : Ev → Rs (List T))  (τ : Ev), mkP C plan na nk pf pA pK  τ = ((pA τ).bind fun ts => (pK τ).bind fun zs => if ts.length = na ∧ zs.length = nk then match pf (plugT plan (.ins C [] :: ts) zs) with
    | .ok .non (t :: _) => .ok t
    | .exc x _ => .exc x
    | _ => .bad
  else .bad)) ∧
  (∀  (q1 q2 : Ev → Re Ev T)  (τ : Ev), altE q1 q2  τ = (match q1 τ with
  | .bad => q2 τ
  | r => r)) ∧
  (∀  (Ty : String) (f : T → List T → Option (T × T)) (i : Nat) (qA : Ev → Re Ev (List T))  (τ : Ev), bmVE Ty f i qA  τ = (match varP i τ with
  | .ok u0 => if u0.isTy Ty = true then (qA τ).bind fun ts τ1 => match mineAt τ1 (i, []) with
      | some u => (ofOe τ1 (f u ts)).bind fun r _ => .ok r.1 (setAt τ1 (i, []) r.2)
      | none => .bad
    else .bad
  | _ => .bad)) ∧
  (∀  (pk pv : Ev → Rs T) (ps : Ev → Rs (List (T × T)))  (τ : Ev), pconsP pk pv ps  τ = ((pk τ).bind fun k => (pv τ).bind fun v => (ps τ).bind fun r => if k.im = true then .ok ((k, v) :: r) else .bad)) ∧
  (∀  (ps : Ev → Rs (List (T × T)))  (τ : Ev), dispP ps  τ = ((ps τ).bind fun ts => match T.keys (ts.map (·.1)) with
  | some ks => if ks.Nodup ∧ ks.length ≤ 15 then .ok (.dct (ks.zip (ts.map (·.2)))) else .bad
  | none => .bad)) ∧
  (∀  (i : Nat)  (τ : Ev), borVar i  τ = (match τ[i]? with
  | some (.bor t) => .ok t
  | _ => .bad)) ∧
  (∀  (i : Nat) (t : T) (τ : Ev), setNB i t τ = (match τ[i]? with
  | some s => if s.isPar = true then .bad else .ok (τ.set i (.bor t))
  | none => .bad)) ∧
  (∀  (pb : Ev → Rs T) (pg : T → Ev → Rs Ev)  (τ : Ev), asgBS pb pg  τ = ((upE τ (pb τ)).bind fun t _ => match pg t τ with
  | .ok τ2 => .ok .nx τ2
  | _ => .bad)) ∧
  (∀  (q1 q2 : Ev → Re Ev Fl)  (τ : Ev), altS q1 q2  τ = (match q1 τ with
  | .bad => q2 τ
  | r => r)) ∧
  (∀  (pb : Ev → Rs T) (pg : T → Ev → Rs Ev) (qs : Ev → Re Ev Fl)  (τ : Ev), forBS pb pg qs  τ = ((upE τ (anyP pb τ)).bind fun xs _ => forGo pg qs xs τ)) ∧
  (∀  (i : Nat) (pg : T → Ev → Rs Ev) (qs : Ev → Re Ev Fl)  (τ : Ev), forDS i pg qs  τ = (match τ[i]? with
  | some (.bor (.dct ks)) => noXe (forGo pg qs (ks.map fun p => T.ofKey p.1) τ)
  | _ => .bad)) ∧
  (∀  (pl : Ev → Rs Pl) (p1 p2 : Ev → Rs (Option Int)) (t : T) (τ : Ev), setSl pl p1 p2 t τ = ((noX (pl τ)).bind fun p => (noX (p1 τ)).bind fun lo => (noX (p2 τ)).bind fun hi => match mineAt τ p with
  | some u => ofO ((putSl u lo hi t).map fun u' => setAt τ p u')
  | none => .bad)) ∧
  (∀  (qi : Ev → Re Ev (List T)) (pg : T → Ev → Rs Ev) (qs : Ev → Re Ev Fl)  (τ : Ev), forE qi pg qs  τ = ((qi τ).bind fun xs τ1 => if T.imL xs = true then forGo pg qs xs τ1 else .bad)) ∧
  (∀  (i : Nat) (qe qi : Ev → Re Ev T)  (τ : Ev), asgKV i qe qi  τ = ((qe τ).bind fun t τ1 => setKV i qi t τ1)) ∧
  (∀  (C : Str) (plan : List Src) (na nk : Nat) (pf : List T → Re (List T) T) (qA : Ev → Re Ev (List T)) (pK : Ev → Rs (List T))  (τ : Ev), mkE C plan na nk pf qA pK  τ = ((qA τ).bind fun ts τ1 => if T.imL ts = true then upE τ1 ((pK τ1).bind fun zs => if ts.length = na ∧ zs.length = nk then match pf (plugT plan (.ins C [] :: ts) zs) with
    | .ok .non (t :: _) => .ok t
    | .exc x _ => .exc x
    | _ => .bad
  else .bad) else .bad)) := by
  refine ⟨?_, ?_, ?_, ?_, ?_, ?_, ?_, ?_, ?_, ?_, ?_, ?_, ?_, ?_, ?_, ?_, ?_, ?_, ?_, ?_, ?_, ?_, ?_, ?_, ?_, ?_, ?_, ?_, ?_, ?_, ?_, ?_, ?_, ?_, ?_, ?_, ?_, ?_, ?_, ?_, ?_, ?_, ?_, ?_, ?_, ?_, ?_, ?_, ?_, ?_, ?_, ?_, ?_, ?_, ?_, ?_, ?_, ?_, ?_, ?_, ?_, ?_, ?_, ?_, ?_, ?_, ?_, ?_, ?_, ?_, ?_, ?_, ?_, ?_, ?_, ?_, ?_, ?_, ?_, ?_, ?_, ?_, ?_, ?_⟩ <;> intros <;> rfl

theorem x_methP {C m : Str} {plan : List Src} {na nk : Nat} {pf : List T → Rs T} {po : Ev → Rs T} {pA pK : Ev → Rs (List T)} {τ : Ev} : methP C m plan na nk pf po pA pK τ = (po τ).bind fun t => if isMth C m t = true then fnP [t] plan na nk pf pA pK τ else .bad := by
  unfold methP
  congr 1
  funext t
  cases t <;> first | rfl | exact if_iff (by simp [isMth])
theorem x_plAttr {ok : Str → Bool} {pl : Ev → Rs Pl} {f : Str} {τ : Ev} : plAttr ok pl f τ = (pl τ).bind fun p => match treeAt τ p with
    | some t => if isInsOf ok t = true ∧ (fieldF f t).isSome = true then .ok (p.1, p.2 ++ [.fld f]) else .bad
    | none => .bad := by
  unfold plAttr
  congr 1
  funext p
  cases treeAt τ p with
  | none => rfl
  | some t => cases t <;> first | rfl | exact if_iff Iff.rfl | (simp [isInsOf])
theorem x_attrS {ok : Str → Bool} {f : Str} {qe : Ev → Re Ev T} {pl : Ev → Rs Pl} {τ : Ev} : attrS ok f qe pl τ = (qe τ).bind fun t τ1 => (upE τ1 (pl τ1)).bind fun p _ => match mineAt τ1 p with
    | some u => if isInsOf ok u = true ∧ fewF u = true then .ok .nx (setAt τ1 p (setS u (.fld f) t)) else .bad
    | none => .bad := by
  unfold attrS
  congr 1
  funext t τ1
  congr 1
  funext p _
  cases mineAt τ1 p with
  | none => rfl
  | some t => cases t <;> first | rfl | exact if_iff (by simp [isInsOf, fewF]) | (simp [isInsOf, fewF, setS])
theorem x_methE {C m : Str} {ms : List Bool} {plan : List Src} {na nk : Nat} {pf : List T → Re (List T) T} {pl : Ev → Rs Pl} {ca ck : Ev → Rs (List Hd)} {τ : Ev} : methE C m ms plan na nk pf pl ca ck τ = (upE τ (pl τ)).bind fun p _ => match treeAt τ p with
    | some t => if isMth C m t = true then (upE τ (ca τ)).bind fun hs _ => callE ms plan na nk pf [.plc p] ck hs τ else .bad
    | none => .bad := by
  unfold methE
  congr 1
  funext p _
  cases treeAt τ p with
  | none => rfl
  | some t => cases t <;> first | rfl | exact if_iff (by simp [isMth])
theorem x_methVE {C m : Str} {ms : List Bool} {plan : List Src} {na nk i : Nat} {pf : List T → Re (List T) T} {ca : Ev → Re Ev (List Hd)} {ck : Ev → Rs (List Hd)} {τ : Ev} : methVE C m ms plan na nk pf i ca ck τ = match varP i τ with
    | .ok t => if isMth C m t = true then (ca τ).bind fun hs τ1 => callE ms plan na nk pf [.plc (i, [])] ck hs τ1 else .bad
    | _ => .bad := by
  unfold methVE
  cases varP i τ with
  | ok t => cases t <;> first | rfl | exact if_iff (by simp [isMth])
  | exc x => rfl
  | bad => rfl
theorem x_varP {i : Nat} {τ : Ev} : varP i τ = match τ[i]? with
    | some s => ofO s.t
    | none => .bad := rfl
theorem x_cP {t : T} {τ : Ev} : cP t τ = .ok t := rfl
theorem x_nilP {τ : Ev} : nilP τ = .ok [] := rfl
theorem x_yesP {τ : Ev} : yesP τ = .ok true := rfl
theorem x_noneP {τ : Ev} : noneP τ = .ok none := rfl
theorem x_pnilP {τ : Ev} : pnilP τ = .ok [] := rfl
theorem x_cnilF {τ : Ev} : cnilF τ = .ok [] := rfl
theorem x_cnilE {τ : Ev} : cnilE τ = .ok [] τ := rfl
theorem x_plVar {i : Nat} {τ : Ev} : plVar i τ = match varP i τ with
    | .ok _ => .ok (i, [])
    | _ => .bad := rfl
theorem x_cvarE {i : Nat} {ca : Ev → Re Ev (List Hd)} {τ : Ev} : cvarE i ca τ = match varP i τ with
    | .ok _ => (ca τ).bind fun hs τ2 => .ok (.plc (i, []) :: hs) τ2
    | _ => .bad := rfl
theorem x_cplcF {pl : Ev → Rs Pl} {ca : Ev → Rs (List Hd)} {τ : Ev} : cplcF pl ca τ = (pl τ).bind fun p => (ca τ).bind fun hs => .ok (.plc p :: hs) := rfl
theorem x_setKV {i : Nat} {qi : Ev → Re Ev T} {t : T} {τ : Ev} : setKV i qi t τ = match varP i τ with
    | .ok _ => (qi τ).bind fun k τ1 => match mineAt τ1 (i, []) with
      | some u => match putT u k t with
        | some u' => .ok .nx (setAt τ1 (i, []) u')
        | none => .bad
      | none => .bad
    | _ => .bad := rfl
theorem x_callE {ms : List Bool} {plan : List Src} {na nk : Nat} {pf : List T → Re (List T) T} {first : List Hd} {ck : Ev → Rs (List Hd)} {hs : List Hd} {τ1 : Ev} : callE ms plan na nk pf first ck hs τ1 = (upE τ1 (ck τ1)).bind fun hz _ => if hs.length = na ∧ hz.length = nk then callP ms pf (pickH plan (first ++ hs) hz) τ1 else .bad := rfl
theorem fin_nx {k : Nat} {τ : Ev} : fin k (.ok .nx τ) = .ok .non (outs k τ) := rfl
theorem fin_rt {k : Nat} {t : T} {τ : Ev} : fin k (.ok (.rt t) τ) = .ok t (outs k τ) := rfl
theorem fin_exc {k : Nat} {x : Xc} {τ : Ev} : fin k (.exc x τ) = .exc x (outs k τ) := rfl
theorem outs0 {τ : Ev} : outs 0 τ = [] := rfl
theorem outs1 {a : Sl} {r : Ev} : outs 1 (a :: r) = [Sl.out (some a)] := rfl
theorem outs2 {a b : Sl} {r : Ev} : outs 2 (a :: b :: r) = [Sl.out (some a), Sl.out (some b)] := rfl
theorem outs3 {a b c : Sl} {r : Ev} : outs 3 (a :: b :: c :: r) = [Sl.out (some a), Sl.out (some b), Sl.out (some c)] := rfl
theorem outs4 {a b c d : Sl} {r : Ev} : outs 4 (a :: b :: c :: d :: r) = [Sl.out (some a), Sl.out (some b), Sl.out (some c), Sl.out (some d)] := rfl
theorem outs5 {a b c d e : Sl} {r : Ev} : outs 5 (a :: b :: c :: d :: e :: r) = [Sl.out (some a), Sl.out (some b), Sl.out (some c), Sl.out (some d), Sl.out (some e)] := rfl
theorem roF_ok {pf : List T → Re (List T) T} {ts ts' : List T} {r : T} (h : pf ts = .ok r ts') : roF pf ts = .ok r := by unfold roF; rw [h]
theorem ntT0 {a : T} {r : List T} : ntT (a :: r) 0 = a := rfl
theorem ntTs {a : T} {r : List T} {n : Nat} : ntT (a :: r) (n + 1) = ntT r n := by unfold ntT; rw [List.getElem?_cons_succ]
theorem len2S : 2 ≤ sizeLine := by rw [sizeLine_eq]; decide
theorem len_S {n : Nat} (h : n < 1000) : n ≤ sizeLine := by rw [sizeLine_eq]; omega
theorem t_bor {t : T} : (Sl.bor t).t = some t := rfl
theorem t_lnd {t : T} : (Sl.lnd t).t = some t := rfl
theorem t_own {t : T} : (Sl.own t).t = some t := rfl
theorem t_par {t : T} : (Sl.par t).t = some t := rfl
theorem t_no : (Sl.no).t = none := rfl
theorem m_bor {t : T} : (Sl.bor t).mine = none := rfl
theorem m_lnd {t : T} : (Sl.lnd t).mine = none := rfl
theorem m_own {t : T} : (Sl.own t).mine = some t := rfl
theorem m_par {t : T} : (Sl.par t).mine = some t := rfl
theorem m_no : (Sl.no).mine = none := rfl
theorem u_own {t u : T} : (Sl.own t).upd u = .own u := rfl
theorem u_par {t u : T} : (Sl.par t).upd u = .par u := rfl
theorem p_bor {t : T} : (Sl.bor t).isPar = false := rfl
theorem p_lnd {t : T} : (Sl.lnd t).isPar = false := rfl
theorem p_own {t : T} : (Sl.own t).isPar = false := rfl
theorem p_par {t : T} : (Sl.par t).isPar = true := rfl
theorem p_no : (Sl.no).isPar = false := rfl
theorem o_par {t : T} : Sl.out (some (.par t)) = t := rfl
theorem o_bor {t : T} : Sl.out (some (.bor t)) = .any := rfl
theorem o_own {t : T} : Sl.out (some (.own t)) = .any := rfl
theorem o_no : Sl.out (some .no) = .any := rfl
theorem tru_bl {b : Bool} : T.tru (.bl b) = some b := rfl
theorem im_int {i : Int} : (T.int i).im = true := rfl
theorem im_non : T.non.im = true := rfl
theorem im_bl {b : Bool} : (T.bl b).im = true := rfl
theorem im_str {b : Str} : (T.str b).im = true := rfl
theorem gP0 {t : T} : getP t [] = some t := rfl
theorem gPs {t : T} {s : Stp} {st : List Stp} : getP t (s :: st) = (getS t s).bind fun u => getP u st := rfl
theorem sP0 {t u : T} : setP t [] u = u := rfl
theorem sPs {t u : T} {s : Stp} {st : List Stp} : setP t (s :: st) u = match getS t s with
  | some t1 => setS t s (setP t1 st u)
  | none => t := rfl
theorem leS0 : (0 ≤ sizeLine) = True := eq_true (len_S (by decide))
theorem ltS0 : (0 < sizeLine) = True := eq_true (Nat.lt_of_succ_le (len_S (by decide)))
theorem leS1 : (1 ≤ sizeLine) = True := eq_true (len_S (by decide))
theorem ltS1 : (1 < sizeLine) = True := eq_true (Nat.lt_of_succ_le (len_S (by decide)))
theorem leS2 : (2 ≤ sizeLine) = True := eq_true (len_S (by decide))
theorem ltS2 : (2 < sizeLine) = True := eq_true (Nat.lt_of_succ_le (len_S (by decide)))
theorem leS3 : (3 ≤ sizeLine) = True := eq_true (len_S (by decide))
theorem ltS3 : (3 < sizeLine) = True := eq_true (Nat.lt_of_succ_le (len_S (by decide)))
theorem leS4 : (4 ≤ sizeLine) = True := eq_true (len_S (by decide))
theorem ltS4 : (4 < sizeLine) = True := eq_true (Nat.lt_of_succ_le (len_S (by decide)))
theorem leS5 : (5 ≤ sizeLine) = True := eq_true (len_S (by decide))
theorem ltS5 : (5 < sizeLine) = True := eq_true (Nat.lt_of_succ_le (len_S (by decide)))
theorem leS6 : (6 ≤ sizeLine) = True := eq_true (len_S (by decide))
theorem ltS6 : (6 < sizeLine) = True := eq_true (Nat.lt_of_succ_le (len_S (by decide)))
theorem leS7 : (7 ≤ sizeLine) = True := eq_true (len_S (by decide))
theorem ltS7 : (7 < sizeLine) = True := eq_true (Nat.lt_of_succ_le (len_S (by decide)))
theorem leS8 : (8 ≤ sizeLine) = True := eq_true (len_S (by decide))
theorem ltS8 : (8 < sizeLine) = True := eq_true (Nat.lt_of_succ_le (len_S (by decide)))
theorem leS9 : (9 ≤ sizeLine) = True := eq_true (len_S (by decide))
theorem ltS9 : (9 < sizeLine) = True := eq_true (Nat.lt_of_succ_le (len_S (by decide)))
/-- one turn of a loop -/
def stp (pg : T → Ev → Rs Ev) (qs : Ev → Re Ev Fl) (x : T) (τ : Ev) : Re Ev Fl := match pg x τ with
  | .ok τ1 => qs τ1
  | _ => .bad
theorem x_stp {pg : T → Ev → Rs Ev} {qs : Ev → Re Ev Fl} {x : T} {τ : Ev} : stp pg qs x τ = match pg x τ with
  | .ok τ1 => qs τ1
  | _ => .bad := rfl
theorem for_inv {pg : T → Ev → Rs Ev} {qs : Ev → Re Ev Fl} (I : Nat → Ev → Prop) : ∀ {xs : List T} {τ : Ev} {n : Nat}, I n τ → (∀ k x τ, xs[k]? = some x → I (n + k) τ → ∃ τ2, stp pg qs x τ = .ok .nx τ2 ∧ I (n + k + 1) τ2) → ∃ τ', forGo pg qs xs τ = .ok .nx τ' ∧ I (n + xs.length) τ'
  | [], τ, n, h, _ => ⟨τ, rfl, h⟩
  | x :: xs, τ, n, h, hs => by
    obtain ⟨τ2, e2, h2⟩ := hs 0 x τ rfl h
    obtain ⟨τ', e3, h3⟩ := for_inv I (xs := xs) (n := n + 1) h2 fun k y τ hk hI => by
      have := hs (k + 1) y τ hk (by rw [show n + (k + 1) = n + 1 + k by omega]; exact hI)
      rwa [show n + (k + 1) + 1 = n + 1 + k + 1 by omega] at this
    refine ⟨τ', ?_, by rw [List.length_cons, show n + (xs.length + 1) = n + 1 + xs.length by omega]; exact h3⟩
    unfold forGo
    unfold stp at e2
    cases e : pg x τ with
    | ok τ1 =>
      rw [e] at e2
      show (qs τ1).bind _ = _
      rw [show qs τ1 = .ok .nx τ2 from e2]
      exact e3
    | exc x =>
      rw [e] at e2
      cases e2
    | bad =>
      rw [e] at e2
      cases e2
theorem for_res {pg : T → Ev → Rs Ev} {qs : Ev → Re Ev Fl} {xs : List T} {τ : Ev} {z : Re Ev Fl} (hz : forGo pg qs xs τ = z) (I : Nat → Ev → Prop) (h0 : I 0 τ) (hs : ∀ k x τ, xs[k]? = some x → I k τ → ∃ τ2, stp pg qs x τ = .ok .nx τ2 ∧ I (k + 1) τ2) :
    ∃ τ', z = .ok .nx τ' ∧ I xs.length τ' := by
  obtain ⟨τ', e, h⟩ := for_inv I (n := 0) h0 fun k x τ hk hI => by
    rw [Nat.zero_add] at hI ⊢
    exact hs k x τ hk hI
  rw [Nat.zero_add] at h
  exact ⟨τ', hz.symm.trans e, h⟩
theorem f_add_lst {xs ys : List T} (h1 : T.imL xs = true) (h2 : T.imL ys = true) (hl : xs.length + ys.length ≤ sizeLine) : f_add (.lst xs) (.lst ys) = some (.lst (xs ++ ys)) := if_pos ⟨by rw [h1, h2]; rfl, hl⟩
theorem f_eq_str {a b : Str} : f_eq (.str a) (.str b) = some (.bl (decide (a = b))) := by
  show (eqF _ _).map _ = _
  unfold eqF
  simp only [T.sv]
  rw [if_pos (show scal (V.str a) (V.str b) = true from rfl)]
  show some (T.bl _) = _
  congr 2
  exact decide_eq_decide.mpr ⟨fun e => V.str.inj e, fun e => by rw [e]⟩
theorem f_eq_int {a b : Int} : f_eq (.int a) (.int b) = some (.bl (decide (a = b))) := by
  show (eqF _ _).map _ = _
  unfold eqF
  simp only [T.sv]
  rw [if_pos (show scal (V.int a) (V.int b) = true from rfl)]
  show some (T.bl _) = _
  congr 2
  exact decide_eq_decide.mpr ⟨fun e => V.int.inj e, fun e => by rw [e]⟩
theorem atI_nat {α : Type} {xs : List α} {k : Nat} : atI xs (k : Int) = xs[k]? := by
  unfold atI ixN
  rw [if_pos (Int.natCast_nonneg k)]
  by_cases h : k < xs.length
  · rw [if_pos (by omega), Int.toNat_natCast]
    rfl
  · rw [if_neg (by omega), List.getElem?_eq_none (by omega)]
    rfl
theorem ix_tup {xs : List T} {k : Nat} {t : T} (h : xs[k]? = some t) : f_ix (.tup xs) (.int (k : Int)) = some t := (atI_nat (xs := xs) (k := k)).trans h
theorem ix_lst {xs : List T} {k : Nat} {t : T} (h : xs[k]? = some t) : f_ix (.lst xs) (.int (k : Int)) = some t := (atI_nat (xs := xs) (k := k)).trans h
theorem ix0 {xs : List T} {t : T} : f_ix (.tup (t :: xs)) (.int 0) = some t := ix_tup (k := 0) rfl
theorem ix1 {xs : List T} {t u : T} : f_ix (.tup (t :: u :: xs)) (.int 1) = some u := ix_tup (k := 1) rfl
theorem ix2 {xs : List T} {t u v : T} : f_ix (.tup (t :: u :: v :: xs)) (.int 2) = some v := ix_tup (k := 2) rfl
theorem e_lt {i j : Int} : f_lt (.int i) (.int j) = some (.bl (decide (i < j))) := rfl
theorem e_le {i j : Int} : f_le (.int i) (.int j) = some (.bl (decide (i ≤ j))) := rfl
theorem e_gt {i j : Int} : f_gt (.int i) (.int j) = some (.bl (decide (j < i))) := rfl
theorem e_ge {i j : Int} : f_ge (.int i) (.int j) = some (.bl (decide (j ≤ i))) := rfl
theorem e_add {i j : Int} : f_add (.int i) (.int j) = some (.int (i + j)) := rfl
theorem e_sub {i j : Int} : f_sub (.int i) (.int j) = some (.int (i - j)) := rfl
theorem e_neg {i : Int} : f_neg (.int i) = some (.int (-i)) := rfl
theorem e_isi {t : T} {c : String} : q_isi [t, .ty c] = (t.tyn.bind fun n => isiN n c).map T.bl := rfl
theorem yn_int {i : Int} : T.tyn (.int i) = some "int" := rfl
theorem yn_bl {i : Bool} : T.tyn (.bl i) = some "bool" := rfl
theorem yn_str {i : Str} : T.tyn (.str i) = some "str" := rfl
theorem yn_non : T.tyn .non = some "NoneType" := rfl
theorem yn_tup {i : List T} : T.tyn (.tup i) = some "tuple" := rfl
theorem yn_lst {i : List T} : T.tyn (.lst i) = some "list" := rfl
theorem yn_dct {i : List (Key × T)} : T.tyn (.dct i) = some "dict" := rfl
theorem z_int_int : isiN "int" "int" = some true := rfl
theorem z_int_bool : isiN "int" "bool" = some false := rfl
theorem z_int_str : isiN "int" "str" = some false := rfl
theorem z_int_tuple : isiN "int" "tuple" = some false := rfl
theorem z_int_list : isiN "int" "list" = some false := rfl
theorem z_int_dict : isiN "int" "dict" = some false := rfl
theorem z_bool_int : isiN "bool" "int" = some true := rfl
theorem z_bool_bool : isiN "bool" "bool" = some true := rfl
theorem z_bool_str : isiN "bool" "str" = some false := rfl
theorem z_bool_tuple : isiN "bool" "tuple" = some false := rfl
theorem z_bool_list : isiN "bool" "list" = some false := rfl
theorem z_bool_dict : isiN "bool" "dict" = some false := rfl
theorem z_str_int : isiN "str" "int" = some false := rfl
theorem z_str_bool : isiN "str" "bool" = some false := rfl
theorem z_str_str : isiN "str" "str" = some true := rfl
theorem z_str_tuple : isiN "str" "tuple" = some false := rfl
theorem z_str_list : isiN "str" "list" = some false := rfl
theorem z_str_dict : isiN "str" "dict" = some false := rfl
theorem z_NoneType_int : isiN "NoneType" "int" = some false := rfl
theorem z_NoneType_bool : isiN "NoneType" "bool" = some false := rfl
theorem z_NoneType_str : isiN "NoneType" "str" = some false := rfl
theorem z_NoneType_tuple : isiN "NoneType" "tuple" = some false := rfl
theorem z_NoneType_list : isiN "NoneType" "list" = some false := rfl
theorem z_NoneType_dict : isiN "NoneType" "dict" = some false := rfl
theorem z_tuple_int : isiN "tuple" "int" = some false := rfl
theorem z_tuple_bool : isiN "tuple" "bool" = some false := rfl
theorem z_tuple_str : isiN "tuple" "str" = some false := rfl
theorem z_tuple_tuple : isiN "tuple" "tuple" = some true := rfl
theorem z_tuple_list : isiN "tuple" "list" = some false := rfl
theorem z_tuple_dict : isiN "tuple" "dict" = some false := rfl
theorem z_list_int : isiN "list" "int" = some false := rfl
theorem z_list_bool : isiN "list" "bool" = some false := rfl
theorem z_list_str : isiN "list" "str" = some false := rfl
theorem z_list_tuple : isiN "list" "tuple" = some false := rfl
theorem z_list_list : isiN "list" "list" = some true := rfl
theorem z_list_dict : isiN "list" "dict" = some false := rfl
theorem z_dict_int : isiN "dict" "int" = some false := rfl
theorem z_dict_bool : isiN "dict" "bool" = some false := rfl
theorem z_dict_str : isiN "dict" "str" = some false := rfl
theorem z_dict_tuple : isiN "dict" "tuple" = some false := rfl
theorem z_dict_list : isiN "dict" "list" = some false := rfl
theorem z_dict_dict : isiN "dict" "dict" = some true := rfl
theorem e_lenl {xs : List T} : q_len [.lst xs] = some (.int xs.length) := rfl
theorem e_lent {xs : List T} : q_len [.tup xs] = some (.int xs.length) := rfl
theorem w_lst {xs : List T} : T.walk (.lst xs) = some xs := rfl
theorem w_tup {xs : List T} : T.walk (.tup xs) = some xs := rfl
theorem i_lst {xs : List T} : T.items (.lst xs) = some xs := rfl
theorem i_tup {xs : List T} : T.items (.tup xs) = some xs := rfl
theorem k_int {i : Int} : T.key (.int i) = some (.inl i) := rfl
theorem k_str {i : Str} : T.key (.str i) = some (.inr i) := rfl
theorem is_non : f_is .non .non = some (.bl true) := rfl
theorem is_int {i : Int} : f_is (.int i) .non = some (.bl false) := rfl
theorem is_tup {i : List T} : f_is (.tup i) .non = some (.bl false) := rfl
theorem is_str {i : Str} : f_is (.str i) .non = some (.bl false) := rfl
theorem isn_non : f_isnt .non .non = some (.bl false) := rfl
theorem isn_int {i : Int} : f_isnt (.int i) .non = some (.bl true) := rfl
theorem isn_tup {i : List T} : f_isnt (.tup i) .non = some (.bl true) := rfl
theorem it_lst {xs : List T} : T.isTy "list" (.lst xs) = true := rfl
theorem it_dct {xs : List (Key × T)} : T.isTy "dict" (.dct xs) = true := rfl
theorem it_ld {xs : List T} : T.isTy "dict" (.lst xs) = false := rfl
theorem it_dl {xs : List (Key × T)} : T.isTy "list" (.dct xs) = false := rfl
theorem nx_ok {α : Type} {a : α} : noX (Rs.ok a) = .ok a := rfl
theorem nx_bad {α : Type} : noX (Rs.bad : Rs α) = .bad := rfl
theorem bs_not {b : Bool} : (¬ b = true) = (b = false) := by cases b <;> simp
def rng1Q : List T → Rs (List T) := fun ts => match ts with
  | [.int j] => if okRng j = true then .ok (rngT 0 j.toNat) else .bad
  | _ => .bad
def rng2Q : List T → Rs (List T) := fun ts => match ts with
  | [.int i, .int j] => if (okRng i && okRng j) = true then .ok (rngT i (j - i).toNat) else .bad
  | _ => .bad
/-- the same, but nobody can look into it -/
theorem ex_same {α : Type} (f : α) : ∃ g, g = f := ⟨f, rfl⟩
noncomputable def rng1Z : List T → Rs (List T) := Classical.choose (ex_same rng1Q)
noncomputable def rng2Z : List T → Rs (List T) := Classical.choose (ex_same rng2Q)
theorem rng1Z_eq : rng1Z = rng1Q := Classical.choose_spec (ex_same rng1Q)
theorem rng2Z_eq : rng2Z = rng2Q := Classical.choose_spec (ex_same rng2Q)
theorem x_rng1P {pA : Ev → Rs (List T)} {τ : Ev} : rng1P pA τ = (pA τ).bind rng1Z := by rw [rng1Z_eq]; rfl
theorem x_rng2P {pA : Ev → Rs (List T)} {τ : Ev} : rng2P pA τ = (pA τ).bind rng2Z := by rw [rng2Z_eq]; rfl
theorem okR {k : Int} (h0 : -1000000 ≤ k) (h1 : k ≤ 1000000) : okRng k = true := by
  unfold okRng
  rw [decide_eq_true (by omega), decide_eq_true (by omega)]
  rfl
theorem rng1_ok {j : Int} (h0 : -1000000 ≤ j) (h1 : j ≤ 1000000) : rng1Z [.int j] = .ok (rngT 0 j.toNat) := by
  rw [rng1Z_eq]
  unfold rng1Q
  exact if_pos (okR h0 h1)
theorem rng2_ok {i j : Int} (h0 : -1000000 ≤ i) (h1 : i ≤ 1000000) (h2 : -1000000 ≤ j) (h3 : j ≤ 1000000) : rng2Z [.int i, .int j] = .ok (rngT i (j - i).toNat) := by
  rw [rng2Z_eq]
  unfold rng2Q
  exact if_pos (by rw [okR h0 h1, okR h2 h3]; rfl)
theorem x_rng1E {qA : Ev → Re Ev (List T)} {τ : Ev} : rng1E qA τ = (qA τ).bind fun ts τ1 => upE τ1 (rng1Z ts) := by
  rw [rng1Z_eq]
  unfold rng1E rng1Q
  congr 1
  funext ts τ1
  cases ts with
  | nil => rfl
  | cons a ts =>
    cases ts with
    | nil =>
      cases a with
      | int j =>
        show (if okRng j = true then _ else _) = upE τ1 (if okRng j = true then _ else _)
        by_cases h : okRng j = true
        · rw [if_pos h, if_pos h]; rfl
        · rw [if_neg h, if_neg h]; rfl
      | _ => rfl
    | cons b ts => cases a <;> rfl
end Rw

namespace Rw
open PySem PySem.Spec PyProof.Rows L2
section
variable {K : PySem.W.Frag} {R : Nat → Sa} {π : Nat → V} {W : WX} {c : Cn}
/-! ### raise -/
def raiseS (x : Xc) : Ev → Re Ev Fl := fun τ => .exc x τ
theorem sm_raiseP {x : Str} : SmS c.K c.W (tRaise c.W (mkPl c x)) (raiseS ⟨x, []⟩) := fun R π σ τ H A D S z => z _ none σ H A S ⟨rfl, rfl⟩ Step.rfl
def imOr (t : T) : T := if t.im = true then t else .any
theorem imOr_rp {H : Hp} {v : V} {t : T} {B : Sa} (r : Rp K H v t B) : Rp K H v (imOr t) noM := by
  unfold imOr
  split
  · rename_i h
    exact r.im h
  · exact .any
/-- what an own __init__ of an exception's class does: each of these fields is a parameter -/
def SpI (K : PySem.W.Frag) (sp : Sp) (C : Str) (n : Nat) (fs : List (Str × Nat)) : Prop := ∀ a vs H Q E, H a = some (exo a (He.ga K C) none) → vs.length = n →
  (∀ d H2, H d = none → d ≠ a → H2 a = some (exo a (He.ga K C) (some d)) → H2 d = some (exd d (fs.map fun p => (p.1, nth (V.ref a :: vs) p.2)).reverse) → (∀ b, b ≠ a → b ≠ d → H2 b = H b) → Q .non H2) → sp (.ref a :: vs) H Q E
def raiseI (x : Str) (na : Nat) (fs : List (Str × Nat)) (pA : Ev → Rs (List T)) : Ev → Re Ev Fl := fun τ => (upE τ (pA τ)).bind fun ts τ1 => if ts.length = na then .exc ⟨x, (fs.map fun p => (p.1, imOr (ntT (.any :: ts) p.2))).reverse⟩ τ1 else .bad
theorem plug_pos (K : PySem.W.Frag) (vs zs : List V) : plug K ((List.range vs.length).map Src.pos) vs zs = vs := by
  unfold plug
  rw [List.map_map]
  refine List.ext_getElem (by simp) fun i h1 h2 => ?_
  rw [List.getElem_map, List.getElem_range]
  show nth vs i = _
  rw [nth_at, List.getD_eq_getElem?_getD, List.getElem?_eq_getElem h2]
  rfl
theorem rpl_fs {H : Hp} {vs : List V} {ts : List T} (h : EachR K H vs ts) (a : Addr) : ∀ fs : List (Str × Nat), RpL K H ((fs.map fun p => (p.1, nth (V.ref a :: vs) p.2)).map (·.2)) ((fs.map fun p => (p.1, imOr (ntT (.any :: ts) p.2))).map (·.2)) noM
  | [] => .nil
  | p :: fs => by
    refine .cons (A1 := noM) ?_ (rpl_fs h a fs) Sub.rfl Sub.rfl noM_dj
    obtain ⟨B, r⟩ := each_get (vs := V.ref a :: vs) (ts := .any :: ts) p.2 (.cons ⟨noM, .any⟩ h)
    exact imOr_rp r
theorem rpl_rev {H : Hp} {vs : List V} {ts : List T} (r : RpL K H vs ts noM) : RpL K H vs.reverse ts.reverse noM := by
  induction vs generalizing ts with
  | nil => cases r; exact .nil
  | cons v vs ih =>
    cases r with
    | cons h1 h2 s1 s2 d =>
      rw [List.reverse_cons, List.reverse_cons]
      exact ((ih (h2.weak s2)).append ((h1.weak s1).one) noM_dj).weak fun q z => z.elim id id
theorem sm_raiseI {x : Str} {na : Nat} {s : Shp} {fs : List (Str × Nat)} {tA : TA} {pA : Ev → Rs (List T)} (hs : shpOf c.sh (x, some ("__init__" : Str)) (na + 1) [] = some s) (hp : s.plan = (List.range (na + 1)).map Src.pos) (sp : SpI c.K (c.Ph s.key) x na fs) (ne : fs ≠ []) (hA : SmAR c.K c.W tA pA) :
    SmS c.K c.W (tRaise c.W (mkIni c x na tA)) (raiseI x na fs pA) := fun R π σ τ H A D S z => by
  unfold raiseI at z
  rw [Re.post_bind] at z
  refine ⟨s, hs, hA σ τ H _ S.r (Rs.post_mono (upE_post z) (fun ts q vs H1 x1 y => ?_) fun x q => q.r S)⟩
  split at q
  · rename_i l
    have lv : vs.length = na := (Paired.length y).trans l
    refine ⟨lv, fun a na0 => ?_⟩
    rw [hp, show na + 1 = (V.ref a :: vs).length by rw [List.length_cons, lv], plug_pos]
    refine sp a vs _ _ _ upd_same lv fun d H2 hd ne2 e1 e2 e3 => ⟨rfl, d, _, e1, e2, ?_, ?_⟩
    · rw [upd_ne ne2] at hd
      exact hd
    · rw [upd_ne ne2] at hd
      have X : Ext noM H1 (upd (del H2 a) d (.xd (fs.map fun p => (p.1, nth (V.ref a :: vs) p.2)).reverse)) := fun b o _ eb => by
        have ba : b ≠ a := fun e => by rw [e, na0] at eb; cases eb
        have bd : b ≠ d := fun e => by rw [e, hd] at eb; cases eb
        rw [upd_ne bd, del_ne ba, e3 b ba bd, upd_ne ba]
        exact eb
      refine q _ (some d) σ _ A ((S.ext x1).ext X) ⟨rfl, ?_, _, upd_same, ?_, ?_⟩ ((Step.ext x1).trans (Step.ext X))
      · intro e
        have e := congrArg List.length e
        rw [List.length_reverse, List.length_map] at e
        exact ne (List.length_eq_zero_iff.mp e)
      · simp [List.map_map, List.map_reverse, Function.comp_def]
      · rw [List.map_reverse, List.map_reverse]
        exact rpl_rev ((rpl_fs y a fs).mono X.kp)
  · exact q.elim
/-- the body of such an __init__ -/
def ostX (c : Cn) : List (Str × Nat) → TS
  | [] => tNext
  | (f, i) :: r => tSeq (tOstX c f (tVar 0) (tVar i)) (ostX c r)
theorem ost_more {C : Str} (hc : hasX (isIni C) c.xa = true) {σ : L2.St} {a d : Addr} (h0 : σ[0]? = some (some (.ref a))) {vs : List V} (hv : ∀ i, i < vs.length → σ[i]? = some (some (nth vs i))) {D : Ends} : ∀ {fs : List (Str × Nat)} {H : Hp} {acc : List (Str × V)}, (∀ p ∈ fs, hasX (isNo C p.1) c.xa = true ∧ p.2 < vs.length) →
    acc.length + fs.length ≤ 900 → H a = some (exo a (He.ga c.K C) (some d)) → H d = some (exd d acc) → a ≠ d → (∀ H2, H2 a = some (exo a (He.ga c.K C) (some d)) → H2 d = some (exd d ((fs.map fun p => (p.1, nth vs p.2)).reverse ++ acc)) → (∀ b, b ≠ a → b ≠ d → H2 b = H b) → D.nx σ H2) → ostX c fs D σ H
  | [], H, acc, _, _, e1, e2, _, q => q H e1 e2 fun _ _ _ => rfl
  | (f, i) :: fs, H, acc, hf, hl, e1, e2, ne, q => by
    obtain ⟨g1, g2⟩ := hf _ List.mem_cons_self
    refine ⟨_, hv i g2, _, h0, a, C, rfl, hc, g1, .inr ⟨d, acc, e1, e2, by rw [List.length_cons] at hl; omega, ?_⟩⟩
    refine ost_more hc h0 hv (d := d) (acc := (f, nth vs i) :: acc) (fun p hp => hf p (List.mem_cons_of_mem _ hp)) (by rw [List.length_cons] at hl ⊢; omega) (by rw [upd_ne ne]; exact e1) upd_same ne fun H2 y1 y2 y3 => ?_
    refine q H2 y1 (by rw [y2]; simp) fun b b1 b2 => ?_
    rw [y3 b b1 b2, upd_ne b2]
theorem ost_first {C f : Str} {i : Nat} (hc : hasX (isIni C) c.xa = true) {σ : L2.St} {a : Addr} (h0 : σ[0]? = some (some (.ref a))) {vs : List V} (hv : ∀ i, i < vs.length → σ[i]? = some (some (nth vs i))) {D : Ends} {fs : List (Str × Nat)} {H : Hp} (hf : ∀ p ∈ (f, i) :: fs, hasX (isNo C p.1) c.xa = true ∧ p.2 < vs.length) (hl : fs.length ≤ 800)
    (e1 : H a = some (exo a (He.ga c.K C) none)) (q : ∀ d H2, H d = none → d ≠ a → H2 a = some (exo a (He.ga c.K C) (some d)) → H2 d = some (exd d (((f, i) :: fs).map fun p => (p.1, nth vs p.2)).reverse) → (∀ b, b ≠ a → b ≠ d → H2 b = H b) → D.nx σ H2) : ostX c ((f, i) :: fs) D σ H := by
  obtain ⟨g1, g2⟩ := hf _ List.mem_cons_self
  refine ⟨_, hv i g2, _, h0, a, C, rfl, hc, g1, .inl ⟨e1, fun d hd ne => ?_⟩⟩
  refine ost_more hc h0 hv (d := d) (acc := [(f, nth vs i)]) (fun p hp => hf p (List.mem_cons_of_mem _ hp)) (by rw [List.length_singleton]; omega) upd_same (by rw [upd_ne ne, upd_same]) (Ne.symm ne) fun H2 y1 y2 y3 => ?_
  refine q d H2 hd ne y1 (by rw [y2]; simp) fun b b1 b2 => ?_
  rw [y3 b b1 b2, upd_ne b1, upd_ne b2]
end
/-- such a def's promise -/
theorem spI_of {K : PySem.W.Frag} {es : List Ent} {n m : Nat} {C f : Str} {i : Nat} {fs : List (Str × Nat)} {en : Ent} {z : Str} {cc : Cn} {xa : List Ex} (hk : cc.K = K) (hx : cc.xa = xa) (e : entOf es (C, some ("__init__" : Str)) = some en) (hl : en.ps.length = m + 1) (hc : hasX (isIni C) xa = true)
    (hf : (((f, i) :: fs).all fun p => hasX (isNo C p.1) xa && decide (p.2 < m + 1)) = true) (hz : fs.length ≤ 800) (hm : m ≤ 900)
    (ht : ∀ W D σ H, tSeq (tDrop (tVeX cc (tCons (tVar 0) (tCons (tC (.str z)) tNil)))) (ostX cc ((f, i) :: fs)) D σ H → en.T K (lev K es n) W D σ H) : SpI K (lev K es (n + 1) (C, some "__init__")) C m ((f, i) :: fs) := fun a vs H Q E ea lv q => by
  subst hx
  have hf : ∀ p ∈ (f, i) :: fs, hasX (isNo C p.1) cc.xa = true ∧ p.2 < m + 1 := fun p hp => by
    obtain ⟨h1, h2⟩ := He.ba (List.all_eq_true.mp hf p hp)
    exact ⟨h1, of_decide_eq_true h2⟩
  subst hk
  refine lev_in e (by rw [hl, List.length_cons, lv]) (ht _ _ _ _ ?_)
  have hv : ∀ j, j < (V.ref a :: vs).length → (L2.start en.N (V.ref a :: vs))[j]? = some (some (nth (V.ref a :: vs) j)) := fun j hj => by
    unfold L2.start
    rw [List.getElem?_append_left (by simpa using hj), List.getElem?_map, List.getElem?_eq_getElem hj, nth_at, List.getD_eq_getElem?_getD, List.getElem?_eq_getElem hj]
    rfl
  have h0 := hv 0 (by rw [List.length_cons]; omega)
  refine ⟨_, h0, ?_⟩
  refine ⟨a, C, [.str z], rfl, Nat.le_of_ble_eq_true rfl, hc, ea, ?_⟩
  refine ost_first hc h0 hv (vs := V.ref a :: vs) (fun p hp => ⟨(hf p hp).1, by rw [List.length_cons, lv]; exact (hf p hp).2⟩) hz ea fun d H2 hd ne y1 y2 y3 => q d H2 hd ne y1 y2 y3
end Rw
namespace Rw
open PySem PySem.Spec PyProof.Rows L2
/-! ### try -/
def subX (xa : List Ex) (E C : Str) : Option Bool := if hasX (isSub E C true) xa = true then some true else if hasX (isSub E C false) xa = true then some false else none
theorem subX_ok {xa : List Ex} {E C : Str} {b : Bool} (h : subX xa E C = some b) : hasX (isSub E C b) xa = true := by
  unfold subX at h
  split at h
  · cases h; assumption
  · split at h
    · cases h; assumption
    · cases h
structure HdT where
  cls : Str
  i : Option Nat
  q : Addr → Option Addr → Xc → Ev → Re Ev Fl
def bindNm (i : Option Nat) (a : Addr) (d : Option Addr) (x : Xc) (τ : Ev) : Option Ev := match i with
  | none => some τ
  | some i => match τ[i]? with
    | some s => if s.isPar = true then none else some (τ.set i (.own (.exn a d x.cls x.fs)))
    | none => none
def clrNm (i : Option Nat) (τ : Ev) : Option Ev := match i with
  | none => some τ
  | some i => match τ[i]? with
    | some s => if s.isPar = true then none else some (τ.set i .no)
    | none => none
def suiteS (i : Option Nat) (q : Ev → Re Ev Fl) (τ : Option Ev) : Re Ev Fl := match τ with
  | some τ => match q τ with
    | .ok f τ2 => match clrNm i τ2 with
      | some τ3 => .ok f τ3
      | none => .bad
    | _ => .bad
  | none => .bad
open Classical in
/-- where the exception stands has no bearing -/
noncomputable def coll (f : Addr → Addr → Re Ev Fl) : Re Ev Fl := if ∀ a d, f a d = f 0 0 then f 0 0 else .bad
theorem coll_const {r : Re Ev Fl} : coll (fun _ _ => r) = r := if_pos fun _ _ => rfl
def exD (x : Xc) (d : Addr) : Option Addr := if x.fs.isEmpty = true then none else some d
noncomputable def hsGo (xa : List Ex) (x : Xc) (τ : Ev) : List HdT → Re Ev Fl
  | [] => .exc x τ
  | h :: r => match subX xa x.cls h.cls with
    | some true => coll fun a d => suiteS h.i (h.q a (exD x d) x) (bindNm h.i a (exD x d) x τ)
    | some false => hsGo xa x τ r
    | none => .bad
noncomputable def tryS (xa : List Ex) (qb : Ev → Re Ev Fl) (hs : List HdT) : Ev → Re Ev Fl := fun τ => match qb τ with
  | .exc x τ1 => hsGo xa x τ1 hs
  | r => r
inductive HdsT (c : Cn) : List HdW → List HdT → Prop
  | nil : HdsT c [] []
  | cons {h : HdW} {t : HdT} {l : List HdW} {hs : List HdT} (e1 : h.cls = t.cls) (e2 : h.i = t.i) (s : ∀ a d (x : Xc), SmS c.K noW (h.ts a (.ref (He.ga c.K x.cls)) d) (t.q a d x)) (r : HdsT c l hs) : HdsT c (h :: l) (t :: hs)
section
variable {K : PySem.W.Frag} {R : Nat → Sa} {π : Nat → V} {W : WX} {c : Cn}
theorem Stt.clr {H : Hp} {σ : L2.St} {τ : Ev} {A : Sa} (S : Stt K R π H σ τ A) (i : Nat) : Stt K R π H (σ.set i none) (τ.set i .no) A := by
  obtain ⟨l, ⟨P, h1, h2, h3⟩, dR', a, mA⟩ := S
  refine ⟨by rw [List.length_set, List.length_set]; exact l, ⟨P, h1, h2, fun j s e => ?_⟩, dR', a, mA⟩
  by_cases hj : i = j
  · subst hj
    by_cases hi : i < τ.length
    · rw [List.getElem?_set_self hi] at e
      cases e
      exact True.intro
    · rw [List.getElem?_eq_none (by simpa using hi)] at e
      cases e
  · rw [List.getElem?_set_ne hj] at e ⊢
    exact h3 j s e
theorem rpx_exn {H : Hp} {cls : Value} {d : Option Addr} {x : Xc} (h : RpX K H cls d x) (a : Addr) : Rp K H (.ref a) (.exn a d x.cls x.fs) noM := by
  obtain ⟨_, h⟩ := h
  cases d with
  | none =>
    have h : x.fs = [] := h
    rw [h]
    exact .exn0
  | some dd =>
    obtain ⟨ne, fs, e1, e2, r⟩ := h
    exact .exn1 ne e1 e2 r
theorem rpx_d {H : Hp} {cls : Value} {d : Option Addr} {x : Xc} (h : RpX K H cls d x) : ∃ d0, d = exD x d0 := by
  obtain ⟨_, h⟩ := h
  unfold exD
  cases d with
  | none =>
    have h : x.fs = [] := h
    refine ⟨0, ?_⟩
    rw [h]
    rfl
  | some dd =>
    obtain ⟨ne, _⟩ := h
    refine ⟨dd, ?_⟩
    rw [if_neg]
    intro z
    exact ne (List.isEmpty_iff.mp z)
theorem bind_stt {i : Option Nat} {a : Addr} {cls : Value} {d : Option Addr} {x : Xc} {τ τ2 : Ev} {σ : L2.St} {H : Hp} {A : Sa} (e : bindNm i a d x τ = some τ2) (S : Stt K R π H σ τ A) (rx : RpX K H cls d x) : ∃ A2, Stt K R π H (setNm i a σ) τ2 A2 ∧ Sub A2 A := by
  cases i with
  | none =>
    cases e
    exact ⟨A, S, Sub.rfl⟩
  | some i =>
    unfold bindNm at e
    simp only at e
    split at e
    · rename_i s0 es
      split at e
      · cases e
      · rename_i np
        cases e
        exact ⟨_, S.asg es (by simpa using np) (rpx_exn rx a) dj_noM dj_noM (fun _ h => h.elim), fun q (z : A q ∨ False) => z.elim id fun z => z.elim⟩
    · cases e
theorem clr_ok {i : Option Nat} {τ τ2 : Ev} {H H' : Hp} {A A2 : Sa} {D : Ends} {f : Fl} (e : clrNm i τ = some τ2) (z : OkS K R π H A D f τ2) (st : Step A H A2 H') : OkS K R π H' A2 (unNm i D) f τ := by
  cases i with
  | none =>
    cases e
    exact z.step st
  | some i =>
    have e2 : τ2 = τ.set i .no := by
      unfold clrNm at e
      simp only at e
      split at e
      · split at e
        · cases e
        · cases e; rfl
      · cases e
    subst e2
    cases f with
    | nx => exact fun σ6 H6 A6 S6 s6 => z _ H6 A6 (S6.clr i) (st.trans s6)
    | bk => exact fun σ6 H6 A6 S6 s6 => z _ H6 A6 (S6.clr i) (st.trans s6)
    | ct => exact fun σ6 H6 A6 S6 s6 => z _ H6 A6 (S6.clr i) (st.trans s6)
    | rt t => exact fun v σ6 H6 A6 B6 S6 r6 d6 dR6 m6 s6 => z v _ H6 A6 B6 (S6.clr i) r6 d6 dR6 m6 (st.trans s6)
theorem hs_run {D : Ends} {H : Hp} {A : Sa} {x : Xc} {τ : Ev} : ∀ {l : List HdW} {hs : List HdT}, HdsT c l hs → (hsGo c.xa x τ hs).post (OkS c.K R π H A D) (ExT c.K R π c.W H A) → ExT c.K R π (wHs c c.W D l) H A x τ
  | _, _, .nil, z => z
  | _, _, .cons (h := h) (t := t) e1 e2 s r, z => by
    intro cls d σ' H' A' S rx st
    unfold hsGo at z
    split at z
    · rename_i eb
      refine ⟨x.cls, true, rx.1, by rw [e1]; exact subX_ok eb, fun _ a na => ?_, (fun e => by cases e)⟩
      unfold coll at z
      split at z
      · rename_i cc
        obtain ⟨d0, ed⟩ := rpx_d rx
        have cc := cc a d0
        simp only [] at cc z
        rw [← cc, ← ed] at z
        unfold suiteS at z
        have ecls := rx.1
        subst ecls
        split at z
        · rename_i τ2 eτ
          obtain ⟨A2, S2, sb⟩ := bind_stt eτ S rx
          rw [← e2] at S2 z
          refine s a d x R π _ τ2 H' A2 _ S2 ?_
          split at z
          · rename_i f τ3 ef
            rw [ef]
            split at z
            · rename_i τ4 e4
              exact clr_ok e4 z (st.sub sb)
            · exact z.elim
          · exact z.elim
        · exact z.elim
      · exact z.elim
    · rename_i eb
      exact ⟨x.cls, false, rx.1, by rw [e1]; exact subX_ok eb, (fun e => by cases e), fun _ => hs_run r z cls d σ' H' A' S rx st⟩
    · exact z.elim
theorem sm_try {xa : List Ex} {tb : WX → TS} {qb : Ev → Re Ev Fl} {l : List HdW} {hs : List HdT} (hx : c.xa = xa) (hb : ∀ W, SmS c.K W (tb W) qb) (h : HdsT c l hs) : SmS c.K c.W (tTryW c tb l) (tryS xa qb hs) := fun R π σ τ H A D S z => by
  subst hx
  refine hb _ R π σ τ H A D S ?_
  unfold tryS at z
  cases e : qb τ with
  | ok f τ1 => rw [e] at z; exact z
  | bad => rw [e] at z; exact z.elim
  | exc x τ1 => rw [e] at z; exact hs_run h z
/-! ### in a suite -/
def clsB (xa : List Ex) (D : Str) : T → Option Bool
  | .glo C => subX xa D C
  | .ty n => if hasX (isTyX D n true) xa = true then some true else if hasX (isTyX D n false) xa = true then some false else none
  | _ => none
def clsBs (xa : List Ex) (D : Str) : List T → Option (List Bool)
  | [] => some []
  | t :: ts => (clsB xa D t).bind fun b => (clsBs xa D ts).map (b :: ·)
theorem clsB_ok {H : Hp} {D : Str} {v : V} {t : T} {B : Sa} {b : Bool} (r : Rp c.K H v t B) (h : clsB c.xa D t = some b) : ClsX c.K c.xa D v b := by
  cases r with
  | glo => exact .own (subX_ok h)
  | @ty n =>
    refine .ty ?_
    have h : (if hasX (isTyX D n true) c.xa = true then some true else if hasX (isTyX D n false) c.xa = true then some false else none) = some b := h
    split at h
    · cases h; assumption
    · split at h
      · cases h; assumption
      · cases h
  | _ => cases h
theorem clsBs_ok {H : Hp} {D : Str} : ∀ {vs : List V} {ts : List T} {B : Sa} {bs : List Bool}, RpL c.K H vs ts B → clsBs c.xa D ts = some bs → Paired (ClsX c.K c.xa D) vs bs
  | _, _, _, _, .nil, h => by cases h; exact .nil
  | _, _, _, bs, .cons (t := t) (ts := ts) h1 h2 _ _ _, h => by
    have h : ((clsB c.xa D t).bind fun b => (clsBs c.xa D ts).map (b :: ·)) = some bs := h
    obtain ⟨b, e1, h⟩ := Option.bind_eq_some_iff.mp h
    obtain ⟨cs, e2, rfl⟩ := Option.map_eq_some_iff.mp h
    exact .cons (clsB_ok h1 e1) (clsBs_ok h2 e2)
/-- isinstance(e, ..), e the exception that is handled: at a, its dict at d -/
def q_isX (xa : List Ex) (a : Addr) (d : Option Addr) (x : Xc) : List T → Option T
  | [.exn a' d' C fs, t] => if a' = a ∧ d' = d ∧ C = x.cls ∧ hasX (isExn C) xa = true then (match t with
    | .tup ts => (clsBs xa C ts).map fun bs => .bl (bs.any id)
    | t => (clsB xa C t).map .bl) else none
  | _ => none
theorem fn_isX {xa : List Ex} {a : Addr} {d : Option Addr} {x : Xc} (hx : c.xa = xa) (hc : c.cx = some (a, .ref (He.ga c.K x.cls), d)) : FnS (rIsX c) c.K (q_isX xa a d x) := fun vs ts H Q u h e q => by
  subst hx
  unfold q_isX at e
  split at e
  · rename_i a' d' C fs t
    split at e
    · rename_i cc
      obtain ⟨rfl, rfl, rfl, hex⟩ := cc
      obtain ⟨v, y, B, B2, rfl, r1, r2⟩ := each2 h
      have ev : v = .ref a' ∧ XdAt H d' := by
        cases r1 with
        | exn0 => exact ⟨rfl, True.intro⟩
        | exn1 ne hh e r => exact ⟨rfl, _, hh⟩
      obtain ⟨rfl, hxd⟩ := ev
      refine ⟨a', x.cls, d', y, hc, hex, hxd, rfl, ?_⟩
      split at e
      · rename_i ts2
        obtain ⟨bs, e1, rfl⟩ := Option.map_eq_some_iff.mp e
        cases r2 with
        | tup ht rl => exact .inr ⟨_, _, bs, rfl, ht, clsBs_ok rl e1, q _ H noM Ext.rfl .bl fresh_no⟩
      · rename_i t2 nt
        obtain ⟨b, e1, rfl⟩ := Option.map_eq_some_iff.mp e
        exact .inl ⟨b, clsB_ok r2 e1, q _ H noM Ext.rfl .bl fresh_no⟩
    · cases e
  · cases e
/-- e.f -/
def xfP (xa : List Ex) (a : Addr) (d : Option Addr) (x : Xc) (f : Str) (pe : Ev → Rs T) : Ev → Rs T := fun τ => (pe τ).bind fun t => match t with
  | .exn a' d' C fs => if a' = a ∧ d' = d ∧ C = x.cls ∧ hasX (isExn C) xa = true ∧ hasX (isNo C f) xa = true then ofO (fs.lookup f) else .bad
  | _ => .bad
theorem sm_xf {xa : List Ex} {a : Addr} {d : Option Addr} {x : Xc} {f : Str} {te : TE} {pe : Ev → Rs T} (hx : c.xa = xa) (hc : c.cx = some (a, .ref (He.ga c.K x.cls), d)) (he : SmR c.K W te pe) : SmF c.K W (tXfc c f te) (xfP xa a d x f pe) := fun σ τ H Q h z => by
  subst hx
  unfold xfP at z
  rw [Rs.post_bind] at z
  refine he σ τ H _ h (Rs.post_mono z (fun t q v H1 B x1 y => ?_) fun _ q => q)
  split at q
  · rename_i a' d' C fs
    split at q
    · rename_i cc
      obtain ⟨rfl, rfl, rfl, hex, hno⟩ := cc
      obtain ⟨t, e, q⟩ := ofO_post q
      cases y with
      | exn0 => cases e
      | @exn1 _ dd _ vs _ _ ne hh en r =>
        obtain ⟨k, e1, e2⟩ := lookup_ix e
        obtain ⟨v, ev, rv⟩ := r.get e1
        exact ⟨a', x.cls, dd, vs, v, hc, hex, hno, rfl, hh, by rw [e2 vs en]; exact ev, q v H1 noM x1 rv fresh_no⟩
    · exact q.elim
  · exact q.elim
end
/-! ### frozen displays -/
section
variable {K : PySem.W.Frag} {W : WX} {tA : TA} {pA : Ev → Rs (List T)}
def frzP (pA : Ev → Rs (List T)) : Ev → Rs T := fun τ => (pA τ).bind fun ts => if ts.length ≤ sizeLine ∧ T.imL ts = true then .ok (.frz ts) else .bad
theorem sm_frzL (hA : SmAF K W tA pA) : SmF K W (tFrz (tLst tA)) (frzP pA) := fun σ τ H Q h z => by
  unfold frzP at z
  rw [Rs.post_bind] at z
  refine hA σ τ H _ h (Rs.post_mono z (fun ts q vs H1 B x y f => ?_) fun _ q => q)
  split at q
  · rename_i c
    refine ⟨by rw [y.len]; exact c.1, fun p np => ⟨p, .lst vs, rfl, upd_same, True.intro, fun od => ?_⟩⟩
    have X : Ext noM H1 (upd (upd H1 p (.lst vs)) p (.frz od (.lst vs))) := fun b o _ e => by
      have ne : b ≠ p := fun c => by rw [c, np] at e; cases e
      rw [upd_ne ne, upd_ne ne]
      exact e
    exact q _ _ noM (x.trans X) (.frz (.inl ⟨od, upd_same⟩) ((y.im c.2).mono X.kp)) fresh_no
  · exact q.elim
theorem sm_frzD : SmF K W (tFrz tDNewK) (cP .fzd) := fun σ τ H Q h z => by
  intro p np
  refine ⟨p, .dK [], rfl, upd_same, True.intro, fun od => ?_⟩
  have X : Ext noM H (upd (upd H p (.dK [])) p (.frz od (.dK []))) := fun b o _ e => by
    have ne : b ≠ p := fun c => by rw [c, np] at e; cases e
    rw [upd_ne ne, upd_ne ne]
    exact e
  exact z _ _ noM X (.fzd upd_same) fresh_no
end
/-! ### loops over one's own list -/
def unlend (i : Nat) : Re Ev Fl → Re Ev Fl
  | .ok f τ => match τ[i]? with
    | some (.lnd t) => .ok f (τ.set i (.own t))
    | _ => .bad
  | .exc x τ => match τ[i]? with
    | some (.lnd t) => .exc x (τ.set i (.own t))
    | _ => .bad
  | .bad => .bad
def forOS (i : Nat) (pg : T → Ev → Rs Ev) (qs : Ev → Re Ev Fl) : Ev → Re Ev Fl := fun τ => match τ[i]? with
  | some (.own t) => match t.walk with
    | some xs => if T.imL xs = true then unlend i (forGo pg qs xs (τ.set i (.lnd t))) else .bad
    | none => .bad
  | _ => .bad
section
variable {K : PySem.W.Frag} {R : Nat → Sa} {π : Nat → V} {W : WX} {t : TS} {qt : Ev → Re Ev Fl}
theorem lend_out {H H' : Hp} {A A1 P : Sa} {i : Nat} {τ' : Ev} {u : T} {σ' : L2.St} {A2 : Sa} (hR : Dj (RU R) A) (aR : ∀ q, RU R q → At H q) (sP : Sub P A) (mA : ∀ q, A q → Mt H q) (s1 : ∀ q, A1 q ↔ A q ∧ ¬ P q)
    (st : Step A1 H A2 H') (S : Stt K (fun j => if j = i + 1 then P else R j) π H' σ' τ' A2) (e : τ'[i]? = some (.lnd u)) : Stt K R π H' σ' (τ'.set i (.own u)) (Uni A2 P) ∧ Step A H (Uni A2 P) H' := by
  obtain ⟨l, ⟨Q, h1, h2, h3⟩, dR', a, mA2⟩ := S
  have hi : i < τ'.length := (List.getElem?_eq_some_iff.mp e).1
  have dP : ∀ q, P q → A2 q → False := fun q p a2 => by
    rcases st.g q a2 with y | y
    · exact ((s1 q).mp y).2 p
    · exact (mt_no (mA q (sP q p))).2.2 y
  have keep : ∀ q o, P q → H q = some o → H' q = some o := fun q o p eo => st.x q o (fun y => ((s1 q).mp y).2 p) eo
  have mP : ∀ q, P q → Mt H' q := fun q p => by
    rcases mA q (sP q p) with ⟨x, m⟩ | ⟨x, m⟩ | ⟨x, y, z, m⟩
    · exact .inl ⟨x, keep q _ p m⟩
    · exact .inr (.inl ⟨x, keep q _ p m⟩)
    · exact .inr (.inr ⟨x, y, z, keep q _ p m⟩)
  refine ⟨⟨by rw [List.length_set]; exact l, ⟨fun j => if j = i then P else Q j, fun j => ?_, fun j k ne => ?_, fun j s' e' => ?_⟩, fun q z y => ?_, fun q z => ?_, fun q z => z.elim (mA2 q) (mP q)⟩, ⟨fun q o n eo => st.x q o (fun y => n ((s1 q).mp y).1) eo, fun q z => z.elim (fun y => (st.g q y).elim (fun z => .inl ((s1 q).mp z).1) .inr) fun y => .inl (sP q y)⟩⟩
  · by_cases c : j = i
    · simp only [c, if_true]; exact Sub.r
    · simp only [c, if_false]; exact (h1 j).trans Sub.l
  · by_cases hj : j = i
    · by_cases hk : k = i
      · exact absurd (hj.trans hk.symm) ne
      · simp only [hj, hk, if_true, if_false]; exact fun q p y => dP q p (h1 k q y)
    · by_cases hk : k = i
      · simp only [hj, hk, if_true, if_false]; exact fun q y p => dP q p (h1 j q y)
      · simp only [hj, hk, if_false]; exact h2 j k ne
  · by_cases hj : i = j
    · subst hj
      rw [List.getElem?_set_self hi] at e'
      cases e'
      obtain ⟨v, ev, r⟩ := h3 i _ e
      simp only [if_true] at r
      simp only [if_true]
      exact ⟨v, ev, r⟩
    · rw [List.getElem?_set_ne hj] at e'
      have z := h3 j s' e'
      have hj' : ¬ j = i := fun z => hj z.symm
      simp only [hj', if_false]
      cases s' with
      | no => exact True.intro
      | bor t => simpa using z
      | lnd t =>
        obtain ⟨v, ev, r⟩ := z
        have : ¬ j + 1 = i + 1 := fun z => hj' (by omega)
        simp only [this, if_false] at r
        exact ⟨v, ev, r⟩
      | own t => exact z
      | par t => exact z
  · rcases y with y | y
    · rcases st.g q y with w | w
      · exact hR q z ((s1 q).mp w).1
      · exact aR q z w
    · exact hR q z (sP q y)
  · obtain ⟨j, z⟩ := z
    have hq := aR q ⟨j, z⟩
    intro hn
    have : ¬ A1 q := fun y => hR q ⟨j, z⟩ ((s1 q).mp y).1
    cases eo : H q with
    | none => exact hq eo
    | some o =>
      have := st.x q o this eo
      rw [hn] at this
      cases this
theorem sm_forO {g : TG} {pg : T → Ev → Rs Ev} {i : Nat} (hg : SmG K g pg) (hs : SmS K W t qt) : SmS K W (tFor (iAny K (tVar i)) g t) (forOS i pg qt) := fun R π σ τ H A D S z => by
  unfold forOS at z
  split at z
  · rename_i tt e
    split at z
    · rename_i xs ew
      split at z
      · rename_i im
        obtain ⟨l, ⟨P, h1, h2, h3⟩, dR, aR, mA⟩ := id S
        obtain ⟨v, ev, r⟩ := h3 i _ e
        have hi : i < τ.length := (List.getElem?_eq_some_iff.mp e).1
        have S1 : Stt K (fun j => if j = i + 1 then P i else R j) π H σ (τ.set i (.lnd tt)) (fun q => A q ∧ ¬ P i q) := by
          refine ⟨by rw [List.length_set]; exact l, ⟨fun j => if j = i then noM else P j, fun j => ?_, fun j k ne => ?_, fun j s' e' => ?_⟩, fun q z y => ?_, fun q z => ?_, fun q z => mA q z.1⟩
          · by_cases c : j = i
            · simp only [c, if_true]; exact noM_sub
            · simp only [c, if_false]; exact fun q z => ⟨h1 j q z, fun y => h2 j i c q z y⟩
          · by_cases hj : j = i
            · simp only [hj, if_true]; exact noM_dj
            · by_cases hk : k = i
              · simp only [hk, if_true]; exact dj_noM
              · simp only [hj, hk, if_false]; exact h2 j k ne
          · by_cases hj : i = j
            · subst hj
              rw [List.getElem?_set_self hi] at e'
              cases e'
              simp only [if_true]
              exact ⟨v, ev, r⟩
            · rw [List.getElem?_set_ne hj] at e'
              have z := h3 j s' e'
              have hj' : ¬ j = i := fun z => hj z.symm
              simp only [hj', if_false]
              cases s' with
              | no => exact True.intro
              | bor t => simpa using z
              | lnd t =>
                obtain ⟨v, ev, r⟩ := z
                have : ¬ j + 1 = i + 1 := fun z => hj' (by omega)
                simp only [this, if_false]
                exact ⟨v, ev, r⟩
              | own t => exact z
              | par t => exact z
          · obtain ⟨j, z⟩ := z
            by_cases c : j = i + 1
            · simp only [c, if_true] at z; exact y.2 z
            · simp only [c, if_false] at z; exact dR q ⟨j, z⟩ y.1
          · obtain ⟨j, z⟩ := z
            by_cases c : j = i + 1
            · simp only [c, if_true] at z
              exact (mt_no (mA q (h1 i q z))).2.2
            · simp only [c, if_false] at z; exact aR q ⟨j, z⟩
        have key : (forGo pg qt xs (τ.set i (.lnd tt))).post (OkS K (fun j => if j = i + 1 then P i else R j) π H (fun q => A q ∧ ¬ P i q) D) (ExT K (fun j => if j = i + 1 then P i else R j) π W H (fun q => A q ∧ ¬ P i q)) := by
          cases eg : forGo pg qt xs (τ.set i (.lnd tt)) with
          | bad => rw [eg] at z; exact z.elim
          | exc x τ' =>
            rw [eg] at z
            unfold unlend at z
            simp only at z
            split at z
            · rename_i u eu
              intro cls d σ' H' A2 S2 rx st
              obtain ⟨S3, st3⟩ := lend_out dR aR (h1 i) mA (fun q => Iff.rfl) st S2 eu
              exact z cls d σ' H' _ S3 rx st3
            · exact z.elim
          | ok f τ' =>
            rw [eg] at z
            unfold unlend at z
            simp only at z
            split at z
            · rename_i u eu
              have z : OkS K R π H A D f (τ'.set i (.own u)) := z
              cases f with
              | nx =>
                intro σ' H' A2 S2 st
                obtain ⟨S3, st3⟩ := lend_out dR aR (h1 i) mA (fun q => Iff.rfl) st S2 eu
                exact z σ' H' _ S3 st3
              | bk =>
                intro σ' H' A2 S2 st
                obtain ⟨S3, st3⟩ := lend_out dR aR (h1 i) mA (fun q => Iff.rfl) st S2 eu
                exact z σ' H' _ S3 st3
              | ct =>
                intro σ' H' A2 S2 st
                obtain ⟨S3, st3⟩ := lend_out dR aR (h1 i) mA (fun q => Iff.rfl) st S2 eu
                exact z σ' H' _ S3 st3
              | rt tr =>
                intro v σ' H' A2 B S2 rv dv dRv mv st
                obtain ⟨S3, st3⟩ := lend_out dR aR (h1 i) mA (fun q => Iff.rfl) (st.sub Sub.l) S2 eu
                refine z v σ' H' _ B S3 rv (fun q y b => ?_) (fun q y b => ?_) mv ⟨st3.x, fun q y => y.elim (st3.g q) fun b => (st.g q (.inr b)).elim (fun y => .inl y.1) .inr⟩
                · rcases y with y | y
                  · exact dv q y b
                  · exact dRv q ⟨i + 1, by simp only [if_true]; exact y⟩ b
                · obtain ⟨j, y⟩ := y
                  by_cases c : j = i + 1
                  · rcases st.g q (.inr b) with w | w
                    · exact dR q ⟨j, y⟩ w.1
                    · exact aR q ⟨j, y⟩ w
                  · exact dRv q ⟨j, by simp only [c, if_false]; exact y⟩ b
            · exact z.elim
        have ea : anyP (varP i) τ = .ok xs := by
          unfold anyP varP
          rw [e]
          show (ofO tt.walk : Rs (List T)) = _
          rw [ew]
          rfl
        refine anyRule (τ := τ) (pe := varP i) (W := W) (fun B _ => Sub B (P i)) (fun Q q => ⟨v, ev, ?_⟩) (Rs.post_eq ea fun J H1 C x tl sC => ?_)
        · unfold varP at q
          rw [e] at q
          exact q v H (P i) Ext.rfl r Sub.rfl
        · exact for_run hg hs (S1.ext x) tl (fun q c y => y.2 (sC q c)) im (Re.post_mono key (fun f τ q => q.step (Step.ext x)) fun _ _ q => ExT.step q (Step.ext x))
      · exact z.elim
    · exact z.elim
  · exact z.elim
end
end Rw
namespace Rw
open PySem PySem.Spec PyProof.Rows L2
/-! ### the law's end -/
theorem law_end {K : PySem.W.Frag} {sp : Sp} {pf : List T → Re (List T) T} {H : Hp} {a : Addr} {ns : List Int} {o : List T} (h : SpR K sp (roF pf)) (hp : pf [.frz (ns.map T.int)] = .ok (.bl true) o) (hO : Only H) (hS : SqL K H a (ns.map V.int)) : sp [.ref a] H (fun v _ => v = .bl true) fun _ _ _ => False := by
  have r : Rp K H (.ref a) (.frz (ns.map T.int)) noM := by
    refine .frz ?_ (rp_ints ns)
    rcases hS with (z | z) | z
    · rcases hO a with y | ⟨ob, xs, y⟩
      · rw [y] at z; cases z
      · rw [y] at z; cases z
    · exact .inl z
    · exact .inr z
  refine h _ _ H _ _ (.cons ⟨_, r⟩ .nil) ?_
  have e : roF pf [.frz (ns.map T.int)] = .ok (.bl true) := by
    unfold roF
    rw [hp]
  rw [e]
  intro v H' B _ rv _
  cases rv
  rfl
theorem tab_ok {K : PySem.W.Frag} {x : Str} {vs : List He.Dv} (h : He.tupB K x vs = true) : TabOk K x (vs.map T.dv) := by
  refine ⟨_, fun H => He.tupB_ok h H, fun H => ?_⟩
  clear h
  induction vs with
  | nil => exact .nil
  | cons v vs ih => exact .cons (A1 := noM) (dv_ok v) ih Sub.rfl Sub.rfl noM_dj
section
variable {K : PySem.W.Frag}
/-! xs.count(b), xs.index(b) of truths -/
theorem flat_bls (bs : List Bool) : (bs.map V.bl).all flatV = true := by
  induction bs with
  | nil => rfl
  | cons b bs ih => rw [List.map_cons, List.all_cons, ih]; rfl
theorem eqV_bl {a b : Bool} : eqV (.bl a) (.bl b) = (a == b) := rfl
def q_count : T → List T → Option T := fun s ts => match ts with
  | [.bl b] => s.lits.bind fun xs => (T.bls xs).map fun bs => .int ((bs.count b : Nat) : Int)
  | _ => none
theorem mt_countT : MtS (rCount K) K q_count := fun x vs s ts Bx H Q u rx h e q => by
  unfold q_count at e
  split at e
  · rename_i b
    obtain ⟨xs, e1, e2⟩ := Option.bind_eq_some_iff.mp e
    obtain ⟨bs, e3, rfl⟩ := Option.map_eq_some_iff.mp e2
    obtain ⟨v, B, rfl, r⟩ := each1 h
    obtain ⟨p, ws, rfl, g, rr⟩ := lits_ok rx e1
    rw [bls_ok rr e3] at g
    cases r
    refine ⟨p, _, _, rfl, rfl, g, rfl, flat_bls bs, ?_⟩
    have : (bs.map V.bl).countP (fun z => eqV z (.bl b)) = bs.count b := by
      rw [List.countP_map]
      rfl
    rw [this]
    exact q _ H noM Ext.rfl .int fresh_no
  · cases e
def q_index : T → List T → Option T := fun s ts => match ts with
  | [.bl b] => s.lits.bind fun xs => (T.bls xs).bind fun bs => if b ∈ bs then some (.int ((bs.idxOf b : Nat) : Int)) else none
  | _ => none
theorem mt_indexT : MtS (rIndex K) K q_index := fun x vs s ts Bx H Q u rx h e q => by
  unfold q_index at e
  split at e
  · rename_i b
    obtain ⟨xs, e1, e2⟩ := Option.bind_eq_some_iff.mp e
    obtain ⟨bs, e3, e2⟩ := Option.bind_eq_some_iff.mp e2
    split at e2
    · rename_i hm
      cases e2
      obtain ⟨v, B, rfl, r⟩ := each1 h
      obtain ⟨p, ws, rfl, g, rr⟩ := lits_ok rx e1
      rw [bls_ok rr e3] at g
      cases r
      have hl := List.idxOf_lt_length_iff.mpr hm
      refine ⟨p, _, _, bs.idxOf b, rfl, rfl, g, rfl, flat_bls bs, ⟨.bl b, ?_, ?_⟩, fun m z h1 h2 => ?_, q _ H noM Ext.rfl .int fresh_no⟩
      · rw [List.getElem?_map, List.getElem?_eq_getElem hl, List.getElem_idxOf hl]
        rfl
      · rw [eqV_bl]
        simp
      · rw [List.getElem?_map] at h2
        obtain ⟨c, h3, rfl⟩ := Option.map_eq_some_iff.mp h2
        rw [eqV_bl]
        have hc := List.not_of_lt_findIdx (p := fun x => x == b) (xs := bs) (i := m) h1
        obtain ⟨h4, h5⟩ := List.getElem?_eq_some_iff.mp h3
        rw [h5] at hc
        simpa using hc
    · cases e2
  · cases e
end
end Rw

namespace Hd
open PySem PySem.Spec PyProof.Rows L2
def top (i : Nat) : Stmt := PySem.Challenge.pw_roomwhole_k21_laid.main.body.getD i (.Pass ⟨0, 0, 0, 0⟩)
def dd (a : Str × Option Str) (n q : Str) (s : Stmt) (dfl : List He.Dv) (kwd : List (Str × He.Dv)) : He.DefD := ⟨a, n, q, defArgs s, defBody s, defScope s, dfl, kwd⟩
def fn : List He.DefD := [
  dd ("_wall", none) "_wall" "_wall" (top 0) [] [],
  dd ("is_whole", none) "is_whole" "is_whole" (top 16) [] [],
  dd ("is_number", none) "is_number" "is_number" (top 17) [] [],
  dd ("is_spoken", none) "is_spoken" "is_spoken" (top 18) [] [],
  dd ("is_cell", none) "is_cell" "is_cell" (top 19) [] [],
  dd ("wide_of", none) "wide_of" "wide_of" (top 20) [] [],
  dd ("lay", none) "lay" "lay" (top 24) [] [],
  dd ("_law_cell", none) "_law_cell" "_law_cell" (top 32) [] [],
  dd ("_law_pot", none) "_law_pot" "_law_pot" (top 33) [] [],
  dd ("_law_draw", none) "_law_draw" "_law_draw" (top 34) [] [],
  dd ("_law_wide", none) "_law_wide" "_law_wide" (top 35) [] [],
  dd ("_law_longest", none) "_law_longest" "_law_longest" (top 36) [] [],
  dd ("_law_shown", none) "_law_shown" "_law_shown" (top 37) [] [],
  dd ("_law_filled", none) "_law_filled" "_law_filled" (top 38) [] [],
  dd ("_law_asked", none) "_law_asked" "_law_asked" (top 39) [] [],
  dd ("_law_no_label", none) "_law_no_label" "_law_no_label" (top 40) [] [],
  dd ("_law_no_amount", none) "_law_no_amount" "_law_no_amount" (top 41) [] [],
  dd ("_law_good", none) "_law_good" "_law_good" (top 42) [] [],
  dd ("_law_right", none) "_law_right" "_law_right" (top 43) [] [],
  dd ("law", none) "law" "law" (top 44) [] [],
  dd ("NoRoom", some "__init__") "__init__" "NoRoom.__init__" (inClass (top 9) 0) [] [],
  dd ("Store", some "__init__") "__init__" "Store.__init__" (inClass (top 30) 0) [.int 64] [],
  dd ("Store", some "__eq__") "__eq__" "Store.__eq__" (inClass (top 30) 1) [] [],
  dd ("Store", some "__len__") "__len__" "Store.__len__" (inClass (top 30) 2) [] [],
  dd ("Store", some "size") "size" "Store.size" (inClass (top 30) 4) [] [],
  dd ("Store", some "rooms") "rooms" "Store.rooms" (inClass (top 30) 5) [] [],
  dd ("Store", some "wide_at") "wide_at" "Store.wide_at" (inClass (top 30) 6) [] [],
  dd ("Store", some "stretches") "stretches" "Store.stretches" (inClass (top 30) 7) [] [],
  dd ("Store", some "free") "free" "Store.free" (inClass (top 30) 8) [] [],
  dd ("Store", some "lay_room") "lay_room" "Store.lay_room" (inClass (top 30) 9) [] [],
  dd ("Store", some "clear_room") "clear_room" "Store.clear_room" (inClass (top 30) 10) [] [],
  dd ("Store", some "take") "take" "Store.take" (inClass (top 30) 11) [] [],
  dd ("Store", some "want_begin") "want_begin" "Store.want_begin" (inClass (top 30) 12) [] [],
  dd ("Store", some "give") "give" "Store.give" (inClass (top 30) 13) [] [],
  dd ("Store", some "can_move") "can_move" "Store.can_move" (inClass (top 30) 14) [] [],
  dd ("Store", some "move") "move" "Store.move" (inClass (top 30) 15) [] [],
  dd ("Store", some "is_place") "is_place" "Store.is_place" (inClass (top 30) 16) [] [],
  dd ("Store", some "put") "put" "Store.put" (inClass (top 30) 17) [] [],
  dd ("Store", some "told") "told" "Store.told" (inClass (top 30) 18) [] [],
  dd ("Store", some "copied") "copied" "Store.copied" (inClass (top 30) 19) [] []]
def fa0 : List He.Fa := [.glo "BadCell", .glo "BadFields", .glo "BadNumber", .glo "BadWide", .glo "HeapError", .glo "NoPlace", .glo "NoRoom", .glo "NoStore", .glo "RoomError", .glo "Store", .glo "StoreError", .glo "WIDES", .glo "_law_asked", .glo "_law_cell", .glo "_law_draw", .glo "_law_filled", .glo "_law_good", .glo "_law_longest", .glo "_law_no_amount", .glo "_law_no_label", .glo "_law_pot", .glo "_law_right", .glo "_law_shown", .glo "_law_wide", .glo "_wall", .glo "is_cell", .glo "is_number", .glo "is_spoken", .glo "is_whole", .glo "law", .glo "lay", .glo "wide_of", .free "ValueError", .free "abs", .free "bool", .free "dict", .free "divmod", .free "int", .free "isinstance", .free "len"]
def fa1 : List He.Fa := [.free "list", .free "max", .free "min", .free "range", .free "repr", .free "sorted", .free "str", .free "sum", .free "tuple", .int "GREATEST" 999999999999, .int "MOST_FIELDS_cells" 30, .int "HEAD" 2, .int "MOST_FIELDS_things" 30, .int "SIZE" 64, .int "ENDLESS" 20000, .int "LEAST_SIZE" 16, .int "GREATEST_SIZE" 512, .exc "RoomError", .exc "StoreError", .exc "HeapError", .exc "NoStore", .exc "NoPlace", .exc "BadCell", .exc "BadWide", .exc "BadNumber", .exc "BadFields", .cls "Store", .mkr "Store", .noat "Store" "begin_at", .noat "Store" "cell_at", .noat "Store" "many_places", .noat "Store" "wide_by_begin", .meth "Store" "__eq__", .meth "Store" "__len__", .meth "Store" "__repr__", .meth "Store" "size", .meth "Store" "rooms", .meth "Store" "wide_at", .meth "Store" "stretches", .meth "Store" "free"]
def fa2 : List He.Fa := [.meth "Store" "lay_room", .meth "Store" "clear_room", .meth "Store" "take", .meth "Store" "want_begin", .meth "Store" "give", .meth "Store" "can_move", .meth "Store" "move", .meth "Store" "is_place", .meth "Store" "put", .meth "Store" "told", .meth "Store" "copied"]
def fa : List He.Fa := fa0 ++ fa1 ++ fa2
def xa : List Rw.Ex := [.tup "WIDES" [.int 2, .int 3, .int 4, .int 6, .int 8, .int 12, .int 16, .int 24, .int 32], .exn "NoStore", .sub "NoStore" "RoomError" true, .sub "NoStore" "NoRoom" false, .sub "NoStore" "BadNumber" false, .sub "NoStore" "BadFields" false, .sub "NoStore" "HeapError" false, .sub "NoStore" "StoreError" true, .ty "NoStore" "ValueError" true, .exn "NoPlace", .sub "NoPlace" "RoomError" true, .sub "NoPlace" "NoRoom" false, .sub "NoPlace" "BadNumber" false, .sub "NoPlace" "BadFields" false, .sub "NoPlace" "HeapError" false, .sub "NoPlace" "StoreError" true, .ty "NoPlace" "ValueError" true, .exn "BadCell", .sub "BadCell" "RoomError" true, .sub "BadCell" "NoRoom" false, .sub "BadCell" "BadNumber" false, .sub "BadCell" "BadFields" false, .sub "BadCell" "HeapError" false, .sub "BadCell" "StoreError" true, .ty "BadCell" "ValueError" true, .exn "BadWide", .sub "BadWide" "RoomError" true, .sub "BadWide" "NoRoom" false, .sub "BadWide" "BadNumber" false, .sub "BadWide" "BadFields" false, .sub "BadWide" "HeapError" false, .sub "BadWide" "StoreError" true, .ty "BadWide" "ValueError" true, .exn "NoRoom", .sub "NoRoom" "RoomError" true, .sub "NoRoom" "NoRoom" true, .sub "NoRoom" "BadNumber" false, .sub "NoRoom" "BadFields" false, .sub "NoRoom" "HeapError" false, .sub "NoRoom" "StoreError" true, .ty "NoRoom" "ValueError" true, .ini "NoRoom", .no "NoRoom" "wanted", .no "NoRoom" "longest", .cve "StoreError", .exn "BadNumber", .sub "BadNumber" "RoomError" true, .sub "BadNumber" "NoRoom" false, .sub "BadNumber" "BadNumber" true, .sub "BadNumber" "BadFields" false, .sub "BadNumber" "HeapError" true, .sub "BadNumber" "StoreError" false, .ty "BadNumber" "ValueError" true, .exn "BadFields", .sub "BadFields" "RoomError" true, .sub "BadFields" "NoRoom" false, .sub "BadFields" "BadNumber" false, .sub "BadFields" "BadFields" true, .sub "BadFields" "HeapError" true, .sub "BadFields" "StoreError" false, .ty "BadFields" "ValueError" true]
def lo0 : List Str := [("_wall" : Str), ("RoomError" : Str), ("StoreError" : Str), ("HeapError" : Str), ("NoStore" : Str), ("NoPlace" : Str), ("BadCell" : Str), ("BadWide" : Str), ("NoRoom" : Str), ("BadNumber" : Str), ("BadFields" : Str), ("WIDES" : Str), ("GREATEST" : Str), ("MOST_FIELDS_cells" : Str), ("is_whole" : Str), ("is_number" : Str), ("is_spoken" : Str), ("is_cell" : Str), ("wide_of" : Str), ("HEAD" : Str), ("MOST_FIELDS_things" : Str), ("lay" : Str), ("SIZE" : Str), ("ENDLESS" : Str), ("LEAST_SIZE" : Str), ("GREATEST_SIZE" : Str), ("Store" : Str), ("_law_cell" : Str), ("_law_pot" : Str), ("_law_draw" : Str), ("_law_wide" : Str), ("_law_longest" : Str), ("_law_shown" : Str), ("_law_filled" : Str), ("_law_asked" : Str), ("_law_no_label" : Str), ("_law_no_amount" : Str), ("_law_good" : Str), ("_law_right" : Str)]
def lo : List Str := lo0
abbrev R : PySem.W.OpenRow := PySem.W.OpenLaw.row PySem.Challenge.rw_roomwhole_k21_laid
abbrev hk : PySem.W.Hook := Rw.hookX 4 fa xa fn
def ob (s : PySem.W.SharedT) : He.AlD := Rw.obsXG 4 fa xa fn (HandSHeadRun.getT s)
theorem ob_eq (s : PySem.W.SharedT) : ob s = hk.obs s.abs := Rw.obsXG_eq (HandSHeadRun.getT_eq s)
theorem run (w : World) : HandSHeadRun.RunEq R (PySem.W.view R.prog [44]) hk ob 20000 lo w := by
  intro os
  kernel_rfl


open Rw
def sh : List Shp := [⟨("is_whole", none), 1, [], [.pos 0]⟩,
  ⟨("is_number", none), 1, [], [.pos 0]⟩,
  ⟨("is_spoken", none), 3, [], [.pos 0, .pos 1, .pos 2]⟩,
  ⟨("Store", some "put"), 3, [], [.pos 0, .pos 1, .pos 2]⟩,
  ⟨("Store", some "take"), 2, [], [.pos 0, .pos 1]⟩,
  ⟨("Store", some "stretches"), 1, [], [.pos 0]⟩,
  ⟨("Store", some "size"), 1, [], [.pos 0]⟩,
  ⟨("Store", some "rooms"), 1, [], [.pos 0]⟩,
  ⟨("Store", some "told"), 2, [], [.pos 0, .pos 1]⟩,
  ⟨("_law_draw", none), 2, [], [.pos 0, .pos 1]⟩,
  ⟨("Store", some "give"), 2, [], [.pos 0, .pos 1]⟩,
  ⟨("_law_longest", none), 1, [], [.pos 0]⟩,
  ⟨("_law_wide", none), 1, [], [.pos 0]⟩,
  ⟨("Store", some "__init__"), 2, [], [.pos 0, .pos 1]⟩,
  ⟨("lay", none), 3, [], [.pos 0, .pos 1, .pos 2]⟩,
  ⟨("lay", none), 0, ["fields", "store", "number"], [.kw 1, .kw 2, .kw 0]⟩,
  ⟨("_law_shown", none), 1, [], [.pos 0]⟩,
  ⟨("_law_asked", none), 4, [], [.pos 0, .pos 1, .pos 2, .pos 3]⟩,
  ⟨("_law_good", none), 3, [], [.pos 0, .pos 1, .pos 2]⟩,
  ⟨("Store", some "copied"), 1, [], [.pos 0]⟩,
  ⟨("_law_right", none), 5, [], [.pos 0, .pos 1, .pos 2, .pos 3, .pos 4]⟩,
  ⟨("_law_no_amount", none), 1, [], [.pos 0]⟩,
  ⟨("_law_no_label", none), 1, [], [.pos 0]⟩,
  ⟨("_law_filled", none), 1, [], [.pos 0]⟩,
  ⟨("_law_cell", none), 2, [], [.pos 0, .pos 1]⟩,
  ⟨("_law_pot", none), 1, [], [.pos 0]⟩,
  ⟨("Store", some "lay_room"), 3, [], [.pos 0, .pos 1, .pos 2]⟩,
  ⟨("NoRoom", some "__init__"), 3, [], [.pos 0, .pos 1, .pos 2]⟩,
  ⟨("wide_of", none), 1, [], [.pos 0]⟩,
  ⟨("Store", some "wide_at"), 2, [], [.pos 0, .pos 1]⟩,
  ⟨("Store", some "clear_room"), 2, [], [.pos 0, .pos 1]⟩,
  ⟨("Store", some "want_begin"), 2, [], [.pos 0, .pos 1]⟩,
  ⟨("_wall", none), 1, [], [.pos 0]⟩,
  ⟨("is_cell", none), 1, [], [.pos 0]⟩,
  ⟨("Store", some "is_place"), 2, [], [.pos 0, .pos 1]⟩]
def N__wall : List Str := [("k" : Str)]
def d__wall : He.DefD := dd ("_wall", none) "_wall" "_wall" (top 0) [] []
def D__wall (K : PySem.W.Frag) (Ph : Ky → Sp) (W : WX) : {t : TS // GB (cn0 fa xa sh K Ph N__wall (d__wall).scope W) (d__wall).body t} := ⟨_,
   (gb_cons (gs_while (gt_val gb)
    (gb_cons gs_pass
   gb_nil))
   gb_nil)⟩
def e__wall : Ent := ⟨d__wall, [("k" : Str)], N__wall, fun K Ph W => (D__wall K Ph W).1⟩
def N_is_whole : List Str := [("thing" : Str)]
def d_is_whole : He.DefD := dd ("is_whole", none) "is_whole" "is_whole" (top 16) [] []
def D_is_whole (K : PySem.W.Frag) (Ph : Ky → Sp) (W : WX) : {t : TS // GB (cn0 fa xa sh K Ph N_is_whole (d_is_whole).scope W) (d_is_whole).body t} := ⟨_,
   (gb_cons (gs_ret (g_and (g_fn f_isi (ga_cons (gv 0) (ga_cons (gty "int") ga_nil))) (g_one (g_not (g_fn f_isi (ga_cons (gv 0) (ga_cons (gty "bool") ga_nil)))))))
   gb_nil)⟩
def e_is_whole : Ent := ⟨d_is_whole, [("thing" : Str)], N_is_whole, fun K Ph W => (D_is_whole K Ph W).1⟩
def N_is_number : List Str := [("thing" : Str)]
def d_is_number : He.DefD := dd ("is_number", none) "is_number" "is_number" (top 17) [] []
def D_is_number (K : PySem.W.Frag) (Ph : Ky → Sp) (W : WX) : {t : TS // GB (cn0 fa xa sh K Ph N_is_number (d_is_number).scope W) (d_is_number).body t} := ⟨_,
   (gb_cons (gs_ret (g_and (g_call (ga_cons (gv 0) ga_nil) gk_nil) (g_one (g_chain .le .le gi (gv 0) (gint (i := 999999999999))))))
   gb_nil)⟩
def e_is_number : Ent := ⟨d_is_number, [("thing" : Str)], N_is_number, fun K Ph W => (D_is_number K Ph W).1⟩
def N_is_spoken : List Str := [("thing" : Str), ("word" : Str), ("many" : Str)]
def d_is_spoken : He.DefD := dd ("is_spoken", none) "is_spoken" "is_spoken" (top 18) [] []
def D_is_spoken (K : PySem.W.Frag) (Ph : Ky → Sp) (W : WX) : {t : TS // GB (cn0 fa xa sh K Ph N_is_spoken (d_is_spoken).scope W) (d_is_spoken).body t} := ⟨_,
   (gb_cons (gs_ret (g_and (g_fn f_isi (ga_cons (gv 0) (ga_cons (gty "tuple") ga_nil))) (g_and (g_eqW (g_fn f_len (ga_cons (gv 0) ga_nil)) (gv 2)) (g_and (g_fn f_isi (ga_cons (g_ix (gv 0) gi) (ga_cons (gty "str") ga_nil))) (g_one (g_eqW (g_ix (gv 0) gi) (gv 1)))))))
   gb_nil)⟩
def e_is_spoken : Ent := ⟨d_is_spoken, [("thing" : Str), ("word" : Str), ("many" : Str)], N_is_spoken, fun K Ph W => (D_is_spoken K Ph W).1⟩
def N_is_cell : List Str := [("thing" : Str)]
def d_is_cell : He.DefD := dd ("is_cell", none) "is_cell" "is_cell" (top 19) [] []
def D_is_cell (K : PySem.W.Frag) (Ph : Ky → Sp) (W : WX) : {t : TS // GB (cn0 fa xa sh K Ph N_is_cell (d_is_cell).scope W) (d_is_cell).body t} := ⟨_,
   (gb_cons (gs_if (gt_bool (gw_or (gt_cmp .isn (gv 0) gn) (gw_or1 (gt_val (g_call (ga_cons (gv 0) ga_nil) gk_nil)))))
    (gb_cons (gs_ret gb)
   gb_nil)
    gb_nil)
   (gb_cons (gs_if (gt_val (g_call (ga_cons (gv 0) (ga_cons gs (ga_cons gi ga_nil))) gk_nil))
    (gb_cons (gs_ret (g_call (ga_cons (g_ix (gv 0) gi) ga_nil) gk_nil))
   gb_nil)
    gb_nil)
   (gb_cons (gs_if (gt_bool (gw_or (gt_not (gt_val (g_call (ga_cons (gv 0) (ga_cons gs (ga_cons gi ga_nil))) gk_nil))) (gw_or (gt_not (gt_val (g_call (ga_cons (g_ix (gv 0) gi) ga_nil) gk_nil))) (gw_or1 (gt_eqW (g_ix (gv 0) gi) gi)))))
    (gb_cons (gs_ret gb)
   gb_nil)
    gb_nil)
   (gb_cons (gs_ret (g_and (g_call (ga_cons (g_ix (gv 0) gi) ga_nil) gk_nil) (g_one (g_chain .le .le gi (g_ix (gv 0) gi) (gint (i := 30))))))
   gb_nil))))⟩
def e_is_cell : Ent := ⟨d_is_cell, [("thing" : Str)], N_is_cell, fun K Ph W => (D_is_cell K Ph W).1⟩
def N_wide_of : List Str := [("many" : Str), ("wide" : Str)]
def d_wide_of : He.DefD := dd ("wide_of", none) "wide_of" "wide_of" (top 20) [] []
def D_wide_of (K : PySem.W.Frag) (Ph : Ky → Sp) (W : WX) : {t : TS // GB (cn0 fa xa sh K Ph N_wide_of (d_wide_of).scope W) (d_wide_of).body t} := ⟨_,
   (gb_cons (gs_if (gt_bool (gw_or (gt_not (gt_val (g_call (ga_cons (gv 0) ga_nil) gk_nil))) (gw_or1 (gt_not (gt_chain .le .le gi (gv 0) (g_ix gglo (g_neg gi)))))))
    (gb_cons (gs_raise mk_pl)
   gb_nil)
    gb_nil)
   (gb_cons (gs_ret (g_ix (g_lc [("wide", 1)] [1] (gi_any gglo) (gg_name 1) (gts_one (gt_cmp .ge (gv 1) (gv 0))) (gv 1)) gi))
   gb_nil))⟩
def e_wide_of : Ent := ⟨d_wide_of, [("many" : Str)], N_wide_of, fun K Ph W => (D_wide_of K Ph W).1⟩
def N_lay : List Str := [("store" : Str), ("number" : Str), ("fields" : Str), ("place" : Str)]
def d_lay : He.DefD := dd ("lay", none) "lay" "lay" (top 24) [] []
def D_lay (K : PySem.W.Frag) (Ph : Ky → Sp) (W : WX) : {t : TS // GB (cn0 fa xa sh K Ph N_lay (d_lay).scope W) (d_lay).body t} := ⟨_,
   (gb_cons (gs_if (gt_bool (gw_or (gt_not (gt_val (g_call (ga_cons (gv 1) ga_nil) gk_nil))) (gw_or1 (gt_eqW (gv 1) gi))))
    (gb_cons (gs_raise mk_pl)
   gb_nil)
    gb_nil)
   (gb_cons (gs_if (gt_bool (gw_or (gt_not (gt_val (g_call (ga_cons (gv 2) ga_nil) gk_nil))) (gw_or1 (gt_cmp .gt (gv 2) (gint (i := 30))))))
    (gb_cons (gs_raise mk_pl)
   gb_nil)
    gb_nil)
   (gb_cons (gs_asg (g_meth (gv 0) (ga_cons (g_addW (gint (i := 2)) (gv 2)) ga_nil) gk_nil) (gg_name 3))
   (gb_cons (gs_expr (g_meth (gv 0) (ga_cons (gv 3) (ga_cons (g_tup (ga_cons gs (ga_cons (gv 1) (ga_cons (gv 2) ga_nil)))) ga_nil)) gk_nil))
   (gb_cons (gs_expr (g_meth (gv 0) (ga_cons (g_addW (gv 3) gi) (ga_cons gi ga_nil)) gk_nil))
   (gb_cons (gs_ret (gv 3))
   gb_nil))))))⟩
def e_lay : Ent := ⟨d_lay, [("store" : Str), ("number" : Str), ("fields" : Str)], N_lay, fun K Ph W => (D_lay K Ph W).1⟩
def N__law_cell : List Str := [("script" : Str), ("k" : Str)]
def d__law_cell : He.DefD := dd ("_law_cell", none) "_law_cell" "_law_cell" (top 32) [] []
def D__law_cell (K : PySem.W.Frag) (Ph : Ky → Sp) (W : WX) : {t : TS // GB (cn0 fa xa sh K Ph N__law_cell (d__law_cell).scope W) (d__law_cell).body t} := ⟨_,
   (gb_cons (gs_if (gt_cmp .lt (gv 1) (g_fn f_len (ga_cons (gv 0) ga_nil)))
    (gb_cons (gs_ret (g_ix (gv 0) (gv 1)))
   gb_nil)
    gb_nil)
   (gb_cons (gs_ret gi)
   gb_nil))⟩
def e__law_cell : Ent := ⟨d__law_cell, [("script" : Str), ("k" : Str)], N__law_cell, fun K Ph W => (D__law_cell K Ph W).1⟩
def N__law_pot : List Str := [("own" : Str)]
def d__law_pot : He.DefD := dd ("_law_pot", none) "_law_pot" "_law_pot" (top 33) [] []
def D__law_pot (K : PySem.W.Frag) (Ph : Ky → Sp) (W : WX) : {t : TS // GB (cn0 fa xa sh K Ph N__law_pot (d__law_pot).scope W) (d__law_pot).body t} := ⟨_,
   (gb_cons (gs_ret (g_lst (ga_cons (g_fn f_max2 (ga_cons gi (ga_cons (g_sub (g_fn f_abs (ga_cons (gv 0) ga_nil)) (g_pow gi gi)) ga_nil))) (ga_cons (g_addW (g_mod (g_fn f_abs (ga_cons (gv 0) ga_nil)) gi) gi) ga_nil))))
   gb_nil)⟩
def e__law_pot : Ent := ⟨d__law_pot, [("own" : Str)], N__law_pot, fun K Ph W => (D__law_pot K Ph W).1⟩
def N__law_draw : List Str := [("pot" : Str), ("many" : Str), ("digit" : Str)]
def d__law_draw : He.DefD := dd ("_law_draw", none) "_law_draw" "_law_draw" (top 34) [] []
def D__law_draw (K : PySem.W.Frag) (Ph : Ky → Sp) (W : WX) : {t : TS // GB (cn0 fa xa sh K Ph N__law_draw (d__law_draw).scope W) (d__law_draw).body t} := ⟨_,
   (gb_cons (gs_if (gt_cmp .gt (g_ix (gv 0) gi) gi)
    (gb_cons (gs_asg (g_fn f_divmod (ga_cons (g_ix (gv 0) gi) (ga_cons (gv 1) ga_nil))) (gg_tup 2 (ggs_cons (gg_sub (gv 0) gi) (ggs_cons (gg_name 2) ggs_nil))))
   (gb_cons (gs_ret (gv 2))
   gb_nil))
    gb_nil)
   (gb_cons (gs_asg (g_mod (g_addW (g_mul (g_ix (gv 0) gi) gi) gi) gi) (gg_sub (gv 0) gi))
   (gb_cons (gs_ret (g_mod (g_div (g_mod (g_mul (g_ix (gv 0) gi) (g_ix (gv 0) gi)) gi) gi) (gv 1)))
   gb_nil)))⟩
def e__law_draw : Ent := ⟨d__law_draw, [("pot" : Str), ("many" : Str)], N__law_draw, fun K Ph W => (D__law_draw K Ph W).1⟩
def N__law_wide : List Str := [("wanted" : Str), ("one" : Str)]
def d__law_wide : He.DefD := dd ("_law_wide", none) "_law_wide" "_law_wide" (top 35) [] []
def D__law_wide (K : PySem.W.Frag) (Ph : Ky → Sp) (W : WX) : {t : TS // GB (cn0 fa xa sh K Ph N__law_wide (d__law_wide).scope W) (d__law_wide).body t} := ⟨_,
   (gb_cons (gs_ret (g_ix (g_lc [("one", 1)] [1] (gi_any (g_lst (ga_cons gi (ga_cons gi (ga_cons gi (ga_cons gi (ga_cons gi (ga_cons gi (ga_cons gi (ga_cons gi (ga_cons gi ga_nil))))))))))) (gg_name 1) (gts_one (gt_cmp .ge (gv 1) (gv 0))) (gv 1)) gi))
   gb_nil)⟩
def e__law_wide : Ent := ⟨d__law_wide, [("wanted" : Str)], N__law_wide, fun K Ph W => (D__law_wide K Ph W).1⟩
def N__law_longest : List Str := [("shop" : Str), ("first" : Str), ("many" : Str)]
def d__law_longest : He.DefD := dd ("_law_longest", none) "_law_longest" "_law_longest" (top 36) [] []
def D__law_longest (K : PySem.W.Frag) (Ph : Ky → Sp) (W : WX) : {t : TS // GB (cn0 fa xa sh K Ph N__law_longest (d__law_longest).scope W) (d__law_longest).body t} := ⟨_,
   (gb_cons (gs_ret (g_fn f_max1 (ga_cons (g_addW (g_lst (ga_cons gi ga_nil)) (g_lc [("first", 1), ("many", 2)] [1, 2] (gi_any (g_meth0 (gv 0) gk_nil)) (gg_tup 2 (ggs_cons (gg_name 1) (ggs_cons (gg_name 2) ggs_nil))) gts_nil (gv 2))) ga_nil)))
   gb_nil)⟩
def e__law_longest : Ent := ⟨d__law_longest, [("shop" : Str)], N__law_longest, fun K Ph W => (D__law_longest K Ph W).1⟩
def N__law_shown : List Str := [("shop" : Str), ("spot" : Str)]
def d__law_shown : He.DefD := dd ("_law_shown", none) "_law_shown" "_law_shown" (top 37) [] []
def D__law_shown (K : PySem.W.Frag) (Ph : Ky → Sp) (W : WX) : {t : TS // GB (cn0 fa xa sh K Ph N__law_shown (d__law_shown).scope W) (d__law_shown).body t} := ⟨_,
   (gb_cons (gs_ret (g_fn f_repr (ga_cons (g_lst (ga_cons (g_meth0 (gv 0) gk_nil) (ga_cons (g_meth0 (gv 0) gk_nil) (ga_cons (g_lc [("spot", 1)] [1] (gi_rng1 (g_meth0 (gv 0) gk_nil)) (gg_name 1) gts_nil (g_meth (gv 0) (ga_cons (gv 1) ga_nil) gk_nil)) ga_nil)))) ga_nil)))
   gb_nil)⟩
def e__law_shown : Ent := ⟨d__law_shown, [("shop" : Str)], N__law_shown, fun K Ph W => (D__law_shown K Ph W).1⟩
def N__law_filled : List Str := [("pot" : Str), ("shop" : Str), ("turn" : Str), ("rooms" : Str), ("wanted" : Str)]
def d__law_filled : He.DefD := dd ("_law_filled", none) "_law_filled" "_law_filled" (top 38) [] []
def D__law_filled (K : PySem.W.Frag) (Ph : Ky → Sp) (W : WX) : {t : TS // GB (cn0 fa xa sh K Ph N__law_filled (d__law_filled).scope W) (d__law_filled).body t} := ⟨_,
   (gb_cons (gs_asg (g_make (ga_cons (g_ix (g_lst (ga_cons gi (ga_cons gi (ga_cons gi (ga_cons gi (ga_cons gi (ga_cons gi (ga_cons gi ga_nil)))))))) (g_call (ga_cons (gv 0) (ga_cons gi ga_nil)) gk_nil)) ga_nil) gk_nil) (gg_name 1))
   (gb_cons (gs_for (gi_rng1 (g_call (ga_cons (gv 0) (ga_cons gi ga_nil)) gk_nil)) (gg_name 2)
    (gb_cons (gs_asg (g_meth0 (gv 1) gk_nil) (gg_name 3))
   (gb_cons (gs_asg (g_addW gi (g_call (ga_cons (gv 0) (ga_cons gi ga_nil)) gk_nil)) (gg_name 4))
   (gb_cons (gs_if (gt_bool (gw_and (gt_eqW (g_call (ga_cons (gv 0) (ga_cons gi ga_nil)) gk_nil) gi) (gw_and1 (gt_neW (gv 3) (g_lst ga_nil)))))
    (gb_cons (gs_expr (g_meth (gv 1) (ga_cons (g_ix (g_ix (gv 3) (g_call (ga_cons (gv 0) (ga_cons (g_fn f_len (ga_cons (gv 3) ga_nil)) ga_nil)) gk_nil)) gi) ga_nil) gk_nil))
   gb_nil)
    (gb_cons (gs_if (gt_cmp .ge (g_call (ga_cons (gv 1) ga_nil) gk_nil) (g_call (ga_cons (gv 4) ga_nil) gk_nil))
    (gb_cons (gs_expr (g_meth (gv 1) (ga_cons (gv 4) ga_nil) gk_nil))
   gb_nil)
    gb_nil)
   gb_nil))
   gb_nil))))
   (gb_cons (gs_ret (gv 1))
   gb_nil)))⟩
def e__law_filled : Ent := ⟨d__law_filled, [("pot" : Str)], N__law_filled, fun K Ph W => (D__law_filled K Ph W).1⟩
def N__law_asked : List Str := [("pot" : Str), ("shop" : Str), ("label" : Str), ("amount" : Str), ("found" : Str), ("e" : Str), ("kinds" : Str)]
def d__law_asked : He.DefD := dd ("_law_asked", none) "_law_asked" "_law_asked" (top 39) [] []
def D__law_asked (K : PySem.W.Frag) (Ph : Ky → Sp) (W : WX) : {t : TS // GB (cn0 fa xa sh K Ph N__law_asked (d__law_asked).scope W) (d__law_asked).body t} := ⟨_,
   (gb_cons (gs_asg (g_lst (ga_cons gs ga_nil)) (gg_name 4))
   (gb_cons (gs_try (fun W => (gb_cons (gs_if (gt_eqW (g_call (ga_cons (gv 0) (ga_cons gi ga_nil)) gk_nil) gi)
    (gb_cons (gs_expr (g_bmU m_append (gv 4) (ga_cons (g_call (ga_cons (gv 1) (ga_cons (gv 2) (ga_cons (gv 3) ga_nil))) gk_nil) ga_nil)))
   gb_nil)
    (gb_cons (gs_expr (g_bmU m_append (gv 4) (ga_cons (g_call0 (gk_cons (gv 3) (gk_cons (gv 1) (gk_cons (gv 2) gk_nil)))) ga_nil)))
   gb_nil))
   gb_nil))
    (HdsW.cons (n := some "e") (i := some 5) ⟨rfl, rfl⟩ rfl rfl (by decide) (fun a cls d => (gb_cons (gs_asg (g_lst (ga_cons (g_fn f_isX (ga_cons (gv 5) (ga_cons gglo ga_nil))) (ga_cons (g_fn f_isX (ga_cons (gv 5) (ga_cons gglo ga_nil))) (ga_cons (g_fn f_isX (ga_cons (gv 5) (ga_cons gglo ga_nil))) ga_nil)))) (gg_name 6))
   (gb_cons (gs_asg (g_lst (ga_cons gs ga_nil)) (gg_name 4))
   (gb_cons (gs_if (gt_bool (gw_and (gt_eqW (g_bmU m_count (gv 6) (ga_cons gb ga_nil)) gi) (gw_and (gt_val (g_fn f_isX (ga_cons (gv 5) (ga_cons (g_tup (ga_cons gglo (ga_cons gglo ga_nil))) ga_nil)))) (gw_and1 (gt_val (g_fn f_isX (ga_cons (gv 5) (ga_cons (gty "ValueError") ga_nil))))))))
    (gb_cons (gs_asg (g_lst (ga_cons (g_ix (g_lst (ga_cons gs (ga_cons gs (ga_cons gs ga_nil)))) (g_bmU m_index (gv 6) (ga_cons gb ga_nil))) ga_nil)) (gg_name 4))
   gb_nil)
    gb_nil)
   (gb_cons (gs_if (gt_eqW (gv 4) (g_lst (ga_cons gs ga_nil)))
    (gb_cons (gs_asg (g_addW (gv 4) (g_lst (ga_cons (g_xf (gv 5)) (ga_cons (g_xf (gv 5)) ga_nil)))) (gg_name 4))
   gb_nil)
    gb_nil)
   gb_nil))))) .nil))
   (gb_cons (gs_ret (gv 4))
   gb_nil)))⟩
def e__law_asked : Ent := ⟨d__law_asked, [("pot" : Str), ("shop" : Str), ("label" : Str), ("amount" : Str)], N__law_asked, fun K Ph W => (D__law_asked K Ph W).1⟩
def N__law_no_label : List Str := [("pot" : Str)]
def d__law_no_label : He.DefD := dd ("_law_no_label", none) "_law_no_label" "_law_no_label" (top 40) [] []
def D__law_no_label (K : PySem.W.Frag) (Ph : Ky → Sp) (W : WX) : {t : TS // GB (cn0 fa xa sh K Ph N__law_no_label (d__law_no_label).scope W) (d__law_no_label).body t} := ⟨_,
   (gb_cons (gs_ret (g_ix (g_lst (ga_cons gi (ga_cons (g_neg gi) (ga_cons (g_pow gi gi) (ga_cons gb (ga_cons gb (ga_cons gn (ga_cons gs (ga_cons (g_frz (g_lst (ga_cons gi ga_nil))) (ga_cons (g_tup (ga_cons gi ga_nil)) (ga_cons (g_frz g_dict0) (ga_cons (g_neg (g_pow gi gi)) (ga_cons (g_pow gi gi) ga_nil))))))))))))) (g_call (ga_cons (gv 0) (ga_cons gi ga_nil)) gk_nil)))
   gb_nil)⟩
def e__law_no_label : Ent := ⟨d__law_no_label, [("pot" : Str)], N__law_no_label, fun K Ph W => (D__law_no_label K Ph W).1⟩
def N__law_no_amount : List Str := [("pot" : Str)]
def d__law_no_amount : He.DefD := dd ("_law_no_amount", none) "_law_no_amount" "_law_no_amount" (top 41) [] []
def D__law_no_amount (K : PySem.W.Frag) (Ph : Ky → Sp) (W : WX) : {t : TS // GB (cn0 fa xa sh K Ph N__law_no_amount (d__law_no_amount).scope W) (d__law_no_amount).body t} := ⟨_,
   (gb_cons (gs_ret (g_ix (g_lst (ga_cons (g_neg gi) (ga_cons gi (ga_cons gi (ga_cons gb (ga_cons gb (ga_cons gn (ga_cons gs (ga_cons (g_frz (g_lst (ga_cons gi ga_nil))) (ga_cons (g_tup (ga_cons gi ga_nil)) (ga_cons (g_frz g_dict0) (ga_cons (g_pow gi gi) ga_nil)))))))))))) (g_call (ga_cons (gv 0) (ga_cons gi ga_nil)) gk_nil)))
   gb_nil)⟩
def e__law_no_amount : Ent := ⟨d__law_no_amount, [("pot" : Str)], N__law_no_amount, fun K Ph W => (D__law_no_amount K Ph W).1⟩
def N__law_good : List Str := [("shop" : Str), ("label" : Str), ("amount" : Str), ("wide" : Str), ("found" : Str), ("e" : Str), ("begin" : Str)]
def d__law_good : He.DefD := dd ("_law_good", none) "_law_good" "_law_good" (top 42) [] []
def D__law_good (K : PySem.W.Frag) (Ph : Ky → Sp) (W : WX) : {t : TS // GB (cn0 fa xa sh K Ph N__law_good (d__law_good).scope W) (d__law_good).body t} := ⟨_,
   (gb_cons (gs_asg (g_call (ga_cons (g_addW (gv 2) gi) ga_nil) gk_nil) (gg_name 3))
   (gb_cons (gs_if (gt_cmp .lt (g_call (ga_cons (gv 0) ga_nil) gk_nil) (gv 3))
    (gb_cons (gs_asg (g_lst (ga_cons gs ga_nil)) (gg_name 4))
   (gb_cons (gs_try (fun W => (gb_cons (gs_expr (g_meth (gv 0) (ga_cons (g_addW (gv 2) gi) ga_nil) gk_nil))
   gb_nil))
    (HdsW.cons (n := some "e") (i := some 5) ⟨rfl, rfl⟩ rfl rfl (by decide) (fun a cls d => (gb_cons (gs_asg (g_lst (ga_cons gs (ga_cons (g_xf (gv 5)) (ga_cons (g_xf (gv 5)) ga_nil)))) (gg_name 4))
   gb_nil)) .nil))
   (gb_cons (gs_ret (gv 4))
   gb_nil)))
    gb_nil)
   (gb_cons (gs_asg (g_meth (gv 0) (ga_cons (g_addW (gv 2) gi) ga_nil) gk_nil) (gg_name 6))
   (gb_cons (gs_expr (g_meth (gv 0) (ga_cons (gv 6) (ga_cons (g_tup (ga_cons gs (ga_cons (gv 1) (ga_cons (gv 2) ga_nil)))) ga_nil)) gk_nil))
   (gb_cons (gs_expr (g_meth (gv 0) (ga_cons (g_addW (gv 6) gi) (ga_cons gi ga_nil)) gk_nil))
   (gb_cons (gs_ret (g_lst (ga_cons gs (ga_cons (gv 6) ga_nil))))
   gb_nil))))))⟩
def e__law_good : Ent := ⟨d__law_good, [("shop" : Str), ("label" : Str), ("amount" : Str)], N__law_good, fun K Ph W => (D__law_good K Ph W).1⟩
def N__law_right : List Str := [("pot" : Str), ("shop" : Str), ("label" : Str), ("amount" : Str), ("bad" : Str), ("twin" : Str), ("before" : Str), ("due" : Str), ("wide" : Str), ("cells" : Str), ("k" : Str)]
def d__law_right : He.DefD := dd ("_law_right", none) "_law_right" "_law_right" (top 43) [] []
def D__law_right (K : PySem.W.Frag) (Ph : Ky → Sp) (W : WX) : {t : TS // GB (cn0 fa xa sh K Ph N__law_right (d__law_right).scope W) (d__law_right).body t} := ⟨_,
   (gb_cons (gs_asg (g_meth0 (gv 1) gk_nil) (gg_name 5))
   (gb_cons (gs_asg (g_call (ga_cons (gv 1) ga_nil) gk_nil) (gg_name 6))
   (gb_cons (gs_asg (g_if (gt_cmp .inn gb (gv 4)) (g_lst (ga_cons (g_ix (g_lst (ga_cons gs (ga_cons gs ga_nil))) (g_bmU m_index (gv 4) (ga_cons gb ga_nil))) ga_nil)) (g_call (ga_cons (gv 5) (ga_cons (gv 2) (ga_cons (gv 3) ga_nil))) gk_nil)) (gg_name 7))
   (gb_cons (gs_if (gt_neW (g_fn f_repr (ga_cons (g_call (ga_cons (gv 0) (ga_cons (gv 1) (ga_cons (gv 2) (ga_cons (gv 3) ga_nil)))) gk_nil) ga_nil)) (g_fn f_repr (ga_cons (gv 7) ga_nil)))
    (gb_cons (gs_ret gb)
   gb_nil)
    gb_nil)
   (gb_cons (gs_if (gt_neW (g_ix (gv 7) gi) gs)
    (gb_cons (gs_ret (g_eqW (g_call (ga_cons (gv 1) ga_nil) gk_nil) (gv 6)))
   gb_nil)
    gb_nil)
   (gb_cons (gs_asg (g_call (ga_cons (g_addW (gv 3) gi) ga_nil) gk_nil) (gg_name 8))
   (gb_cons (gs_lc 9 [("k", 10)] [10] (gi_rng1 (gv 8)) (gg_name 10) gts_nil (g_meth (gv 1) (ga_cons (g_addW (g_ix (gv 7) gi) (gv 10)) ga_nil) gk_nil))
   (gb_cons (gs_if (gt_bool (gw_or (gt_neW (g_fn f_repr (ga_cons (gv 9) ga_nil)) (g_fn f_repr (ga_cons (g_addW (g_lst (ga_cons (g_tup (ga_cons gs (ga_cons (gv 2) (ga_cons (gv 3) ga_nil)))) (ga_cons gi ga_nil))) (g_mul (g_lst (ga_cons gn ga_nil)) (g_sub (gv 8) gi))) ga_nil))) (gw_or1 (gt_cmp .nin (g_tup (ga_cons (g_ix (gv 7) gi) (ga_cons (gv 8) ga_nil))) (g_meth0 (gv 1) gk_nil)))))
    (gb_cons (gs_ret gb)
   gb_nil)
    gb_nil)
   (gb_cons (gs_ret (g_eqW (g_call (ga_cons (gv 1) ga_nil) gk_nil) (g_call (ga_cons (gv 5) ga_nil) gk_nil)))
   gb_nil)))))))))⟩
def e__law_right : Ent := ⟨d__law_right, [("pot" : Str), ("shop" : Str), ("label" : Str), ("amount" : Str), ("bad" : Str)], N__law_right, fun K Ph W => (D__law_right K Ph W).1⟩
def N_law : List Str := [("script" : Str), ("k" : Str), ("pot" : Str), ("shop" : Str), ("turn" : Str), ("label" : Str), ("amount" : Str), ("bad" : Str)]
def d_law : He.DefD := dd ("law", none) "law" "law" (top 44) [] []
def D_law (K : PySem.W.Frag) (Ph : Ky → Sp) (W : WX) : {t : TS // GB (cn0 fa xa sh K Ph N_law (d_law).scope W) (d_law).body t} := ⟨_,
   (gb_cons (gs_for (gi_rng1 (g_fn f_max2 (ga_cons gi (ga_cons (g_fn f_min2 (ga_cons gi (ga_cons (g_fn f_len (ga_cons (gv 0) ga_nil)) ga_nil))) ga_nil)))) (gg_name 1)
    (gb_cons (gs_asg (g_call (ga_cons (g_call (ga_cons (gv 0) (ga_cons (gv 1) ga_nil)) gk_nil) ga_nil) gk_nil) (gg_name 2))
   (gb_cons (gs_asg (g_call (ga_cons (gv 2) ga_nil) gk_nil) (gg_name 3))
   (gb_cons (gs_for (gi_rng1 (g_addW gi (g_call (ga_cons (gv 2) (ga_cons gi ga_nil)) gk_nil))) (gg_name 4)
    (gb_cons (gs_asg (g_ix (g_lst (ga_cons gi (ga_cons (g_addW gi (g_call (ga_cons (gv 2) (ga_cons gi ga_nil)) gk_nil)) (ga_cons gi ga_nil)))) (g_call (ga_cons (gv 2) (ga_cons gi ga_nil)) gk_nil)) (gg_name 5))
   (gb_cons (gs_asg (g_ix (g_lst (ga_cons gi (ga_cons gi (ga_cons gi (ga_cons gi (ga_cons (g_call (ga_cons (gv 2) (ga_cons gi ga_nil)) gk_nil) (ga_cons (g_call (ga_cons (gv 2) (ga_cons gi ga_nil)) gk_nil) ga_nil))))))) (g_call (ga_cons (gv 2) (ga_cons gi ga_nil)) gk_nil)) (gg_name 6))
   (gb_cons (gs_asg (g_lst (ga_cons (g_eqW (g_call (ga_cons (gv 2) (ga_cons gi ga_nil)) gk_nil) gi) (ga_cons (g_eqW (g_call (ga_cons (gv 2) (ga_cons gi ga_nil)) gk_nil) gi) ga_nil))) (gg_name 7))
   (gb_cons (gs_if (gt_val (g_ix (gv 7) gi))
    (gb_cons (gs_asg (g_call (ga_cons (gv 2) ga_nil) gk_nil) (gg_name 5))
   gb_nil)
    gb_nil)
   (gb_cons (gs_if (gt_val (g_ix (gv 7) gi))
    (gb_cons (gs_asg (g_call (ga_cons (gv 2) ga_nil) gk_nil) (gg_name 6))
   gb_nil)
    gb_nil)
   (gb_cons (gs_if (gt_not (gt_val (g_call (ga_cons (gv 2) (ga_cons (gv 3) (ga_cons (gv 5) (ga_cons (gv 6) (ga_cons (gv 7) ga_nil))))) gk_nil)))
    (gb_cons (gs_ret gb)
   gb_nil)
    gb_nil)
   gb_nil)))))))
   gb_nil))))
   (gb_cons (gs_ret gb)
   gb_nil))⟩
def e_law : Ent := ⟨d_law, [("script" : Str)], N_law, fun K Ph W => (D_law K Ph W).1⟩
def N_StoreU_initU : List Str := [("self" : Str), ("size" : Str)]
def d_StoreU_initU : He.DefD := dd ("Store", some "__init__") "__init__" "Store.__init__" (inClass (top 30) 0) [.int 64] []
def D_StoreU_initU (K : PySem.W.Frag) (Ph : Ky → Sp) (W : WX) : {t : TS // GB (cn0 fa xa sh K Ph N_StoreU_initU (d_StoreU_initU).scope W) (d_StoreU_initU).body t} := ⟨_,
   (gb_cons (gs_if (gt_bool (gw_or (gt_not (gt_val (g_call (ga_cons (gv 1) ga_nil) gk_nil))) (gw_or1 (gt_bool (gw_and (gt_not (gt_chain .le .le (gint (i := 16)) (gv 1) (gint (i := 512)))) (gw_and1 (gt_neW (gv 1) (gint (i := 20000)))))))))
    (gb_cons (gs_raise mk_pl)
   gb_nil)
    gb_nil)
   (gb_cons (gs_attr (gv 0) (gv 1))
   (gb_cons (gs_attr (gv 0) g_dict0)
   (gb_cons (gs_attr (gv 0) (g_mul (g_lst (ga_cons gn ga_nil)) (gv 1)))
   (gb_cons (gs_attr (gv 0) (g_mul (g_lst (ga_cons gn ga_nil)) (gv 1)))
   gb_nil)))))⟩
def e_StoreU_initU : Ent := ⟨d_StoreU_initU, [("self" : Str), ("size" : Str)], N_StoreU_initU, fun K Ph W => (D_StoreU_initU K Ph W).1⟩
def N_StoreU_eqU : List Str := [("self" : Str), ("other" : Str)]
def d_StoreU_eqU : He.DefD := dd ("Store", some "__eq__") "__eq__" "Store.__eq__" (inClass (top 30) 1) [] []
def D_StoreU_eqU (K : PySem.W.Frag) (Ph : Ky → Sp) (W : WX) : {t : TS // GB (cn0 fa xa sh K Ph N_StoreU_eqU (d_StoreU_eqU).scope W) (d_StoreU_eqU).body t} := ⟨_,
   (gb_cons (gs_if (gt_bool (gw_or (gt_not (gt_val (g_fn f_isi (ga_cons (gv 1) (ga_cons gglo ga_nil))))) (gw_or1 (gt_neW (g_attr (gv 0)) (g_attr (gv 1))))))
    (gb_cons (gs_ret gb)
   gb_nil)
    gb_nil)
   (gb_cons (gs_ret (g_and (g_eqW (g_attr (gv 0)) (g_attr (gv 1))) (g_one (g_eqW (g_attr (gv 0)) (g_attr (gv 1))))))
   gb_nil))⟩
def e_StoreU_eqU : Ent := ⟨d_StoreU_eqU, [("self" : Str), ("other" : Str)], N_StoreU_eqU, fun K Ph W => (D_StoreU_eqU K Ph W).1⟩
def N_StoreU_lenU : List Str := [("self" : Str)]
def d_StoreU_lenU : He.DefD := dd ("Store", some "__len__") "__len__" "Store.__len__" (inClass (top 30) 2) [] []
def D_StoreU_lenU (K : PySem.W.Frag) (Ph : Ky → Sp) (W : WX) : {t : TS // GB (cn0 fa xa sh K Ph N_StoreU_lenU (d_StoreU_lenU).scope W) (d_StoreU_lenU).body t} := ⟨_,
   (gb_cons (gs_ret (g_fn f_len (ga_cons (g_attr (gv 0)) ga_nil)))
   gb_nil)⟩
def e_StoreU_lenU : Ent := ⟨d_StoreU_lenU, [("self" : Str)], N_StoreU_lenU, fun K Ph W => (D_StoreU_lenU K Ph W).1⟩
def N_Store_size : List Str := [("self" : Str)]
def d_Store_size : He.DefD := dd ("Store", some "size") "size" "Store.size" (inClass (top 30) 4) [] []
def D_Store_size (K : PySem.W.Frag) (Ph : Ky → Sp) (W : WX) : {t : TS // GB (cn0 fa xa sh K Ph N_Store_size (d_Store_size).scope W) (d_Store_size).body t} := ⟨_,
   (gb_cons (gs_ret (g_attr (gv 0)))
   gb_nil)⟩
def e_Store_size : Ent := ⟨d_Store_size, [("self" : Str)], N_Store_size, fun K Ph W => (D_Store_size K Ph W).1⟩
def N_Store_rooms : List Str := [("self" : Str), ("at" : Str)]
def d_Store_rooms : He.DefD := dd ("Store", some "rooms") "rooms" "Store.rooms" (inClass (top 30) 5) [] []
def D_Store_rooms (K : PySem.W.Frag) (Ph : Ky → Sp) (W : WX) : {t : TS // GB (cn0 fa xa sh K Ph N_Store_rooms (d_Store_rooms).scope W) (d_Store_rooms).body t} := ⟨_,
   (gb_cons (gs_ret (g_lc [("at", 1)] [1] (gi_any (g_fn f_sorted (ga_cons (g_attr (gv 0)) ga_nil))) (gg_name 1) gts_nil (g_tup (ga_cons (gv 1) (ga_cons (g_ix (g_attr (gv 0)) (gv 1)) ga_nil)))))
   gb_nil)⟩
def e_Store_rooms : Ent := ⟨d_Store_rooms, [("self" : Str)], N_Store_rooms, fun K Ph W => (D_Store_rooms K Ph W).1⟩
def N_Store_wide_at : List Str := [("self" : Str), ("place" : Str)]
def d_Store_wide_at : He.DefD := dd ("Store", some "wide_at") "wide_at" "Store.wide_at" (inClass (top 30) 6) [] []
def D_Store_wide_at (K : PySem.W.Frag) (Ph : Ky → Sp) (W : WX) : {t : TS // GB (cn0 fa xa sh K Ph N_Store_wide_at (d_Store_wide_at).scope W) (d_Store_wide_at).body t} := ⟨_,
   (gb_cons (gs_if (gt_not (gt_val (g_call (ga_cons (gv 1) ga_nil) gk_nil)))
    (gb_cons (gs_ret gi)
   gb_nil)
    gb_nil)
   (gb_cons (gs_ret (g_bmU m_get (g_attr (gv 0)) (ga_cons (gv 1) (ga_cons gi ga_nil))))
   gb_nil))⟩
def e_Store_wide_at : Ent := ⟨d_Store_wide_at, [("self" : Str), ("place" : Str)], N_Store_wide_at, fun K Ph W => (D_Store_wide_at K Ph W).1⟩
def N_Store_stretches : List Str := [("self" : Str), ("found" : Str), ("begin" : Str), ("at" : Str), ("wide" : Str)]
def d_Store_stretches : He.DefD := dd ("Store", some "stretches") "stretches" "Store.stretches" (inClass (top 30) 7) [] []
def D_Store_stretches (K : PySem.W.Frag) (Ph : Ky → Sp) (W : WX) : {t : TS // GB (cn0 fa xa sh K Ph N_Store_stretches (d_Store_stretches).scope W) (d_Store_stretches).body t} := ⟨_,
   (gb_cons (gs_asg (g_lst ga_nil) (gg_name 1))
   (gb_cons (gs_asg gi (gg_name 2))
   (gb_cons (gs_alt (gs_for (gi_any (g_addW (g_meth0 (gv 0) gk_nil) (g_lst (ga_cons (g_tup (ga_cons (g_attr (gv 0)) (ga_cons gi ga_nil))) ga_nil)))) (gg_tup 2 (ggs_cons (gg_name 3) (ggs_cons (gg_name 4) ggs_nil)))
    (gb_cons (gs_if (gt_cmp .gt (gv 3) (gv 2))
    (gb_cons (gs_expr (g_bmU m_append (gv 1) (ga_cons (g_tup (ga_cons (gv 2) (ga_cons (g_sub (gv 3) (gv 2)) ga_nil))) ga_nil)))
   gb_nil)
    gb_nil)
   (gb_cons (gs_asg (g_addW (gv 3) (gv 4)) (gg_name 2))
   gb_nil)))
    (gs_lock (gs_for (gi_any (g_addW (g_meth0 (gv 0) gk_nil) (g_lst (ga_cons (g_tup (ga_cons (g_attr (gv 0)) (ga_cons gi ga_nil))) ga_nil)))) (gg_tup 2 (ggs_cons (gg_name 3) (ggs_cons (gg_name 4) ggs_nil)))
    (gb_cons (gs_if (gt_cmp .gt (gv 3) (gv 2))
    (gb_cons (gs_expr (g_bmU m_append (gv 1) (ga_cons (g_tup (ga_cons (gv 2) (ga_cons (g_sub (gv 3) (gv 2)) ga_nil))) ga_nil)))
   gb_nil)
    gb_nil)
   (gb_cons (gs_asg (g_addW (gv 3) (gv 4)) (gg_name 2))
   gb_nil)))))
   (gb_cons (gs_ret (gv 1))
   gb_nil))))⟩
def e_Store_stretches : Ent := ⟨d_Store_stretches, [("self" : Str)], N_Store_stretches, fun K Ph W => (D_Store_stretches K Ph W).1⟩
def N_Store_free : List Str := [("self" : Str)]
def d_Store_free : He.DefD := dd ("Store", some "free") "free" "Store.free" (inClass (top 30) 8) [] []
def D_Store_free (K : PySem.W.Frag) (Ph : Ky → Sp) (W : WX) : {t : TS // GB (cn0 fa xa sh K Ph N_Store_free (d_Store_free).scope W) (d_Store_free).body t} := ⟨_,
   (gb_cons (gs_ret (g_sub (g_attr (gv 0)) (g_sumVals (g_attr (gv 0)))))
   gb_nil)⟩
def e_Store_free : Ent := ⟨d_Store_free, [("self" : Str)], N_Store_free, fun K Ph W => (D_Store_free K Ph W).1⟩
def N_Store_lay_room : List Str := [("self" : Str), ("at" : Str), ("wide" : Str), ("place" : Str)]
def d_Store_lay_room : He.DefD := dd ("Store", some "lay_room") "lay_room" "Store.lay_room" (inClass (top 30) 9) [] []
def D_Store_lay_room (K : PySem.W.Frag) (Ph : Ky → Sp) (W : WX) : {t : TS // GB (cn0 fa xa sh K Ph N_Store_lay_room (d_Store_lay_room).scope W) (d_Store_lay_room).body t} := ⟨_,
   (gb_cons (gs_asg (gv 2) (gg_sub (g_attr (gv 0)) (gv 1)))
   (gb_cons (gs_for (gi_rng2 (gv 1) (g_addW (gv 1) (gv 2))) (gg_name 3)
    (gb_cons (gs_asg (gv 1) (gg_sub (g_attr (gv 0)) (gv 3)))
   gb_nil))
   gb_nil))⟩
def e_Store_lay_room : Ent := ⟨d_Store_lay_room, [("self" : Str), ("at" : Str), ("wide" : Str)], N_Store_lay_room, fun K Ph W => (D_Store_lay_room K Ph W).1⟩
def N_Store_clear_room : List Str := [("self" : Str), ("at" : Str), ("wide" : Str), ("cells" : Str), ("place" : Str)]
def d_Store_clear_room : He.DefD := dd ("Store", some "clear_room") "clear_room" "Store.clear_room" (inClass (top 30) 10) [] []
def D_Store_clear_room (K : PySem.W.Frag) (Ph : Ky → Sp) (W : WX) : {t : TS // GB (cn0 fa xa sh K Ph N_Store_clear_room (d_Store_clear_room).scope W) (d_Store_clear_room).body t} := ⟨_,
   (gb_cons (gs_asg (g_alt (g_bmU m_dpop (g_attr (gv 0)) (ga_cons (gv 1) ga_nil)) (g_bmU m_popAt (g_attr (gv 0)) (ga_cons (gv 1) ga_nil))) (gg_name 2))
   (gb_cons (gs_asg (g_slice (g_attr (gv 0)) (go_some (gv 1)) (go_some (g_addW (gv 1) (gv 2)))) (gg_name 3))
   (gb_cons (gs_for (gi_rng2 (gv 1) (g_addW (gv 1) (gv 2))) (gg_name 4)
    (gb_cons (gs_asg gn (gg_sub (g_attr (gv 0)) (gv 4)))
   (gb_cons (gs_asg gn (gg_sub (g_attr (gv 0)) (gv 4)))
   gb_nil)))
   (gb_cons (gs_ret (gv 3))
   gb_nil))))⟩
def e_Store_clear_room : Ent := ⟨d_Store_clear_room, [("self" : Str), ("at" : Str)], N_Store_clear_room, fun K Ph W => (D_Store_clear_room K Ph W).1⟩
def N_Store_take : List Str := [("self" : Str), ("many" : Str), ("wide" : Str), ("longest" : Str), ("long" : Str), ("begin" : Str), ("at" : Str)]
def d_Store_take : He.DefD := dd ("Store", some "take") "take" "Store.take" (inClass (top 30) 11) [] []
def D_Store_take (K : PySem.W.Frag) (Ph : Ky → Sp) (W : WX) : {t : TS // GB (cn0 fa xa sh K Ph N_Store_take (d_Store_take).scope W) (d_Store_take).body t} := ⟨_,
   (gb_cons (gs_asg (g_call (ga_cons (gv 1) ga_nil) gk_nil) (gg_name 2))
   (gb_cons (gs_asg (g_maxD (ga_cons (g_lc [("at", 6), ("long", 4)] [6, 4] (gi_any (g_meth0 (gv 0) gk_nil)) (gg_tup 2 (ggs_cons (gg_name 6) (ggs_cons (gg_name 4) ggs_nil))) gts_nil (gv 4)) ga_nil) (gk_cons gi gk_nil)) (gg_name 3))
   (gb_cons (gs_if (gt_cmp .lt (gv 3) (gv 2))
    (gb_cons (gs_raise (mk_ini (ga_cons (gv 2) (ga_cons (gv 3) ga_nil))))
   gb_nil)
    gb_nil)
   (gb_cons (gs_asg (g_fn f_minU (ga_cons (g_lc [("at", 6), ("long", 4)] [6, 4] (gi_any (g_meth0 (gv 0) gk_nil)) (gg_tup 2 (ggs_cons (gg_name 6) (ggs_cons (gg_name 4) ggs_nil))) (gts_one (gt_cmp .ge (gv 4) (gv 2))) (g_tup (ga_cons (gv 4) (ga_cons (gv 6) ga_nil)))) ga_nil)) (gg_tup 2 (ggs_cons (gg_name 4) (ggs_cons (gg_name 5) ggs_nil))))
   (gb_cons (gs_expr (g_meth (gv 0) (ga_cons (gv 5) (ga_cons (gv 2) ga_nil)) gk_nil))
   (gb_cons (gs_ret (gv 5))
   gb_nil))))))⟩
def e_Store_take : Ent := ⟨d_Store_take, [("self" : Str), ("many" : Str)], N_Store_take, fun K Ph W => (D_Store_take K Ph W).1⟩
def N_Store_want_begin : List Str := [("self" : Str), ("at" : Str)]
def d_Store_want_begin : He.DefD := dd ("Store", some "want_begin") "want_begin" "Store.want_begin" (inClass (top 30) 12) [] []
def D_Store_want_begin (K : PySem.W.Frag) (Ph : Ky → Sp) (W : WX) : {t : TS // GB (cn0 fa xa sh K Ph N_Store_want_begin (d_Store_want_begin).scope W) (d_Store_want_begin).body t} := ⟨_,
   (gb_cons (gs_if (gt_eqW (g_meth (gv 0) (ga_cons (gv 1) ga_nil) gk_nil) gi)
    (gb_cons (gs_raise mk_pl)
   gb_nil)
    gb_nil)
   gb_nil)⟩
def e_Store_want_begin : Ent := ⟨d_Store_want_begin, [("self" : Str), ("at" : Str)], N_Store_want_begin, fun K Ph W => (D_Store_want_begin K Ph W).1⟩
def N_Store_give : List Str := [("self" : Str), ("at" : Str)]
def d_Store_give : He.DefD := dd ("Store", some "give") "give" "Store.give" (inClass (top 30) 13) [] []
def D_Store_give (K : PySem.W.Frag) (Ph : Ky → Sp) (W : WX) : {t : TS // GB (cn0 fa xa sh K Ph N_Store_give (d_Store_give).scope W) (d_Store_give).body t} := ⟨_,
   (gb_cons (gs_expr (g_meth (gv 0) (ga_cons (gv 1) ga_nil) gk_nil))
   (gb_cons (gs_expr (g_meth (gv 0) (ga_cons (gv 1) ga_nil) gk_nil))
   gb_nil))⟩
def e_Store_give : Ent := ⟨d_Store_give, [("self" : Str), ("at" : Str)], N_Store_give, fun K Ph W => (D_Store_give K Ph W).1⟩
def N_Store_can_move : List Str := [("self" : Str), ("at" : Str), ("to" : Str)]
def d_Store_can_move : He.DefD := dd ("Store", some "can_move") "can_move" "Store.can_move" (inClass (top 30) 14) [] []
def D_Store_can_move (K : PySem.W.Frag) (Ph : Ky → Sp) (W : WX) : {t : TS // GB (cn0 fa xa sh K Ph N_Store_can_move (d_Store_can_move).scope W) (d_Store_can_move).body t} := ⟨_,
   (gb_cons (gs_expr (g_call (ga_cons gi ga_nil) gk_nil))
   gb_nil)⟩
def e_Store_can_move : Ent := ⟨d_Store_can_move, [("self" : Str), ("at" : Str), ("to" : Str)], N_Store_can_move, fun K Ph W => (D_Store_can_move K Ph W).1⟩
def N_Store_move : List Str := [("self" : Str), ("at" : Str), ("to" : Str)]
def d_Store_move : He.DefD := dd ("Store", some "move") "move" "Store.move" (inClass (top 30) 15) [] []
def D_Store_move (K : PySem.W.Frag) (Ph : Ky → Sp) (W : WX) : {t : TS // GB (cn0 fa xa sh K Ph N_Store_move (d_Store_move).scope W) (d_Store_move).body t} := ⟨_,
   (gb_cons (gs_expr (g_call (ga_cons gi ga_nil) gk_nil))
   gb_nil)⟩
def e_Store_move : Ent := ⟨d_Store_move, [("self" : Str), ("at" : Str), ("to" : Str)], N_Store_move, fun K Ph W => (D_Store_move K Ph W).1⟩
def N_Store_is_place : List Str := [("self" : Str), ("place" : Str)]
def d_Store_is_place : He.DefD := dd ("Store", some "is_place") "is_place" "Store.is_place" (inClass (top 30) 16) [] []
def D_Store_is_place (K : PySem.W.Frag) (Ph : Ky → Sp) (W : WX) : {t : TS // GB (cn0 fa xa sh K Ph N_Store_is_place (d_Store_is_place).scope W) (d_Store_is_place).body t} := ⟨_,
   (gb_cons (gs_ret (g_and (g_call (ga_cons (gv 1) ga_nil) gk_nil) (g_one (g_chain .le .lt gi (gv 1) (g_attr (gv 0))))))
   gb_nil)⟩
def e_Store_is_place : Ent := ⟨d_Store_is_place, [("self" : Str), ("place" : Str)], N_Store_is_place, fun K Ph W => (D_Store_is_place K Ph W).1⟩
def N_Store_put : List Str := [("self" : Str), ("place" : Str), ("cell" : Str)]
def d_Store_put : He.DefD := dd ("Store", some "put") "put" "Store.put" (inClass (top 30) 17) [] []
def D_Store_put (K : PySem.W.Frag) (Ph : Ky → Sp) (W : WX) : {t : TS // GB (cn0 fa xa sh K Ph N_Store_put (d_Store_put).scope W) (d_Store_put).body t} := ⟨_,
   (gb_cons (gs_if (gt_bool (gw_or (gt_not (gt_val (g_meth (gv 0) (ga_cons (gv 1) ga_nil) gk_nil))) (gw_or1 (gt_cmp .isn (g_ix (g_attr (gv 0)) (gv 1)) gn))))
    (gb_cons (gs_raise mk_pl)
   gb_nil)
    gb_nil)
   (gb_cons (gs_if (gt_not (gt_val (g_call (ga_cons (gv 2) ga_nil) gk_nil)))
    (gb_cons (gs_raise mk_pl)
   gb_nil)
    gb_nil)
   (gb_cons (gs_asg (gv 2) (gg_sub (g_attr (gv 0)) (gv 1)))
   gb_nil)))⟩
def e_Store_put : Ent := ⟨d_Store_put, [("self" : Str), ("place" : Str), ("cell" : Str)], N_Store_put, fun K Ph W => (D_Store_put K Ph W).1⟩
def N_Store_told : List Str := [("self" : Str), ("place" : Str)]
def d_Store_told : He.DefD := dd ("Store", some "told") "told" "Store.told" (inClass (top 30) 18) [] []
def D_Store_told (K : PySem.W.Frag) (Ph : Ky → Sp) (W : WX) : {t : TS // GB (cn0 fa xa sh K Ph N_Store_told (d_Store_told).scope W) (d_Store_told).body t} := ⟨_,
   (gb_cons (gs_if (gt_not (gt_val (g_meth (gv 0) (ga_cons (gv 1) ga_nil) gk_nil)))
    (gb_cons (gs_raise mk_pl)
   gb_nil)
    gb_nil)
   (gb_cons (gs_ret (g_ix (g_attr (gv 0)) (gv 1)))
   gb_nil))⟩
def e_Store_told : Ent := ⟨d_Store_told, [("self" : Str), ("place" : Str)], N_Store_told, fun K Ph W => (D_Store_told K Ph W).1⟩
def N_Store_copied : List Str := [("self" : Str), ("found" : Str)]
def d_Store_copied : He.DefD := dd ("Store", some "copied") "copied" "Store.copied" (inClass (top 30) 19) [] []
def D_Store_copied (K : PySem.W.Frag) (Ph : Ky → Sp) (W : WX) : {t : TS // GB (cn0 fa xa sh K Ph N_Store_copied (d_Store_copied).scope W) (d_Store_copied).body t} := ⟨_,
   (gb_cons (gs_asg (g_make (ga_cons (g_attr (gv 0)) ga_nil) gk_nil) (gg_name 1))
   (gb_cons (gs_attr (gv 1) (g_ty y_dict (ga_cons (g_attr (gv 0)) ga_nil)))
   (gb_cons (gs_attr (gv 1) (g_ty y_list (ga_cons (g_attr (gv 0)) ga_nil)))
   (gb_cons (gs_attr (gv 1) (g_ty y_list (ga_cons (g_attr (gv 0)) ga_nil)))
   (gb_cons (gs_ret (gv 1))
   gb_nil)))))⟩
def e_Store_copied : Ent := ⟨d_Store_copied, [("self" : Str)], N_Store_copied, fun K Ph W => (D_Store_copied K Ph W).1⟩
def N_NoRoomU_initU : List Str := [("self" : Str), ("wanted" : Str), ("longest" : Str)]
def d_NoRoomU_initU : He.DefD := dd ("NoRoom", some "__init__") "__init__" "NoRoom.__init__" (inClass (top 9) 0) [] []
def D_NoRoomU_initU (K : PySem.W.Frag) (Ph : Ky → Sp) (W : WX) : {t : TS // GB (cn0 fa xa sh K Ph N_NoRoomU_initU (d_NoRoomU_initU).scope W) (d_NoRoomU_initU).body t} := ⟨_,
   (gb_cons (gs_expr (g_cve (ga_cons (gv 0) (ga_cons gs ga_nil))))
   (gb_cons (gs_ost (gv 0) (gv 1))
   (gb_cons (gs_ost (gv 0) (gv 2))
   gb_nil)))⟩
def e_NoRoomU_initU : Ent := ⟨d_NoRoomU_initU, [("self" : Str), ("wanted" : Str), ("longest" : Str)], N_NoRoomU_initU, fun K Ph W => (D_NoRoomU_initU K Ph W).1⟩
def es : List Ent := [e__wall, e_is_whole, e_is_number, e_is_spoken, e_is_cell, e_wide_of, e_lay, e__law_cell, e__law_pot, e__law_draw, e__law_wide, e__law_longest, e__law_shown, e__law_filled, e__law_asked, e__law_no_label, e__law_no_amount, e__law_good, e__law_right, e_law, e_NoRoomU_initU, e_StoreU_initU, e_StoreU_eqU, e_StoreU_lenU, e_Store_size, e_Store_rooms, e_Store_wide_at, e_Store_stretches, e_Store_free, e_Store_lay_room, e_Store_clear_room, e_Store_take, e_Store_want_begin, e_Store_give, e_Store_can_move, e_Store_move, e_Store_is_place, e_Store_put, e_Store_told, e_Store_copied]
theorem ok__wall : EntOk fa xa sh e__wall := fun K Ph W => (D__wall K Ph W).2
theorem ok_is_whole : EntOk fa xa sh e_is_whole := fun K Ph W => (D_is_whole K Ph W).2
theorem ok_is_number : EntOk fa xa sh e_is_number := fun K Ph W => (D_is_number K Ph W).2
theorem ok_is_spoken : EntOk fa xa sh e_is_spoken := fun K Ph W => (D_is_spoken K Ph W).2
theorem ok_is_cell : EntOk fa xa sh e_is_cell := fun K Ph W => (D_is_cell K Ph W).2
theorem ok_wide_of : EntOk fa xa sh e_wide_of := fun K Ph W => (D_wide_of K Ph W).2
theorem ok_lay : EntOk fa xa sh e_lay := fun K Ph W => (D_lay K Ph W).2
theorem ok__law_cell : EntOk fa xa sh e__law_cell := fun K Ph W => (D__law_cell K Ph W).2
theorem ok__law_pot : EntOk fa xa sh e__law_pot := fun K Ph W => (D__law_pot K Ph W).2
theorem ok__law_draw : EntOk fa xa sh e__law_draw := fun K Ph W => (D__law_draw K Ph W).2
theorem ok__law_wide : EntOk fa xa sh e__law_wide := fun K Ph W => (D__law_wide K Ph W).2
theorem ok__law_longest : EntOk fa xa sh e__law_longest := fun K Ph W => (D__law_longest K Ph W).2
theorem ok__law_shown : EntOk fa xa sh e__law_shown := fun K Ph W => (D__law_shown K Ph W).2
theorem ok__law_filled : EntOk fa xa sh e__law_filled := fun K Ph W => (D__law_filled K Ph W).2
theorem ok__law_asked : EntOk fa xa sh e__law_asked := fun K Ph W => (D__law_asked K Ph W).2
theorem ok__law_no_label : EntOk fa xa sh e__law_no_label := fun K Ph W => (D__law_no_label K Ph W).2
theorem ok__law_no_amount : EntOk fa xa sh e__law_no_amount := fun K Ph W => (D__law_no_amount K Ph W).2
theorem ok__law_good : EntOk fa xa sh e__law_good := fun K Ph W => (D__law_good K Ph W).2
theorem ok__law_right : EntOk fa xa sh e__law_right := fun K Ph W => (D__law_right K Ph W).2
theorem ok_law : EntOk fa xa sh e_law := fun K Ph W => (D_law K Ph W).2
theorem ok_NoRoomU_initU : EntOk fa xa sh e_NoRoomU_initU := fun K Ph W => (D_NoRoomU_initU K Ph W).2
theorem ok_StoreU_initU : EntOk fa xa sh e_StoreU_initU := fun K Ph W => (D_StoreU_initU K Ph W).2
theorem ok_StoreU_eqU : EntOk fa xa sh e_StoreU_eqU := fun K Ph W => (D_StoreU_eqU K Ph W).2
theorem ok_StoreU_lenU : EntOk fa xa sh e_StoreU_lenU := fun K Ph W => (D_StoreU_lenU K Ph W).2
theorem ok_Store_size : EntOk fa xa sh e_Store_size := fun K Ph W => (D_Store_size K Ph W).2
theorem ok_Store_rooms : EntOk fa xa sh e_Store_rooms := fun K Ph W => (D_Store_rooms K Ph W).2
theorem ok_Store_wide_at : EntOk fa xa sh e_Store_wide_at := fun K Ph W => (D_Store_wide_at K Ph W).2
theorem ok_Store_stretches : EntOk fa xa sh e_Store_stretches := fun K Ph W => (D_Store_stretches K Ph W).2
theorem ok_Store_free : EntOk fa xa sh e_Store_free := fun K Ph W => (D_Store_free K Ph W).2
theorem ok_Store_lay_room : EntOk fa xa sh e_Store_lay_room := fun K Ph W => (D_Store_lay_room K Ph W).2
theorem ok_Store_clear_room : EntOk fa xa sh e_Store_clear_room := fun K Ph W => (D_Store_clear_room K Ph W).2
theorem ok_Store_take : EntOk fa xa sh e_Store_take := fun K Ph W => (D_Store_take K Ph W).2
theorem ok_Store_want_begin : EntOk fa xa sh e_Store_want_begin := fun K Ph W => (D_Store_want_begin K Ph W).2
theorem ok_Store_give : EntOk fa xa sh e_Store_give := fun K Ph W => (D_Store_give K Ph W).2
theorem ok_Store_can_move : EntOk fa xa sh e_Store_can_move := fun K Ph W => (D_Store_can_move K Ph W).2
theorem ok_Store_move : EntOk fa xa sh e_Store_move := fun K Ph W => (D_Store_move K Ph W).2
theorem ok_Store_is_place : EntOk fa xa sh e_Store_is_place := fun K Ph W => (D_Store_is_place K Ph W).2
theorem ok_Store_put : EntOk fa xa sh e_Store_put := fun K Ph W => (D_Store_put K Ph W).2
theorem ok_Store_told : EntOk fa xa sh e_Store_told := fun K Ph W => (D_Store_told K Ph W).2
theorem ok_Store_copied : EntOk fa xa sh e_Store_copied := fun K Ph W => (D_Store_copied K Ph W).2
theorem es_ok : ∀ en ∈ es, EntOk fa xa sh en := (all_cons ok__wall (all_cons ok_is_whole (all_cons ok_is_number (all_cons ok_is_spoken (all_cons ok_is_cell (all_cons ok_wide_of (all_cons ok_lay (all_cons ok__law_cell (all_cons ok__law_pot (all_cons ok__law_draw (all_cons ok__law_wide (all_cons ok__law_longest (all_cons ok__law_shown (all_cons ok__law_filled (all_cons ok__law_asked (all_cons ok__law_no_label (all_cons ok__law_no_amount (all_cons ok__law_good (all_cons ok__law_right (all_cons ok_law (all_cons ok_NoRoomU_initU (all_cons ok_StoreU_initU (all_cons ok_StoreU_eqU (all_cons ok_StoreU_lenU (all_cons ok_Store_size (all_cons ok_Store_rooms (all_cons ok_Store_wide_at (all_cons ok_Store_stretches (all_cons ok_Store_free (all_cons ok_Store_lay_room (all_cons ok_Store_clear_room (all_cons ok_Store_take (all_cons ok_Store_want_begin (all_cons ok_Store_give (all_cons ok_Store_can_move (all_cons ok_Store_move (all_cons ok_Store_is_place (all_cons ok_Store_put (all_cons ok_Store_told (all_cons ok_Store_copied all_nil))))))))))))))))))))))))))))))))))))))))
theorem sh_ok : ∀ s ∈ sh, ShpOk es s := (all_cons (shp_plain (en := e_is_whole) rfl rfl rfl fun _ _ _ _ _ _ us ws h1 h2 => match us, ws, h1, h2 with | [_], [], _, _ => rfl)
  (all_cons (shp_plain (en := e_is_number) rfl rfl rfl fun _ _ _ _ _ _ us ws h1 h2 => match us, ws, h1, h2 with | [_], [], _, _ => rfl)
  (all_cons (shp_plain (en := e_is_spoken) rfl rfl rfl fun _ _ _ _ _ _ us ws h1 h2 => match us, ws, h1, h2 with | [_, _, _], [], _, _ => rfl)
  (all_cons (shp_plain (en := e_Store_put) rfl rfl rfl fun _ _ _ _ _ _ us ws h1 h2 => match us, ws, h1, h2 with | [_, _, _], [], _, _ => rfl)
  (all_cons (shp_plain (en := e_Store_take) rfl rfl rfl fun _ _ _ _ _ _ us ws h1 h2 => match us, ws, h1, h2 with | [_, _], [], _, _ => rfl)
  (all_cons (shp_plain (en := e_Store_stretches) rfl rfl rfl fun _ _ _ _ _ _ us ws h1 h2 => match us, ws, h1, h2 with | [_], [], _, _ => rfl)
  (all_cons (shp_plain (en := e_Store_size) rfl rfl rfl fun _ _ _ _ _ _ us ws h1 h2 => match us, ws, h1, h2 with | [_], [], _, _ => rfl)
  (all_cons (shp_plain (en := e_Store_rooms) rfl rfl rfl fun _ _ _ _ _ _ us ws h1 h2 => match us, ws, h1, h2 with | [_], [], _, _ => rfl)
  (all_cons (shp_plain (en := e_Store_told) rfl rfl rfl fun _ _ _ _ _ _ us ws h1 h2 => match us, ws, h1, h2 with | [_, _], [], _, _ => rfl)
  (all_cons (shp_plain (en := e__law_draw) rfl rfl rfl fun _ _ _ _ _ _ us ws h1 h2 => match us, ws, h1, h2 with | [_, _], [], _, _ => rfl)
  (all_cons (shp_plain (en := e_Store_give) rfl rfl rfl fun _ _ _ _ _ _ us ws h1 h2 => match us, ws, h1, h2 with | [_, _], [], _, _ => rfl)
  (all_cons (shp_plain (en := e__law_longest) rfl rfl rfl fun _ _ _ _ _ _ us ws h1 h2 => match us, ws, h1, h2 with | [_], [], _, _ => rfl)
  (all_cons (shp_plain (en := e__law_wide) rfl rfl rfl fun _ _ _ _ _ _ us ws h1 h2 => match us, ws, h1, h2 with | [_], [], _, _ => rfl)
  (all_cons (shp_dfl (en := e_StoreU_initU) [.pos 0, .pos 1] rfl (by exact List.cons_ne_nil _ _) rfl rfl fun _ _ _ _ _ _ _ us its ws h1 h2 h3 => match us, its, ws, h1, h2, h3 with | [_, _], [_], [], _, _, _ => ⟨_, rfl, rfl⟩)
  (all_cons (shp_plain (en := e_lay) rfl rfl rfl fun _ _ _ _ _ _ us ws h1 h2 => match us, ws, h1, h2 with | [_, _, _], [], _, _ => rfl)
  (all_cons (shp_plain (en := e_lay) rfl rfl rfl fun _ _ _ _ _ _ us ws h1 h2 => match us, ws, h1, h2 with | [], [_, _, _], _, _ => rfl)
  (all_cons (shp_plain (en := e__law_shown) rfl rfl rfl fun _ _ _ _ _ _ us ws h1 h2 => match us, ws, h1, h2 with | [_], [], _, _ => rfl)
  (all_cons (shp_plain (en := e__law_asked) rfl rfl rfl fun _ _ _ _ _ _ us ws h1 h2 => match us, ws, h1, h2 with | [_, _, _, _], [], _, _ => rfl)
  (all_cons (shp_plain (en := e__law_good) rfl rfl rfl fun _ _ _ _ _ _ us ws h1 h2 => match us, ws, h1, h2 with | [_, _, _], [], _, _ => rfl)
  (all_cons (shp_plain (en := e_Store_copied) rfl rfl rfl fun _ _ _ _ _ _ us ws h1 h2 => match us, ws, h1, h2 with | [_], [], _, _ => rfl)
  (all_cons (shp_plain (en := e__law_right) rfl rfl rfl fun _ _ _ _ _ _ us ws h1 h2 => match us, ws, h1, h2 with | [_, _, _, _, _], [], _, _ => rfl)
  (all_cons (shp_plain (en := e__law_no_amount) rfl rfl rfl fun _ _ _ _ _ _ us ws h1 h2 => match us, ws, h1, h2 with | [_], [], _, _ => rfl)
  (all_cons (shp_plain (en := e__law_no_label) rfl rfl rfl fun _ _ _ _ _ _ us ws h1 h2 => match us, ws, h1, h2 with | [_], [], _, _ => rfl)
  (all_cons (shp_plain (en := e__law_filled) rfl rfl rfl fun _ _ _ _ _ _ us ws h1 h2 => match us, ws, h1, h2 with | [_], [], _, _ => rfl)
  (all_cons (shp_plain (en := e__law_cell) rfl rfl rfl fun _ _ _ _ _ _ us ws h1 h2 => match us, ws, h1, h2 with | [_, _], [], _, _ => rfl)
  (all_cons (shp_plain (en := e__law_pot) rfl rfl rfl fun _ _ _ _ _ _ us ws h1 h2 => match us, ws, h1, h2 with | [_], [], _, _ => rfl)
  (all_cons (shp_plain (en := e_Store_lay_room) rfl rfl rfl fun _ _ _ _ _ _ us ws h1 h2 => match us, ws, h1, h2 with | [_, _, _], [], _, _ => rfl)
  (all_cons (shp_plain (en := e_NoRoomU_initU) rfl rfl rfl fun _ _ _ _ _ _ us ws h1 h2 => match us, ws, h1, h2 with | [_, _, _], [], _, _ => rfl)
  (all_cons (shp_plain (en := e_wide_of) rfl rfl rfl fun _ _ _ _ _ _ us ws h1 h2 => match us, ws, h1, h2 with | [_], [], _, _ => rfl)
  (all_cons (shp_plain (en := e_Store_wide_at) rfl rfl rfl fun _ _ _ _ _ _ us ws h1 h2 => match us, ws, h1, h2 with | [_, _], [], _, _ => rfl)
  (all_cons (shp_plain (en := e_Store_clear_room) rfl rfl rfl fun _ _ _ _ _ _ us ws h1 h2 => match us, ws, h1, h2 with | [_, _], [], _, _ => rfl)
  (all_cons (shp_plain (en := e_Store_want_begin) rfl rfl rfl fun _ _ _ _ _ _ us ws h1 h2 => match us, ws, h1, h2 with | [_, _], [], _, _ => rfl)
  (all_cons (shp_plain (en := e__wall) rfl rfl rfl fun _ _ _ _ _ _ us ws h1 h2 => match us, ws, h1, h2 with | [_], [], _, _ => rfl)
  (all_cons (shp_plain (en := e_is_cell) rfl rfl rfl fun _ _ _ _ _ _ us ws h1 h2 => match us, ws, h1, h2 with | [_], [], _, _ => rfl)
  (all_cons (shp_plain (en := e_Store_is_place) rfl rfl rfl fun _ _ _ _ _ _ us ws h1 h2 => match us, ws, h1, h2 with | [_, _], [], _, _ => rfl)
  all_nil)))))))))))))))))))))))))))))))))))
theorem sc_ok : (es.all fun en => scB en.N en.ps en.d.scope) = true := by decide +kernel

theorem si_NoRoom {K : PySem.W.Frag} : ∀ n, 1 ≤ n → SpI K (lev K es n ("NoRoom", some "__init__")) "NoRoom" 2 [("wanted", 1), ("longest", 2)] := fun n hn => by
  obtain ⟨m, rfl⟩ : ∃ m, n = m + 1 := ⟨n - 1, by omega⟩
  exact spI_of (cc := cn0 fa xa sh K (lev K es m) N_NoRoomU_initU (d_NoRoomU_initU).scope noW) (z := "no stretch is so long") (xa := xa) rfl rfl (en := e_NoRoomU_initU) rfl rfl (by decide +kernel) (by decide +kernel) (by decide) (by decide) fun W D σ H h => h
theorem sx_NoStore_RoomError : subX xa "NoStore" "RoomError" = some true := by decide +kernel
theorem sx_NoStore_NoRoom : subX xa "NoStore" "NoRoom" = some false := by decide +kernel
theorem sx_NoStore_BadNumber : subX xa "NoStore" "BadNumber" = some false := by decide +kernel
theorem sx_NoStore_BadFields : subX xa "NoStore" "BadFields" = some false := by decide +kernel
theorem sx_NoStore_HeapError : subX xa "NoStore" "HeapError" = some false := by decide +kernel
theorem sx_NoStore_StoreError : subX xa "NoStore" "StoreError" = some true := by decide +kernel
theorem sx_NoPlace_RoomError : subX xa "NoPlace" "RoomError" = some true := by decide +kernel
theorem sx_NoPlace_NoRoom : subX xa "NoPlace" "NoRoom" = some false := by decide +kernel
theorem sx_NoPlace_BadNumber : subX xa "NoPlace" "BadNumber" = some false := by decide +kernel
theorem sx_NoPlace_BadFields : subX xa "NoPlace" "BadFields" = some false := by decide +kernel
theorem sx_NoPlace_HeapError : subX xa "NoPlace" "HeapError" = some false := by decide +kernel
theorem sx_NoPlace_StoreError : subX xa "NoPlace" "StoreError" = some true := by decide +kernel
theorem sx_BadCell_RoomError : subX xa "BadCell" "RoomError" = some true := by decide +kernel
theorem sx_BadCell_NoRoom : subX xa "BadCell" "NoRoom" = some false := by decide +kernel
theorem sx_BadCell_BadNumber : subX xa "BadCell" "BadNumber" = some false := by decide +kernel
theorem sx_BadCell_BadFields : subX xa "BadCell" "BadFields" = some false := by decide +kernel
theorem sx_BadCell_HeapError : subX xa "BadCell" "HeapError" = some false := by decide +kernel
theorem sx_BadCell_StoreError : subX xa "BadCell" "StoreError" = some true := by decide +kernel
theorem sx_BadWide_RoomError : subX xa "BadWide" "RoomError" = some true := by decide +kernel
theorem sx_BadWide_NoRoom : subX xa "BadWide" "NoRoom" = some false := by decide +kernel
theorem sx_BadWide_BadNumber : subX xa "BadWide" "BadNumber" = some false := by decide +kernel
theorem sx_BadWide_BadFields : subX xa "BadWide" "BadFields" = some false := by decide +kernel
theorem sx_BadWide_HeapError : subX xa "BadWide" "HeapError" = some false := by decide +kernel
theorem sx_BadWide_StoreError : subX xa "BadWide" "StoreError" = some true := by decide +kernel
theorem sx_NoRoom_RoomError : subX xa "NoRoom" "RoomError" = some true := by decide +kernel
theorem sx_NoRoom_NoRoom : subX xa "NoRoom" "NoRoom" = some true := by decide +kernel
theorem sx_NoRoom_BadNumber : subX xa "NoRoom" "BadNumber" = some false := by decide +kernel
theorem sx_NoRoom_BadFields : subX xa "NoRoom" "BadFields" = some false := by decide +kernel
theorem sx_NoRoom_HeapError : subX xa "NoRoom" "HeapError" = some false := by decide +kernel
theorem sx_NoRoom_StoreError : subX xa "NoRoom" "StoreError" = some true := by decide +kernel
theorem sx_BadNumber_RoomError : subX xa "BadNumber" "RoomError" = some true := by decide +kernel
theorem sx_BadNumber_NoRoom : subX xa "BadNumber" "NoRoom" = some false := by decide +kernel
theorem sx_BadNumber_BadNumber : subX xa "BadNumber" "BadNumber" = some true := by decide +kernel
theorem sx_BadNumber_BadFields : subX xa "BadNumber" "BadFields" = some false := by decide +kernel
theorem sx_BadNumber_HeapError : subX xa "BadNumber" "HeapError" = some true := by decide +kernel
theorem sx_BadNumber_StoreError : subX xa "BadNumber" "StoreError" = some false := by decide +kernel
theorem sx_BadFields_RoomError : subX xa "BadFields" "RoomError" = some true := by decide +kernel
theorem sx_BadFields_NoRoom : subX xa "BadFields" "NoRoom" = some false := by decide +kernel
theorem sx_BadFields_BadNumber : subX xa "BadFields" "BadNumber" = some false := by decide +kernel
theorem sx_BadFields_BadFields : subX xa "BadFields" "BadFields" = some true := by decide +kernel
theorem sx_BadFields_HeapError : subX xa "BadFields" "HeapError" = some true := by decide +kernel
theorem sx_BadFields_StoreError : subX xa "BadFields" "StoreError" = some false := by decide +kernel
abbrev c__wall (K : PySem.W.Frag) (Ph : Ky → Sp) (W : WX) : Cn := cn0 fa xa sh K Ph N__wall (d__wall).scope W
noncomputable def S__wall : {qs : Ev → Re Ev Fl // ∀ (K : PySem.W.Frag) (Ph : Ky → Sp) (W : WX), SmS K W (D__wall K Ph W).1 qs} := ⟨_, fun K Ph W  =>
   unS rfl (sm_last (sm_while ((sm_tru (sm_bl).r)).e
    (sm_last sm_next)))⟩
noncomputable def p__wall : List T → Re (List T) T := fun ts => if ts.length = 1 then runF [] [] 1 S__wall.1 ts else .bad
theorem q__wall {t0 : T} : p__wall [t0] = fin 1 (S__wall.1 [.bor t0]) := q_of rfl rfl
theorem sp__wall {K : PySem.W.Frag} : ∀ n, 1 ≤ n → SpF K (lev K es n ("_wall", none)) [] p__wall := fun n hn => by
  obtain ⟨m, rfl⟩ : ∃ m, n = m + 1 := ⟨n - 1, by omega⟩
  exact spF_of (en := e__wall) rfl fun W => S__wall.2 K (lev K es m) W
abbrev c_is_whole (K : PySem.W.Frag) (Ph : Ky → Sp) (W : WX) : Cn := cn0 fa xa sh K Ph N_is_whole (d_is_whole).scope W
noncomputable def S_is_whole : {qs : Ev → Re Ev Fl // ∀ (K : PySem.W.Frag) (Ph : Ky → Sp) (W : WX), SmS K W (D_is_whole K Ph W).1 qs} := ⟨_, fun K Ph W  =>
   unS rfl (sm_last (sm_ret ((sm_andV (sm_cb fn_isi (sm_ar_cons (sm_var 0) (sm_ar_cons (sm_ty).r sm_ar_nil))) (sm_notV ((sm_cb fn_isi (sm_ar_cons (sm_var 0) (sm_ar_cons (sm_ty).r sm_ar_nil)))).r))).e))⟩
noncomputable def p_is_whole : List T → Re (List T) T := fun ts => if ts.length = 1 then runF [] [] 1 S_is_whole.1 ts else .bad
theorem q_is_whole {t0 : T} : p_is_whole [t0] = fin 1 (S_is_whole.1 [.bor t0]) := q_of rfl rfl
theorem sp_is_whole {K : PySem.W.Frag} : ∀ n, 1 ≤ n → SpF K (lev K es n ("is_whole", none)) [] p_is_whole := fun n hn => by
  obtain ⟨m, rfl⟩ : ∃ m, n = m + 1 := ⟨n - 1, by omega⟩
  exact spF_of (en := e_is_whole) rfl fun W => S_is_whole.2 K (lev K es m) W
abbrev c_is_number (K : PySem.W.Frag) (Ph : Ky → Sp) (W : WX) : Cn := cn0 fa xa sh K Ph N_is_number (d_is_number).scope W
noncomputable def S_is_number : {qs : Ev → Re Ev Fl // ∀ (K : PySem.W.Frag) (Ph : Ky → Sp) (W : WX), (SpR K (Ph ("is_whole", none)) (roF p_is_whole)) → SmS K W (D_is_number K Ph W).1 qs} := ⟨_, fun K Ph W r_is_whole =>
   unS rfl (sm_last (sm_ret ((sm_andV (sm_fn (c := (c_is_number K Ph W)) (na := 1) (ks := []) (s := ⟨("is_whole", none), 1, [], [.pos 0]⟩) rfl r_is_whole (sm_ar_cons (sm_var 0) sm_ar_nil) sm_ar_nil) (sm_chain o_f_le o_f_le (sm_int).r (sm_var 0) (sm_int).r))).e))⟩
noncomputable def p_is_number : List T → Re (List T) T := fun ts => if ts.length = 1 then runF [] [] 1 S_is_number.1 ts else .bad
theorem q_is_number {t0 : T} : p_is_number [t0] = fin 1 (S_is_number.1 [.bor t0]) := q_of rfl rfl
theorem sp_is_number {K : PySem.W.Frag} : ∀ n, 2 ≤ n → SpF K (lev K es n ("is_number", none)) [] p_is_number := fun n hn => by
  obtain ⟨m, rfl⟩ : ∃ m, n = m + 1 := ⟨n - 1, by omega⟩
  exact spF_of (en := e_is_number) rfl fun W => S_is_number.2 K (lev K es m) W ((sp_is_whole m (by omega)).ro rfl)
abbrev c_is_spoken (K : PySem.W.Frag) (Ph : Ky → Sp) (W : WX) : Cn := cn0 fa xa sh K Ph N_is_spoken (d_is_spoken).scope W
noncomputable def S_is_spoken : {qs : Ev → Re Ev Fl // ∀ (K : PySem.W.Frag) (Ph : Ky → Sp) (W : WX), SmS K W (D_is_spoken K Ph W).1 qs} := ⟨_, fun K Ph W  =>
   unS rfl (sm_last (sm_ret ((sm_andV (sm_cb fn_isi (sm_ar_cons (sm_var 0) (sm_ar_cons (sm_ty).r sm_ar_nil))) (sm_andV (sm_op o_f_eq ((sm_cb fn_len (sm_ar_cons (sm_var 0) sm_ar_nil))).r (sm_var 2)) (sm_andV (sm_cb fn_isi (sm_ar_cons (sm_opA o_f_ix (sm_var 0) (sm_int).r) (sm_ar_cons (sm_ty).r sm_ar_nil))) (sm_op o_f_eq (sm_opA o_f_ix (sm_var 0) (sm_int).r) (sm_var 1)))))).e))⟩
noncomputable def p_is_spoken : List T → Re (List T) T := fun ts => if ts.length = 3 then runF [] [] 3 S_is_spoken.1 ts else .bad
theorem q_is_spoken {t0 t1 t2 : T} : p_is_spoken [t0, t1, t2] = fin 3 (S_is_spoken.1 [.bor t0, .bor t1, .bor t2]) := q_of rfl rfl
theorem sp_is_spoken {K : PySem.W.Frag} : ∀ n, 1 ≤ n → SpF K (lev K es n ("is_spoken", none)) [] p_is_spoken := fun n hn => by
  obtain ⟨m, rfl⟩ : ∃ m, n = m + 1 := ⟨n - 1, by omega⟩
  exact spF_of (en := e_is_spoken) rfl fun W => S_is_spoken.2 K (lev K es m) W
abbrev c_is_cell (K : PySem.W.Frag) (Ph : Ky → Sp) (W : WX) : Cn := cn0 fa xa sh K Ph N_is_cell (d_is_cell).scope W
noncomputable def S_is_cell : {qs : Ev → Re Ev Fl // ∀ (K : PySem.W.Frag) (Ph : Ky → Sp) (W : WX), (SpR K (Ph ("is_whole", none)) (roF p_is_whole)) → (SpR K (Ph ("is_number", none)) (roF p_is_number)) → (SpR K (Ph ("is_spoken", none)) (roF p_is_spoken)) → SmS K W (D_is_cell K Ph W).1 qs} := ⟨_, fun K Ph W r_is_whole r_is_number r_is_spoken =>
   unS rfl (sm_seq (sm_ifS ((sm_or (sm_test ((sm_op o_f_is (sm_var 0) (sm_non).r)).r) (sm_tru ((sm_fn (c := (c_is_cell K Ph W)) (na := 1) (ks := []) (s := ⟨("is_number", none), 1, [], [.pos 0]⟩) rfl r_is_number (sm_ar_cons (sm_var 0) sm_ar_nil) sm_ar_nil)).r))).e
    (sm_last (sm_ret (sm_bl).e))
    sm_next)
   (sm_seq (sm_ifS ((sm_tru ((sm_fn (c := (c_is_cell K Ph W)) (na := 3) (ks := []) (s := ⟨("is_spoken", none), 3, [], [.pos 0, .pos 1, .pos 2]⟩) rfl r_is_spoken (sm_ar_cons (sm_var 0) (sm_ar_cons (sm_str).r (sm_ar_cons (sm_int).r sm_ar_nil))) sm_ar_nil)).r)).e
    (sm_last (sm_ret ((sm_fn (c := (c_is_cell K Ph W)) (na := 1) (ks := []) (s := ⟨("is_number", none), 1, [], [.pos 0]⟩) rfl r_is_number (sm_ar_cons (sm_opA o_f_ix (sm_var 0) (sm_int).r) sm_ar_nil) sm_ar_nil)).e))
    sm_next)
   (sm_seq (sm_ifS ((sm_or (sm_not (sm_tru ((sm_fn (c := (c_is_cell K Ph W)) (na := 3) (ks := []) (s := ⟨("is_spoken", none), 3, [], [.pos 0, .pos 1, .pos 2]⟩) rfl r_is_spoken (sm_ar_cons (sm_var 0) (sm_ar_cons (sm_str).r (sm_ar_cons (sm_int).r sm_ar_nil))) sm_ar_nil)).r)) (sm_or (sm_not (sm_tru ((sm_fn (c := (c_is_cell K Ph W)) (na := 1) (ks := []) (s := ⟨("is_number", none), 1, [], [.pos 0]⟩) rfl r_is_number (sm_ar_cons (sm_opA o_f_ix (sm_var 0) (sm_int).r) sm_ar_nil) sm_ar_nil)).r)) (sm_test ((sm_op o_f_eq (sm_opA o_f_ix (sm_var 0) (sm_int).r) (sm_int).r)).r)))).e
    (sm_last (sm_ret (sm_bl).e))
    sm_next)
   (sm_last (sm_ret ((sm_andV (sm_fn (c := (c_is_cell K Ph W)) (na := 1) (ks := []) (s := ⟨("is_whole", none), 1, [], [.pos 0]⟩) rfl r_is_whole (sm_ar_cons (sm_opA o_f_ix (sm_var 0) (sm_int).r) sm_ar_nil) sm_ar_nil) (sm_chain o_f_le o_f_le (sm_int).r (sm_opA o_f_ix (sm_var 0) (sm_int).r) (sm_int).r))).e)))))⟩
noncomputable def p_is_cell : List T → Re (List T) T := fun ts => if ts.length = 1 then runF [] [] 1 S_is_cell.1 ts else .bad
theorem q_is_cell {t0 : T} : p_is_cell [t0] = fin 1 (S_is_cell.1 [.bor t0]) := q_of rfl rfl
theorem sp_is_cell {K : PySem.W.Frag} : ∀ n, 3 ≤ n → SpF K (lev K es n ("is_cell", none)) [] p_is_cell := fun n hn => by
  obtain ⟨m, rfl⟩ : ∃ m, n = m + 1 := ⟨n - 1, by omega⟩
  exact spF_of (en := e_is_cell) rfl fun W => S_is_cell.2 K (lev K es m) W ((sp_is_whole m (by omega)).ro rfl) ((sp_is_number m (by omega)).ro rfl) ((sp_is_spoken m (by omega)).ro rfl)
abbrev c_wide_of (K : PySem.W.Frag) (Ph : Ky → Sp) (W : WX) : Cn := cn0 fa xa sh K Ph N_wide_of (d_wide_of).scope W
noncomputable def S_wide_of : {qs : Ev → Re Ev Fl // ∀ (K : PySem.W.Frag) (Ph : Ky → Sp) (W : WX), (SpR K (Ph ("is_whole", none)) (roF p_is_whole)) → (TabOk K "WIDES" [T.int 2, T.int 3, T.int 4, T.int 6, T.int 8, T.int 12, T.int 16, T.int 24, T.int 32]) → SmS K W (D_wide_of K Ph W).1 qs} := ⟨_, fun K Ph W r_is_whole t_WIDES =>
   unS rfl (sm_seq (sm_ifS ((sm_or (sm_not (sm_tru ((sm_fn (c := (c_wide_of K Ph W)) (na := 1) (ks := []) (s := ⟨("is_whole", none), 1, [], [.pos 0]⟩) rfl r_is_whole (sm_ar_cons (sm_var 0) sm_ar_nil) sm_ar_nil)).r)) (sm_not (sm_test ((sm_chain o_f_le o_f_le (sm_int).r (sm_var 0) (sm_opA o_f_ix ((sm_tab _ t_WIDES)).r ((sm_un o_f_neg (sm_int).r)).r))).r)))).e
    (sm_last (sm_raiseP (c := (c_wide_of K Ph W))))
    sm_next)
   (sm_last (sm_ret ((sm_opA o_f_ix ((sm_lc (sm_any ((sm_tab _ t_WIDES)).r) (sm_gR rfl) (sm_test ((sm_op o_f_ge (sm_var 1) (sm_var 0))).r) (sm_var 1).f)).r (sm_int).r).f).e)))⟩
noncomputable def p_wide_of : List T → Re (List T) T := fun ts => if ts.length = 1 then runF [] [] 2 S_wide_of.1 ts else .bad
theorem q_wide_of {t0 : T} : p_wide_of [t0] = fin 1 (S_wide_of.1 [.bor t0, .no]) := q_of rfl rfl
theorem sp_wide_of {K : PySem.W.Frag} (t_WIDES : TabOk K "WIDES" [T.int 2, T.int 3, T.int 4, T.int 6, T.int 8, T.int 12, T.int 16, T.int 24, T.int 32]) : ∀ n, 2 ≤ n → SpF K (lev K es n ("wide_of", none)) [] p_wide_of := fun n hn => by
  obtain ⟨m, rfl⟩ : ∃ m, n = m + 1 := ⟨n - 1, by omega⟩
  exact spF_of (en := e_wide_of) rfl fun W => S_wide_of.2 K (lev K es m) W ((sp_is_whole m (by omega)).ro rfl) t_WIDES
abbrev c_Store_lay_room (K : PySem.W.Frag) (Ph : Ky → Sp) (W : WX) : Cn := cn0 fa xa sh K Ph N_Store_lay_room (d_Store_lay_room).scope W
noncomputable def S_Store_lay_room : {qs : Ev → Re Ev Fl // ∀ (K : PySem.W.Frag) (Ph : Ky → Sp) (W : WX), SmS K W (D_Store_lay_room K Ph W).1 qs} := ⟨_, fun K Ph W  =>
   unS rfl (sm_seq (sm_asg (sm_mv 2) (sm_gK (W := W) (sm_plAttr (fa := fa) (sm_plVar 0)) (sm_var 1)))
   (sm_last (sm_for (sm_rng2 (sm_ar_cons (sm_var 1) (sm_ar_cons ((sm_op o_f_add (sm_var 1) (sm_var 2))).r sm_ar_nil))) (sm_gN 3)
   (sm_last (sm_asg (sm_mv 1) (sm_gK (W := W) (sm_plAttr (fa := fa) (sm_plVar 0)) (sm_var 3)))))))⟩
noncomputable def p_Store_lay_room : List T → Re (List T) T := fun ts => if ts.length = 3 then runF [true] [] 4 S_Store_lay_room.1 ts else .bad
theorem q_Store_lay_room {t0 t1 t2 : T} : p_Store_lay_room [t0, t1, t2] = fin 3 (S_Store_lay_room.1 [.par t0, .bor t1, .bor t2, .no]) := q_of rfl rfl
theorem sp_Store_lay_room {K : PySem.W.Frag} : ∀ n, 1 ≤ n → SpF K (lev K es n ("Store", some "lay_room")) [true] p_Store_lay_room := fun n hn => by
  obtain ⟨m, rfl⟩ : ∃ m, n = m + 1 := ⟨n - 1, by omega⟩
  exact spF_of (en := e_Store_lay_room) rfl fun W => S_Store_lay_room.2 K (lev K es m) W
abbrev c_Store_rooms (K : PySem.W.Frag) (Ph : Ky → Sp) (W : WX) : Cn := cn0 fa xa sh K Ph N_Store_rooms (d_Store_rooms).scope W
noncomputable def S_Store_rooms : {qs : Ev → Re Ev Fl // ∀ (K : PySem.W.Frag) (Ph : Ky → Sp) (W : WX), SmS K W (D_Store_rooms K Ph W).1 qs} := ⟨_, fun K Ph W  =>
   unS rfl (sm_last (sm_ret ((sm_lc (sm_any ((sm_cb fn_sorted (sm_ar_cons (sm_attr (fa := fa) (sm_var 0)) sm_ar_nil))).r) (sm_gR rfl) sm_yes (sm_tup (sm_af_cons (sm_var 1).f (sm_af_cons (sm_opA o_f_ix (sm_attr (fa := fa) (sm_var 0)) (sm_var 1)).f sm_af_nil))))).e))⟩
noncomputable def p_Store_rooms : List T → Re (List T) T := fun ts => if ts.length = 1 then runF [] [] 2 S_Store_rooms.1 ts else .bad
theorem q_Store_rooms {t0 : T} : p_Store_rooms [t0] = fin 1 (S_Store_rooms.1 [.bor t0, .no]) := q_of rfl rfl
theorem sp_Store_rooms {K : PySem.W.Frag} : ∀ n, 1 ≤ n → SpF K (lev K es n ("Store", some "rooms")) [] p_Store_rooms := fun n hn => by
  obtain ⟨m, rfl⟩ : ∃ m, n = m + 1 := ⟨n - 1, by omega⟩
  exact spF_of (en := e_Store_rooms) rfl fun W => S_Store_rooms.2 K (lev K es m) W
abbrev c_Store_stretches (K : PySem.W.Frag) (Ph : Ky → Sp) (W : WX) : Cn := cn0 fa xa sh K Ph N_Store_stretches (d_Store_stretches).scope W
noncomputable def S_Store_stretches : {qs : Ev → Re Ev Fl // ∀ (K : PySem.W.Frag) (Ph : Ky → Sp) (W : WX), (SpR K (Ph ("Store", some "rooms")) (roF p_Store_rooms)) → SmS K W (D_Store_stretches K Ph W).1 qs} := ⟨_, fun K Ph W r_Store_rooms =>
   unS rfl (sm_seq (sm_asg ((sm_lst sm_af_nil)).e (sm_gN 1))
   (sm_seq (sm_asg (sm_int).e (sm_gN 2))
   (sm_seq (sm_sorL (sm_for (sm_anyF (sm_op o_f_add ((sm_meth (c := (c_Store_stretches K Ph W)) (C := "Store") (na := 0) (ks := []) (s := ⟨("Store", some "rooms"), 1, [], [.pos 0]⟩) rfl rfl rfl r_Store_rooms (sm_var 0) sm_ar_nil sm_ar_nil)).r ((sm_lst (sm_af_cons (sm_tup (sm_af_cons (sm_attr (fa := fa) (sm_var 0)).f (sm_af_cons sm_int sm_af_nil))) sm_af_nil))).r)) (sm_gUnp (sm_gscons (sm_gN 3) (sm_gscons (sm_gN 4) sm_gsnil)))
   (sm_seq (sm_ifS ((sm_test ((sm_op o_f_gt (sm_var 3) (sm_var 2))).r)).e
    (sm_last (sm_drop (sm_bmVE (i := 1) mtm_append (sm_ae_cons (sm_tupE (sm_ae_cons (sm_mv 2) (sm_ae_cons ((sm_op o_f_sub (sm_var 3) (sm_var 2))).e sm_ae_nil))) sm_ae_nil))))
    sm_next)
   (sm_last (sm_asg ((sm_op o_f_add (sm_var 3) (sm_var 4))).e (sm_gN 2))))))
   (sm_last (sm_ret (sm_mv 1))))))⟩
noncomputable def p_Store_stretches : List T → Re (List T) T := fun ts => if ts.length = 1 then runF [] [] 5 S_Store_stretches.1 ts else .bad
theorem q_Store_stretches {t0 : T} : p_Store_stretches [t0] = fin 1 (S_Store_stretches.1 [.bor t0, .no, .no, .no, .no]) := q_of rfl rfl
theorem sp_Store_stretches {K : PySem.W.Frag} : ∀ n, 2 ≤ n → SpF K (lev K es n ("Store", some "stretches")) [] p_Store_stretches := fun n hn => by
  obtain ⟨m, rfl⟩ : ∃ m, n = m + 1 := ⟨n - 1, by omega⟩
  exact spF_of (en := e_Store_stretches) rfl fun W => S_Store_stretches.2 K (lev K es m) W ((sp_Store_rooms m (by omega)).ro rfl)
abbrev c_Store_take (K : PySem.W.Frag) (Ph : Ky → Sp) (W : WX) : Cn := cn0 fa xa sh K Ph N_Store_take (d_Store_take).scope W
noncomputable def S_Store_take : {qs : Ev → Re Ev Fl // ∀ (K : PySem.W.Frag) (Ph : Ky → Sp) (W : WX), (SpR K (Ph ("wide_of", none)) (roF p_wide_of)) → (SpR K (Ph ("Store", some "stretches")) (roF p_Store_stretches)) → (SpF K (Ph ("Store", some "lay_room")) [true] p_Store_lay_room) → (SpI K (Ph ("NoRoom", some "__init__")) "NoRoom" 2 [("wanted", 1), ("longest", 2)]) → SmS K W (D_Store_take K Ph W).1 qs} := ⟨_, fun K Ph W r_wide_of r_Store_stretches f_Store_lay_room i_NoRoom =>
   unS rfl (sm_seq (sm_asg ((sm_fn (c := (c_Store_take K Ph W)) (na := 1) (ks := []) (s := ⟨("wide_of", none), 1, [], [.pos 0]⟩) rfl r_wide_of (sm_ar_cons (sm_var 1) sm_ar_nil) sm_ar_nil)).e (sm_gN 2))
   (sm_seq (sm_asg ((sm_ckw ck_maxD (sm_ar_cons ((sm_lc (sm_any ((sm_meth (c := (c_Store_take K Ph W)) (C := "Store") (na := 0) (ks := []) (s := ⟨("Store", some "stretches"), 1, [], [.pos 0]⟩) rfl rfl rfl r_Store_stretches (sm_var 0) sm_ar_nil sm_ar_nil)).r) (sm_gRtup (sm_gRcons (sm_gR rfl) (sm_gRcons (sm_gR rfl) sm_gRnil))) sm_yes (sm_var 4).f)).r sm_ar_nil) (sm_ar_cons (sm_int).r sm_ar_nil))).e (sm_gN 3))
   (sm_seq (sm_ifS ((sm_test ((sm_op o_f_lt (sm_var 3) (sm_var 2))).r)).e
    (sm_last (sm_raiseI (c := (c_Store_take K Ph W)) (na := 2) (s := ⟨("NoRoom", some "__init__"), 3, [], [.pos 0, .pos 1, .pos 2]⟩) (fs := [("wanted", 1), ("longest", 2)]) rfl rfl i_NoRoom (by simp) (sm_ar_cons (sm_var 2) (sm_ar_cons (sm_var 3) sm_ar_nil))))
    sm_next)
   (sm_seq (sm_asg ((sm_cb fn_min1 (sm_ar_cons ((sm_lc (sm_any ((sm_meth (c := (c_Store_take K Ph W)) (C := "Store") (na := 0) (ks := []) (s := ⟨("Store", some "stretches"), 1, [], [.pos 0]⟩) rfl rfl rfl r_Store_stretches (sm_var 0) sm_ar_nil sm_ar_nil)).r) (sm_gRtup (sm_gRcons (sm_gR rfl) (sm_gRcons (sm_gR rfl) sm_gRnil))) (sm_test ((sm_op o_f_ge (sm_var 4) (sm_var 2))).r) (sm_tup (sm_af_cons (sm_var 4).f (sm_af_cons (sm_var 6).f sm_af_nil))))).r sm_ar_nil))).e (sm_gUnp (sm_gscons (sm_gN 4) (sm_gscons (sm_gN 5) sm_gsnil))))
   (sm_seq (sm_drop (sm_methVE (c := (c_Store_take K Ph W)) (C := "Store") (na := 2) (ks := []) (s := ⟨("Store", some "lay_room"), 3, [], [.pos 0, .pos 1, .pos 2]⟩) rfl rfl rfl f_Store_lay_room rfl ((sm_cf_plc (sm_plVar 5) (sm_cf_plc (sm_plVar 2) sm_cf_nil))).e sm_cf_nil))
   (sm_last (sm_ret (sm_mv 5))))))))⟩
noncomputable def p_Store_take : List T → Re (List T) T := fun ts => if ts.length = 2 then runF [true] [] 7 S_Store_take.1 ts else .bad
theorem q_Store_take {t0 t1 : T} : p_Store_take [t0, t1] = fin 2 (S_Store_take.1 [.par t0, .bor t1, .no, .no, .no, .no, .no]) := q_of rfl rfl
theorem sp_Store_take {K : PySem.W.Frag} (t_WIDES : TabOk K "WIDES" [T.int 2, T.int 3, T.int 4, T.int 6, T.int 8, T.int 12, T.int 16, T.int 24, T.int 32]) : ∀ n, 3 ≤ n → SpF K (lev K es n ("Store", some "take")) [true] p_Store_take := fun n hn => by
  obtain ⟨m, rfl⟩ : ∃ m, n = m + 1 := ⟨n - 1, by omega⟩
  exact spF_of (en := e_Store_take) rfl fun W => S_Store_take.2 K (lev K es m) W ((sp_wide_of t_WIDES m (by omega)).ro rfl) ((sp_Store_stretches m (by omega)).ro rfl) (sp_Store_lay_room m (by omega)) (si_NoRoom m (by omega))
abbrev c_Store_is_place (K : PySem.W.Frag) (Ph : Ky → Sp) (W : WX) : Cn := cn0 fa xa sh K Ph N_Store_is_place (d_Store_is_place).scope W
noncomputable def S_Store_is_place : {qs : Ev → Re Ev Fl // ∀ (K : PySem.W.Frag) (Ph : Ky → Sp) (W : WX), (SpR K (Ph ("is_whole", none)) (roF p_is_whole)) → SmS K W (D_Store_is_place K Ph W).1 qs} := ⟨_, fun K Ph W r_is_whole =>
   unS rfl (sm_last (sm_ret ((sm_andV (sm_fn (c := (c_Store_is_place K Ph W)) (na := 1) (ks := []) (s := ⟨("is_whole", none), 1, [], [.pos 0]⟩) rfl r_is_whole (sm_ar_cons (sm_var 1) sm_ar_nil) sm_ar_nil) (sm_chain o_f_le o_f_lt (sm_int).r (sm_var 1) (sm_attr (fa := fa) (sm_var 0))))).e))⟩
noncomputable def p_Store_is_place : List T → Re (List T) T := fun ts => if ts.length = 2 then runF [] [] 2 S_Store_is_place.1 ts else .bad
theorem q_Store_is_place {t0 t1 : T} : p_Store_is_place [t0, t1] = fin 2 (S_Store_is_place.1 [.bor t0, .bor t1]) := q_of rfl rfl
theorem sp_Store_is_place {K : PySem.W.Frag} : ∀ n, 2 ≤ n → SpF K (lev K es n ("Store", some "is_place")) [] p_Store_is_place := fun n hn => by
  obtain ⟨m, rfl⟩ : ∃ m, n = m + 1 := ⟨n - 1, by omega⟩
  exact spF_of (en := e_Store_is_place) rfl fun W => S_Store_is_place.2 K (lev K es m) W ((sp_is_whole m (by omega)).ro rfl)
abbrev c_Store_put (K : PySem.W.Frag) (Ph : Ky → Sp) (W : WX) : Cn := cn0 fa xa sh K Ph N_Store_put (d_Store_put).scope W
noncomputable def S_Store_put : {qs : Ev → Re Ev Fl // ∀ (K : PySem.W.Frag) (Ph : Ky → Sp) (W : WX), (SpR K (Ph ("Store", some "is_place")) (roF p_Store_is_place)) → (SpR K (Ph ("is_cell", none)) (roF p_is_cell)) → SmS K W (D_Store_put K Ph W).1 qs} := ⟨_, fun K Ph W r_Store_is_place r_is_cell =>
   unS rfl (sm_seq (sm_ifS ((sm_or (sm_not (sm_tru ((sm_meth (c := (c_Store_put K Ph W)) (C := "Store") (na := 1) (ks := []) (s := ⟨("Store", some "is_place"), 2, [], [.pos 0, .pos 1]⟩) rfl rfl rfl r_Store_is_place (sm_var 0) (sm_ar_cons (sm_var 1) sm_ar_nil) sm_ar_nil)).r)) (sm_test ((sm_op o_f_is (sm_opA o_f_ix (sm_attr (fa := fa) (sm_var 0)) (sm_var 1)) (sm_non).r)).r))).e
    (sm_last (sm_raiseP (c := (c_Store_put K Ph W))))
    sm_next)
   (sm_seq (sm_ifS ((sm_not (sm_tru ((sm_fn (c := (c_Store_put K Ph W)) (na := 1) (ks := []) (s := ⟨("is_cell", none), 1, [], [.pos 0]⟩) rfl r_is_cell (sm_ar_cons (sm_var 2) sm_ar_nil) sm_ar_nil)).r))).e
    (sm_last (sm_raiseP (c := (c_Store_put K Ph W))))
    sm_next)
   (sm_last (sm_asg (sm_mv 2) (sm_gK (W := W) (sm_plAttr (fa := fa) (sm_plVar 0)) (sm_var 1))))))⟩
noncomputable def p_Store_put : List T → Re (List T) T := fun ts => if ts.length = 3 then runF [true] [] 3 S_Store_put.1 ts else .bad
theorem q_Store_put {t0 t1 t2 : T} : p_Store_put [t0, t1, t2] = fin 3 (S_Store_put.1 [.par t0, .bor t1, .bor t2]) := q_of rfl rfl
theorem sp_Store_put {K : PySem.W.Frag} : ∀ n, 4 ≤ n → SpF K (lev K es n ("Store", some "put")) [true] p_Store_put := fun n hn => by
  obtain ⟨m, rfl⟩ : ∃ m, n = m + 1 := ⟨n - 1, by omega⟩
  exact spF_of (en := e_Store_put) rfl fun W => S_Store_put.2 K (lev K es m) W ((sp_Store_is_place m (by omega)).ro rfl) ((sp_is_cell m (by omega)).ro rfl)
abbrev c_lay (K : PySem.W.Frag) (Ph : Ky → Sp) (W : WX) : Cn := cn0 fa xa sh K Ph N_lay (d_lay).scope W
noncomputable def S_lay : {qs : Ev → Re Ev Fl // ∀ (K : PySem.W.Frag) (Ph : Ky → Sp) (W : WX), (SpR K (Ph ("is_number", none)) (roF p_is_number)) → (SpF K (Ph ("Store", some "take")) [true] p_Store_take) → (SpF K (Ph ("Store", some "put")) [true] p_Store_put) → SmS K W (D_lay K Ph W).1 qs} := ⟨_, fun K Ph W r_is_number f_Store_take f_Store_put =>
   unS rfl (sm_seq (sm_ifS ((sm_or (sm_not (sm_tru ((sm_fn (c := (c_lay K Ph W)) (na := 1) (ks := []) (s := ⟨("is_number", none), 1, [], [.pos 0]⟩) rfl r_is_number (sm_ar_cons (sm_var 1) sm_ar_nil) sm_ar_nil)).r)) (sm_test ((sm_op o_f_eq (sm_var 1) (sm_int).r)).r))).e
    (sm_last (sm_raiseP (c := (c_lay K Ph W))))
    sm_next)
   (sm_seq (sm_ifS ((sm_or (sm_not (sm_tru ((sm_fn (c := (c_lay K Ph W)) (na := 1) (ks := []) (s := ⟨("is_number", none), 1, [], [.pos 0]⟩) rfl r_is_number (sm_ar_cons (sm_var 2) sm_ar_nil) sm_ar_nil)).r)) (sm_test ((sm_op o_f_gt (sm_var 2) (sm_int).r)).r))).e
    (sm_last (sm_raiseP (c := (c_lay K Ph W))))
    sm_next)
   (sm_seq (sm_asg (sm_methVE (c := (c_lay K Ph W)) (C := "Store") (na := 1) (ks := []) (s := ⟨("Store", some "take"), 2, [], [.pos 0, .pos 1]⟩) rfl rfl rfl f_Store_take rfl ((sm_cf_val (sm_op o_f_add (sm_int).r (sm_var 2)) sm_cf_nil)).e sm_cf_nil) (sm_gN 3))
   (sm_seq (sm_drop (sm_methVE (c := (c_lay K Ph W)) (C := "Store") (na := 2) (ks := []) (s := ⟨("Store", some "put"), 3, [], [.pos 0, .pos 1, .pos 2]⟩) rfl rfl rfl f_Store_put rfl ((sm_cf_plc (sm_plVar 3) (sm_cf_val (sm_tup (sm_af_cons sm_str (sm_af_cons (sm_var 1).f (sm_af_cons (sm_var 2).f sm_af_nil)))) sm_cf_nil))).e sm_cf_nil))
   (sm_seq (sm_drop (sm_methVE (c := (c_lay K Ph W)) (C := "Store") (na := 2) (ks := []) (s := ⟨("Store", some "put"), 3, [], [.pos 0, .pos 1, .pos 2]⟩) rfl rfl rfl f_Store_put rfl ((sm_cf_val (sm_op o_f_add (sm_var 3) (sm_int).r) (sm_cf_val sm_int sm_cf_nil))).e sm_cf_nil))
   (sm_last (sm_ret (sm_mv 3))))))))⟩
noncomputable def p_lay : List T → Re (List T) T := fun ts => if ts.length = 3 then runF [true] [] 4 S_lay.1 ts else .bad
theorem q_lay {t0 t1 t2 : T} : p_lay [t0, t1, t2] = fin 3 (S_lay.1 [.par t0, .bor t1, .bor t2, .no]) := q_of rfl rfl
theorem sp_lay {K : PySem.W.Frag} (t_WIDES : TabOk K "WIDES" [T.int 2, T.int 3, T.int 4, T.int 6, T.int 8, T.int 12, T.int 16, T.int 24, T.int 32]) : ∀ n, 5 ≤ n → SpF K (lev K es n ("lay", none)) [true] p_lay := fun n hn => by
  obtain ⟨m, rfl⟩ : ∃ m, n = m + 1 := ⟨n - 1, by omega⟩
  exact spF_of (en := e_lay) rfl fun W => S_lay.2 K (lev K es m) W ((sp_is_number m (by omega)).ro rfl) (sp_Store_take t_WIDES m (by omega)) (sp_Store_put m (by omega))
abbrev c__law_cell (K : PySem.W.Frag) (Ph : Ky → Sp) (W : WX) : Cn := cn0 fa xa sh K Ph N__law_cell (d__law_cell).scope W
noncomputable def S__law_cell : {qs : Ev → Re Ev Fl // ∀ (K : PySem.W.Frag) (Ph : Ky → Sp) (W : WX), SmS K W (D__law_cell K Ph W).1 qs} := ⟨_, fun K Ph W  =>
   unS rfl (sm_seq (sm_ifS ((sm_test ((sm_op o_f_lt (sm_var 1) ((sm_cb fn_len (sm_ar_cons (sm_var 0) sm_ar_nil))).r)).r)).e
    (sm_last (sm_ret ((sm_opA o_f_ix (sm_var 0) (sm_var 1)).f).e))
    sm_next)
   (sm_last (sm_ret (sm_int).e)))⟩
noncomputable def p__law_cell : List T → Re (List T) T := fun ts => if ts.length = 2 then runF [] [] 2 S__law_cell.1 ts else .bad
theorem q__law_cell {t0 t1 : T} : p__law_cell [t0, t1] = fin 2 (S__law_cell.1 [.bor t0, .bor t1]) := q_of rfl rfl
theorem sp__law_cell {K : PySem.W.Frag} : ∀ n, 1 ≤ n → SpF K (lev K es n ("_law_cell", none)) [] p__law_cell := fun n hn => by
  obtain ⟨m, rfl⟩ : ∃ m, n = m + 1 := ⟨n - 1, by omega⟩
  exact spF_of (en := e__law_cell) rfl fun W => S__law_cell.2 K (lev K es m) W
abbrev c__law_pot (K : PySem.W.Frag) (Ph : Ky → Sp) (W : WX) : Cn := cn0 fa xa sh K Ph N__law_pot (d__law_pot).scope W
noncomputable def S__law_pot : {qs : Ev → Re Ev Fl // ∀ (K : PySem.W.Frag) (Ph : Ky → Sp) (W : WX), SmS K W (D__law_pot K Ph W).1 qs} := ⟨_, fun K Ph W  =>
   unS rfl (sm_last (sm_ret ((sm_lst (sm_af_cons (sm_cb fn_max2 (sm_ar_cons (sm_int).r (sm_ar_cons ((sm_op o_f_sub ((sm_cb fn_abs (sm_ar_cons (sm_var 0) sm_ar_nil))).r ((sm_op o_f_pow (sm_int).r (sm_int).r)).r)).r sm_ar_nil))) (sm_af_cons (sm_op o_f_add ((sm_op o_f_mod ((sm_cb fn_abs (sm_ar_cons (sm_var 0) sm_ar_nil))).r (sm_int).r)).r (sm_int).r) sm_af_nil)))).e))⟩
noncomputable def p__law_pot : List T → Re (List T) T := fun ts => if ts.length = 1 then runF [] [] 1 S__law_pot.1 ts else .bad
theorem q__law_pot {t0 : T} : p__law_pot [t0] = fin 1 (S__law_pot.1 [.bor t0]) := q_of rfl rfl
theorem sp__law_pot {K : PySem.W.Frag} : ∀ n, 1 ≤ n → SpF K (lev K es n ("_law_pot", none)) [] p__law_pot := fun n hn => by
  obtain ⟨m, rfl⟩ : ∃ m, n = m + 1 := ⟨n - 1, by omega⟩
  exact spF_of (en := e__law_pot) rfl fun W => S__law_pot.2 K (lev K es m) W
abbrev c__law_draw (K : PySem.W.Frag) (Ph : Ky → Sp) (W : WX) : Cn := cn0 fa xa sh K Ph N__law_draw (d__law_draw).scope W
noncomputable def S__law_draw : {qs : Ev → Re Ev Fl // ∀ (K : PySem.W.Frag) (Ph : Ky → Sp) (W : WX), SmS K W (D__law_draw K Ph W).1 qs} := ⟨_, fun K Ph W  =>
   unS rfl (sm_seq (sm_ifS ((sm_test ((sm_op o_f_gt (sm_opA o_f_ix (sm_var 0) (sm_int).r) (sm_int).r)).r)).e
    (sm_seq (sm_asg ((sm_cb fn_divmod (sm_ar_cons (sm_opA o_f_ix (sm_var 0) (sm_int).r) (sm_ar_cons (sm_var 1) sm_ar_nil)))).e (sm_gUnp (sm_gscons (sm_gK (W := W) (sm_plVar 0) (sm_int).r) (sm_gscons (sm_gN 2) sm_gsnil))))
   (sm_last (sm_ret (sm_mv 2))))
    sm_next)
   (sm_seq (sm_asg ((sm_op o_f_mod ((sm_op o_f_add ((sm_op o_f_mul (sm_opA o_f_ix (sm_var 0) (sm_int).r) (sm_int).r)).r (sm_int).r)).r (sm_int).r)).e (sm_gK (W := W) (sm_plVar 0) (sm_int).r))
   (sm_last (sm_ret ((sm_op o_f_mod ((sm_op o_f_div ((sm_op o_f_mod ((sm_op o_f_mul (sm_opA o_f_ix (sm_var 0) (sm_int).r) (sm_opA o_f_ix (sm_var 0) (sm_int).r))).r (sm_int).r)).r (sm_int).r)).r (sm_var 1))).e))))⟩
noncomputable def p__law_draw : List T → Re (List T) T := fun ts => if ts.length = 2 then runF [true] [] 3 S__law_draw.1 ts else .bad
theorem q__law_draw {t0 t1 : T} : p__law_draw [t0, t1] = fin 2 (S__law_draw.1 [.par t0, .bor t1, .no]) := q_of rfl rfl
theorem sp__law_draw {K : PySem.W.Frag} : ∀ n, 1 ≤ n → SpF K (lev K es n ("_law_draw", none)) [true] p__law_draw := fun n hn => by
  obtain ⟨m, rfl⟩ : ∃ m, n = m + 1 := ⟨n - 1, by omega⟩
  exact spF_of (en := e__law_draw) rfl fun W => S__law_draw.2 K (lev K es m) W
abbrev c__law_wide (K : PySem.W.Frag) (Ph : Ky → Sp) (W : WX) : Cn := cn0 fa xa sh K Ph N__law_wide (d__law_wide).scope W
noncomputable def S__law_wide : {qs : Ev → Re Ev Fl // ∀ (K : PySem.W.Frag) (Ph : Ky → Sp) (W : WX), SmS K W (D__law_wide K Ph W).1 qs} := ⟨_, fun K Ph W  =>
   unS rfl (sm_last (sm_ret ((sm_opA o_f_ix ((sm_lc (sm_any ((sm_lst (sm_af_cons sm_int (sm_af_cons sm_int (sm_af_cons sm_int (sm_af_cons sm_int (sm_af_cons sm_int (sm_af_cons sm_int (sm_af_cons sm_int (sm_af_cons sm_int (sm_af_cons sm_int sm_af_nil))))))))))).r) (sm_gR rfl) (sm_test ((sm_op o_f_ge (sm_var 1) (sm_var 0))).r) (sm_var 1).f)).r (sm_int).r).f).e))⟩
noncomputable def p__law_wide : List T → Re (List T) T := fun ts => if ts.length = 1 then runF [] [] 2 S__law_wide.1 ts else .bad
theorem q__law_wide {t0 : T} : p__law_wide [t0] = fin 1 (S__law_wide.1 [.bor t0, .no]) := q_of rfl rfl
theorem sp__law_wide {K : PySem.W.Frag} : ∀ n, 1 ≤ n → SpF K (lev K es n ("_law_wide", none)) [] p__law_wide := fun n hn => by
  obtain ⟨m, rfl⟩ : ∃ m, n = m + 1 := ⟨n - 1, by omega⟩
  exact spF_of (en := e__law_wide) rfl fun W => S__law_wide.2 K (lev K es m) W
abbrev c__law_longest (K : PySem.W.Frag) (Ph : Ky → Sp) (W : WX) : Cn := cn0 fa xa sh K Ph N__law_longest (d__law_longest).scope W
noncomputable def S__law_longest : {qs : Ev → Re Ev Fl // ∀ (K : PySem.W.Frag) (Ph : Ky → Sp) (W : WX), (SpR K (Ph ("Store", some "stretches")) (roF p_Store_stretches)) → SmS K W (D__law_longest K Ph W).1 qs} := ⟨_, fun K Ph W r_Store_stretches =>
   unS rfl (sm_last (sm_ret ((sm_cb fn_max1 (sm_ar_cons ((sm_op o_f_add ((sm_lst (sm_af_cons sm_int sm_af_nil))).r ((sm_lc (sm_any ((sm_meth (c := (c__law_longest K Ph W)) (C := "Store") (na := 0) (ks := []) (s := ⟨("Store", some "stretches"), 1, [], [.pos 0]⟩) rfl rfl rfl r_Store_stretches (sm_var 0) sm_ar_nil sm_ar_nil)).r) (sm_gRtup (sm_gRcons (sm_gR rfl) (sm_gRcons (sm_gR rfl) sm_gRnil))) sm_yes (sm_var 2).f)).r)).r sm_ar_nil))).e))⟩
noncomputable def p__law_longest : List T → Re (List T) T := fun ts => if ts.length = 1 then runF [] [] 3 S__law_longest.1 ts else .bad
theorem q__law_longest {t0 : T} : p__law_longest [t0] = fin 1 (S__law_longest.1 [.bor t0, .no, .no]) := q_of rfl rfl
theorem sp__law_longest {K : PySem.W.Frag} : ∀ n, 3 ≤ n → SpF K (lev K es n ("_law_longest", none)) [] p__law_longest := fun n hn => by
  obtain ⟨m, rfl⟩ : ∃ m, n = m + 1 := ⟨n - 1, by omega⟩
  exact spF_of (en := e__law_longest) rfl fun W => S__law_longest.2 K (lev K es m) W ((sp_Store_stretches m (by omega)).ro rfl)
abbrev c_Store_size (K : PySem.W.Frag) (Ph : Ky → Sp) (W : WX) : Cn := cn0 fa xa sh K Ph N_Store_size (d_Store_size).scope W
noncomputable def S_Store_size : {qs : Ev → Re Ev Fl // ∀ (K : PySem.W.Frag) (Ph : Ky → Sp) (W : WX), SmS K W (D_Store_size K Ph W).1 qs} := ⟨_, fun K Ph W  =>
   unS rfl (sm_last (sm_ret ((sm_attr (fa := fa) (sm_var 0)).f).e))⟩
noncomputable def p_Store_size : List T → Re (List T) T := fun ts => if ts.length = 1 then runF [] [] 1 S_Store_size.1 ts else .bad
theorem q_Store_size {t0 : T} : p_Store_size [t0] = fin 1 (S_Store_size.1 [.bor t0]) := q_of rfl rfl
theorem sp_Store_size {K : PySem.W.Frag} : ∀ n, 1 ≤ n → SpF K (lev K es n ("Store", some "size")) [] p_Store_size := fun n hn => by
  obtain ⟨m, rfl⟩ : ∃ m, n = m + 1 := ⟨n - 1, by omega⟩
  exact spF_of (en := e_Store_size) rfl fun W => S_Store_size.2 K (lev K es m) W
abbrev c_Store_told (K : PySem.W.Frag) (Ph : Ky → Sp) (W : WX) : Cn := cn0 fa xa sh K Ph N_Store_told (d_Store_told).scope W
noncomputable def S_Store_told : {qs : Ev → Re Ev Fl // ∀ (K : PySem.W.Frag) (Ph : Ky → Sp) (W : WX), (SpR K (Ph ("Store", some "is_place")) (roF p_Store_is_place)) → SmS K W (D_Store_told K Ph W).1 qs} := ⟨_, fun K Ph W r_Store_is_place =>
   unS rfl (sm_seq (sm_ifS ((sm_not (sm_tru ((sm_meth (c := (c_Store_told K Ph W)) (C := "Store") (na := 1) (ks := []) (s := ⟨("Store", some "is_place"), 2, [], [.pos 0, .pos 1]⟩) rfl rfl rfl r_Store_is_place (sm_var 0) (sm_ar_cons (sm_var 1) sm_ar_nil) sm_ar_nil)).r))).e
    (sm_last (sm_raiseP (c := (c_Store_told K Ph W))))
    sm_next)
   (sm_last (sm_ret ((sm_opA o_f_ix (sm_attr (fa := fa) (sm_var 0)) (sm_var 1)).f).e)))⟩
noncomputable def p_Store_told : List T → Re (List T) T := fun ts => if ts.length = 2 then runF [] [] 2 S_Store_told.1 ts else .bad
theorem q_Store_told {t0 t1 : T} : p_Store_told [t0, t1] = fin 2 (S_Store_told.1 [.bor t0, .bor t1]) := q_of rfl rfl
theorem sp_Store_told {K : PySem.W.Frag} : ∀ n, 3 ≤ n → SpF K (lev K es n ("Store", some "told")) [] p_Store_told := fun n hn => by
  obtain ⟨m, rfl⟩ : ∃ m, n = m + 1 := ⟨n - 1, by omega⟩
  exact spF_of (en := e_Store_told) rfl fun W => S_Store_told.2 K (lev K es m) W ((sp_Store_is_place m (by omega)).ro rfl)
abbrev c__law_shown (K : PySem.W.Frag) (Ph : Ky → Sp) (W : WX) : Cn := cn0 fa xa sh K Ph N__law_shown (d__law_shown).scope W
noncomputable def S__law_shown : {qs : Ev → Re Ev Fl // ∀ (K : PySem.W.Frag) (Ph : Ky → Sp) (W : WX), (SpR K (Ph ("Store", some "size")) (roF p_Store_size)) → (SpR K (Ph ("Store", some "told")) (roF p_Store_told)) → (SpR K (Ph ("Store", some "rooms")) (roF p_Store_rooms)) → SmS K W (D__law_shown K Ph W).1 qs} := ⟨_, fun K Ph W r_Store_size r_Store_told r_Store_rooms =>
   unS rfl (sm_last (sm_ret ((sm_cb fn_repr (sm_ar_cons ((sm_lst (sm_af_cons (sm_meth (c := (c__law_shown K Ph W)) (C := "Store") (na := 0) (ks := []) (s := ⟨("Store", some "size"), 1, [], [.pos 0]⟩) rfl rfl rfl r_Store_size (sm_var 0) sm_ar_nil sm_ar_nil) (sm_af_cons (sm_meth (c := (c__law_shown K Ph W)) (C := "Store") (na := 0) (ks := []) (s := ⟨("Store", some "rooms"), 1, [], [.pos 0]⟩) rfl rfl rfl r_Store_rooms (sm_var 0) sm_ar_nil sm_ar_nil) (sm_af_cons (sm_lc (sm_rng1 (sm_ar_cons ((sm_meth (c := (c__law_shown K Ph W)) (C := "Store") (na := 0) (ks := []) (s := ⟨("Store", some "size"), 1, [], [.pos 0]⟩) rfl rfl rfl r_Store_size (sm_var 0) sm_ar_nil sm_ar_nil)).r sm_ar_nil)).r (sm_gR rfl) sm_yes (sm_meth (c := Cn.blk (c__law_shown K Ph W) _) (C := "Store") (na := 1) (ks := []) (s := ⟨("Store", some "told"), 2, [], [.pos 0, .pos 1]⟩) rfl rfl rfl r_Store_told (sm_var 0) (sm_ar_cons (sm_var 1) sm_ar_nil) sm_ar_nil)) sm_af_nil))))).r sm_ar_nil))).e))⟩
noncomputable def p__law_shown : List T → Re (List T) T := fun ts => if ts.length = 1 then runF [] [] 2 S__law_shown.1 ts else .bad
theorem q__law_shown {t0 : T} : p__law_shown [t0] = fin 1 (S__law_shown.1 [.bor t0, .no]) := q_of rfl rfl
theorem sp__law_shown {K : PySem.W.Frag} : ∀ n, 4 ≤ n → SpF K (lev K es n ("_law_shown", none)) [] p__law_shown := fun n hn => by
  obtain ⟨m, rfl⟩ : ∃ m, n = m + 1 := ⟨n - 1, by omega⟩
  exact spF_of (en := e__law_shown) rfl fun W => S__law_shown.2 K (lev K es m) W ((sp_Store_size m (by omega)).ro rfl) ((sp_Store_told m (by omega)).ro rfl) ((sp_Store_rooms m (by omega)).ro rfl)
abbrev c_StoreU_initU (K : PySem.W.Frag) (Ph : Ky → Sp) (W : WX) : Cn := cn0 fa xa sh K Ph N_StoreU_initU (d_StoreU_initU).scope W
noncomputable def S_StoreU_initU : {qs : Ev → Re Ev Fl // ∀ (K : PySem.W.Frag) (Ph : Ky → Sp) (W : WX), (SpR K (Ph ("is_whole", none)) (roF p_is_whole)) → SmS K W (D_StoreU_initU K Ph W).1 qs} := ⟨_, fun K Ph W r_is_whole =>
   unS rfl (sm_seq (sm_ifS ((sm_or (sm_not (sm_tru ((sm_fn (c := (c_StoreU_initU K Ph W)) (na := 1) (ks := []) (s := ⟨("is_whole", none), 1, [], [.pos 0]⟩) rfl r_is_whole (sm_ar_cons (sm_var 1) sm_ar_nil) sm_ar_nil)).r)) (sm_and (sm_not (sm_test ((sm_chain o_f_le o_f_le (sm_int).r (sm_var 1) (sm_int).r)).r)) (sm_test ((sm_op o_f_ne (sm_var 1) (sm_int).r)).r)))).e
    (sm_last (sm_raiseP (c := (c_StoreU_initU K Ph W))))
    sm_next)
   (sm_seq (sm_attrS (fa := fa) (sm_mv 1) (sm_plVar 0))
   (sm_seq (sm_attrS (fa := fa) (sm_dict0).e (sm_plVar 0))
   (sm_seq (sm_attrS (fa := fa) ((sm_op o_f_mul ((sm_lst (sm_af_cons sm_non sm_af_nil))).r (sm_var 1))).e (sm_plVar 0))
   (sm_last (sm_attrS (fa := fa) ((sm_op o_f_mul ((sm_lst (sm_af_cons sm_non sm_af_nil))).r (sm_var 1))).e (sm_plVar 0)))))))⟩
noncomputable def p_StoreU_initU : List T → Re (List T) T := fun ts => if ts.length = 2 then runF [true] [] 2 S_StoreU_initU.1 ts else .bad
theorem q_StoreU_initU {t0 t1 : T} : p_StoreU_initU [t0, t1] = fin 2 (S_StoreU_initU.1 [.par t0, .bor t1]) := q_of rfl rfl
theorem sp_StoreU_initU {K : PySem.W.Frag} : ∀ n, 2 ≤ n → SpF K (lev K es n ("Store", some "__init__")) [true] p_StoreU_initU := fun n hn => by
  obtain ⟨m, rfl⟩ : ∃ m, n = m + 1 := ⟨n - 1, by omega⟩
  exact spF_of (en := e_StoreU_initU) rfl fun W => S_StoreU_initU.2 K (lev K es m) W ((sp_is_whole m (by omega)).ro rfl)
abbrev c_Store_wide_at (K : PySem.W.Frag) (Ph : Ky → Sp) (W : WX) : Cn := cn0 fa xa sh K Ph N_Store_wide_at (d_Store_wide_at).scope W
noncomputable def S_Store_wide_at : {qs : Ev → Re Ev Fl // ∀ (K : PySem.W.Frag) (Ph : Ky → Sp) (W : WX), (SpR K (Ph ("is_whole", none)) (roF p_is_whole)) → SmS K W (D_Store_wide_at K Ph W).1 qs} := ⟨_, fun K Ph W r_is_whole =>
   unS rfl (sm_seq (sm_ifS ((sm_not (sm_tru ((sm_fn (c := (c_Store_wide_at K Ph W)) (na := 1) (ks := []) (s := ⟨("is_whole", none), 1, [], [.pos 0]⟩) rfl r_is_whole (sm_ar_cons (sm_var 1) sm_ar_nil) sm_ar_nil)).r))).e
    (sm_last (sm_ret (sm_int).e))
    sm_next)
   (sm_last (sm_ret ((sm_bm mt_get (sm_attr (fa := fa) (sm_var 0)) (sm_ar_cons (sm_var 1) (sm_ar_cons (sm_int).r sm_ar_nil)))).e)))⟩
noncomputable def p_Store_wide_at : List T → Re (List T) T := fun ts => if ts.length = 2 then runF [] [] 2 S_Store_wide_at.1 ts else .bad
theorem q_Store_wide_at {t0 t1 : T} : p_Store_wide_at [t0, t1] = fin 2 (S_Store_wide_at.1 [.bor t0, .bor t1]) := q_of rfl rfl
theorem sp_Store_wide_at {K : PySem.W.Frag} : ∀ n, 2 ≤ n → SpF K (lev K es n ("Store", some "wide_at")) [] p_Store_wide_at := fun n hn => by
  obtain ⟨m, rfl⟩ : ∃ m, n = m + 1 := ⟨n - 1, by omega⟩
  exact spF_of (en := e_Store_wide_at) rfl fun W => S_Store_wide_at.2 K (lev K es m) W ((sp_is_whole m (by omega)).ro rfl)
abbrev c_Store_want_begin (K : PySem.W.Frag) (Ph : Ky → Sp) (W : WX) : Cn := cn0 fa xa sh K Ph N_Store_want_begin (d_Store_want_begin).scope W
noncomputable def S_Store_want_begin : {qs : Ev → Re Ev Fl // ∀ (K : PySem.W.Frag) (Ph : Ky → Sp) (W : WX), (SpR K (Ph ("Store", some "wide_at")) (roF p_Store_wide_at)) → SmS K W (D_Store_want_begin K Ph W).1 qs} := ⟨_, fun K Ph W r_Store_wide_at =>
   unS rfl (sm_last (sm_ifS ((sm_test ((sm_op o_f_eq ((sm_meth (c := (c_Store_want_begin K Ph W)) (C := "Store") (na := 1) (ks := []) (s := ⟨("Store", some "wide_at"), 2, [], [.pos 0, .pos 1]⟩) rfl rfl rfl r_Store_wide_at (sm_var 0) (sm_ar_cons (sm_var 1) sm_ar_nil) sm_ar_nil)).r (sm_int).r)).r)).e
    (sm_last (sm_raiseP (c := (c_Store_want_begin K Ph W))))
    sm_next))⟩
noncomputable def p_Store_want_begin : List T → Re (List T) T := fun ts => if ts.length = 2 then runF [] [] 2 S_Store_want_begin.1 ts else .bad
theorem q_Store_want_begin {t0 t1 : T} : p_Store_want_begin [t0, t1] = fin 2 (S_Store_want_begin.1 [.bor t0, .bor t1]) := q_of rfl rfl
theorem sp_Store_want_begin {K : PySem.W.Frag} : ∀ n, 3 ≤ n → SpF K (lev K es n ("Store", some "want_begin")) [] p_Store_want_begin := fun n hn => by
  obtain ⟨m, rfl⟩ : ∃ m, n = m + 1 := ⟨n - 1, by omega⟩
  exact spF_of (en := e_Store_want_begin) rfl fun W => S_Store_want_begin.2 K (lev K es m) W ((sp_Store_wide_at m (by omega)).ro rfl)
abbrev c_Store_clear_room (K : PySem.W.Frag) (Ph : Ky → Sp) (W : WX) : Cn := cn0 fa xa sh K Ph N_Store_clear_room (d_Store_clear_room).scope W
noncomputable def S_Store_clear_room : {qs : Ev → Re Ev Fl // ∀ (K : PySem.W.Frag) (Ph : Ky → Sp) (W : WX), SmS K W (D_Store_clear_room K Ph W).1 qs} := ⟨_, fun K Ph W  =>
   unS rfl (sm_seq (sm_asg (sm_altE (sm_bmE mtm_dpop (sm_plAttr (fa := fa) (sm_plVar 0)) (sm_af_cons (sm_var 1).f sm_af_nil)) (sm_bmE mtm_popAt (sm_plAttr (fa := fa) (sm_plVar 0)) (sm_af_cons (sm_var 1).f sm_af_nil))) (sm_gN 2))
   (sm_seq (sm_asg ((sm_sl (sm_attr (fa := fa) (sm_var 0)) (sm_some (sm_var 1)) (sm_some ((sm_op o_f_add (sm_var 1) (sm_var 2))).r))).e (sm_gN 3))
   (sm_seq (sm_for (sm_rng2 (sm_ar_cons (sm_var 1) (sm_ar_cons ((sm_op o_f_add (sm_var 1) (sm_var 2))).r sm_ar_nil))) (sm_gN 4)
   (sm_seq (sm_asg (sm_non).e (sm_gK (W := W) (sm_plAttr (fa := fa) (sm_plVar 0)) (sm_var 4)))
   (sm_last (sm_asg (sm_non).e (sm_gK (W := W) (sm_plAttr (fa := fa) (sm_plVar 0)) (sm_var 4))))))
   (sm_last (sm_ret (sm_mv 3))))))⟩
noncomputable def p_Store_clear_room : List T → Re (List T) T := fun ts => if ts.length = 2 then runF [true] [] 5 S_Store_clear_room.1 ts else .bad
theorem q_Store_clear_room {t0 t1 : T} : p_Store_clear_room [t0, t1] = fin 2 (S_Store_clear_room.1 [.par t0, .bor t1, .no, .no, .no]) := q_of rfl rfl
theorem sp_Store_clear_room {K : PySem.W.Frag} : ∀ n, 1 ≤ n → SpF K (lev K es n ("Store", some "clear_room")) [true] p_Store_clear_room := fun n hn => by
  obtain ⟨m, rfl⟩ : ∃ m, n = m + 1 := ⟨n - 1, by omega⟩
  exact spF_of (en := e_Store_clear_room) rfl fun W => S_Store_clear_room.2 K (lev K es m) W
abbrev c_Store_give (K : PySem.W.Frag) (Ph : Ky → Sp) (W : WX) : Cn := cn0 fa xa sh K Ph N_Store_give (d_Store_give).scope W
noncomputable def S_Store_give : {qs : Ev → Re Ev Fl // ∀ (K : PySem.W.Frag) (Ph : Ky → Sp) (W : WX), (SpF K (Ph ("Store", some "clear_room")) [true] p_Store_clear_room) → (SpR K (Ph ("Store", some "want_begin")) (roF p_Store_want_begin)) → SmS K W (D_Store_give K Ph W).1 qs} := ⟨_, fun K Ph W f_Store_clear_room r_Store_want_begin =>
   unS rfl (sm_seq (sm_drop ((sm_meth (c := (c_Store_give K Ph W)) (C := "Store") (na := 1) (ks := []) (s := ⟨("Store", some "want_begin"), 2, [], [.pos 0, .pos 1]⟩) rfl rfl rfl r_Store_want_begin (sm_var 0) (sm_ar_cons (sm_var 1) sm_ar_nil) sm_ar_nil)).e)
   (sm_last (sm_drop (sm_methVE (c := (c_Store_give K Ph W)) (C := "Store") (na := 1) (ks := []) (s := ⟨("Store", some "clear_room"), 2, [], [.pos 0, .pos 1]⟩) rfl rfl rfl f_Store_clear_room rfl ((sm_cf_plc (sm_plVar 1) sm_cf_nil)).e sm_cf_nil))))⟩
noncomputable def p_Store_give : List T → Re (List T) T := fun ts => if ts.length = 2 then runF [true] [] 2 S_Store_give.1 ts else .bad
theorem q_Store_give {t0 t1 : T} : p_Store_give [t0, t1] = fin 2 (S_Store_give.1 [.par t0, .bor t1]) := q_of rfl rfl
theorem sp_Store_give {K : PySem.W.Frag} : ∀ n, 4 ≤ n → SpF K (lev K es n ("Store", some "give")) [true] p_Store_give := fun n hn => by
  obtain ⟨m, rfl⟩ : ∃ m, n = m + 1 := ⟨n - 1, by omega⟩
  exact spF_of (en := e_Store_give) rfl fun W => S_Store_give.2 K (lev K es m) W (sp_Store_clear_room m (by omega)) ((sp_Store_want_begin m (by omega)).ro rfl)
abbrev c__law_filled (K : PySem.W.Frag) (Ph : Ky → Sp) (W : WX) : Cn := cn0 fa xa sh K Ph N__law_filled (d__law_filled).scope W
noncomputable def S__law_filled : {qs : Ev → Re Ev Fl // ∀ (K : PySem.W.Frag) (Ph : Ky → Sp) (W : WX), (SpF K (Ph ("Store", some "__init__")) [true] p_StoreU_initU) → (SpF K (Ph ("_law_draw", none)) [true] p__law_draw) → (SpF K (Ph ("Store", some "give")) [true] p_Store_give) → (SpR K (Ph ("_law_longest", none)) (roF p__law_longest)) → (SpR K (Ph ("_law_wide", none)) (roF p__law_wide)) → (SpF K (Ph ("Store", some "take")) [true] p_Store_take) → (SpR K (Ph ("Store", some "rooms")) (roF p_Store_rooms)) → SmS K W (D__law_filled K Ph W).1 qs} := ⟨_, fun K Ph W f_StoreU_initU f__law_draw f_Store_give r__law_longest r__law_wide f_Store_take r_Store_rooms =>
   unS rfl (sm_seq (sm_asg (sm_mkE (c := (c__law_filled K Ph W)) (na := 1) (ks := []) (s := ⟨("Store", some "__init__"), 2, [], [.pos 0, .pos 1]⟩) rfl rfl f_StoreU_initU rfl (sm_ae_cons (sm_opAE o_f_ix ((sm_lst (sm_af_cons sm_int (sm_af_cons sm_int (sm_af_cons sm_int (sm_af_cons sm_int (sm_af_cons sm_int (sm_af_cons sm_int (sm_af_cons sm_int sm_af_nil))))))))).e (sm_fnE (c := (c__law_filled K Ph W)) (na := 2) (ks := []) (s := ⟨("_law_draw", none), 2, [], [.pos 0, .pos 1]⟩) rfl f__law_draw rfl ((sm_cf_plc (sm_plVar 0) (sm_cf_val sm_int sm_cf_nil))).e sm_cf_nil)) sm_ae_nil) sm_ar_nil) (sm_gN 1))
   (sm_seq (sm_forE (sm_rng1E (sm_ae_cons (sm_fnE (c := (c__law_filled K Ph W)) (na := 2) (ks := []) (s := ⟨("_law_draw", none), 2, [], [.pos 0, .pos 1]⟩) rfl f__law_draw rfl ((sm_cf_plc (sm_plVar 0) (sm_cf_val sm_int sm_cf_nil))).e sm_cf_nil) sm_ae_nil)) (sm_gN 2)
   (sm_seq (sm_asg ((sm_meth (c := (c__law_filled K Ph W)) (C := "Store") (na := 0) (ks := []) (s := ⟨("Store", some "rooms"), 1, [], [.pos 0]⟩) rfl rfl rfl r_Store_rooms (sm_var 1) sm_ar_nil sm_ar_nil)).e (sm_gN 3))
   (sm_seq (sm_asg (sm_opE o_f_add (sm_int).e (sm_fnE (c := (c__law_filled K Ph W)) (na := 2) (ks := []) (s := ⟨("_law_draw", none), 2, [], [.pos 0, .pos 1]⟩) rfl f__law_draw rfl ((sm_cf_plc (sm_plVar 0) (sm_cf_val sm_int sm_cf_nil))).e sm_cf_nil)) (sm_gN 4))
   (sm_last (sm_ifS (sm_andE (sm_testE (sm_opE o_f_eq (sm_fnE (c := (c__law_filled K Ph W)) (na := 2) (ks := []) (s := ⟨("_law_draw", none), 2, [], [.pos 0, .pos 1]⟩) rfl f__law_draw rfl ((sm_cf_plc (sm_plVar 0) (sm_cf_val sm_int sm_cf_nil))).e sm_cf_nil) (sm_int).e)) ((sm_test ((sm_op o_f_ne (sm_var 3) ((sm_lst sm_af_nil)).r)).r)).e)
    (sm_last (sm_drop (sm_methVE (c := (c__law_filled K Ph W)) (C := "Store") (na := 1) (ks := []) (s := ⟨("Store", some "give"), 2, [], [.pos 0, .pos 1]⟩) rfl rfl rfl f_Store_give rfl (sm_ca_val (sm_opAE o_f_ix (sm_ixVE (sm_fnE (c := (c__law_filled K Ph W)) (na := 2) (ks := []) (s := ⟨("_law_draw", none), 2, [], [.pos 0, .pos 1]⟩) rfl f__law_draw rfl ((sm_cf_plc (sm_plVar 0) (sm_cf_val (sm_cb fn_len (sm_ar_cons (sm_var 3) sm_ar_nil)) sm_cf_nil))).e sm_cf_nil)) (sm_int).e) (sm_cf_nil).e) sm_cf_nil)))
    (sm_last (sm_ifS ((sm_test ((sm_op o_f_ge ((sm_fn (c := (c__law_filled K Ph W)) (na := 1) (ks := []) (s := ⟨("_law_longest", none), 1, [], [.pos 0]⟩) rfl r__law_longest (sm_ar_cons (sm_var 1) sm_ar_nil) sm_ar_nil)).r ((sm_fn (c := (c__law_filled K Ph W)) (na := 1) (ks := []) (s := ⟨("_law_wide", none), 1, [], [.pos 0]⟩) rfl r__law_wide (sm_ar_cons (sm_var 4) sm_ar_nil) sm_ar_nil)).r)).r)).e
    (sm_last (sm_drop (sm_methVE (c := (c__law_filled K Ph W)) (C := "Store") (na := 1) (ks := []) (s := ⟨("Store", some "take"), 2, [], [.pos 0, .pos 1]⟩) rfl rfl rfl f_Store_take rfl ((sm_cf_plc (sm_plVar 4) sm_cf_nil)).e sm_cf_nil)))
    sm_next)))))))
   (sm_last (sm_ret (sm_mv 1)))))⟩
noncomputable def p__law_filled : List T → Re (List T) T := fun ts => if ts.length = 1 then runF [true] [] 5 S__law_filled.1 ts else .bad
theorem q__law_filled {t0 : T} : p__law_filled [t0] = fin 1 (S__law_filled.1 [.par t0, .no, .no, .no, .no]) := q_of rfl rfl
theorem sp__law_filled {K : PySem.W.Frag} (t_WIDES : TabOk K "WIDES" [T.int 2, T.int 3, T.int 4, T.int 6, T.int 8, T.int 12, T.int 16, T.int 24, T.int 32]) : ∀ n, 5 ≤ n → SpF K (lev K es n ("_law_filled", none)) [true] p__law_filled := fun n hn => by
  obtain ⟨m, rfl⟩ : ∃ m, n = m + 1 := ⟨n - 1, by omega⟩
  exact spF_of (en := e__law_filled) rfl fun W => S__law_filled.2 K (lev K es m) W (sp_StoreU_initU m (by omega)) (sp__law_draw m (by omega)) (sp_Store_give m (by omega)) ((sp__law_longest m (by omega)).ro rfl) ((sp__law_wide m (by omega)).ro rfl) (sp_Store_take t_WIDES m (by omega)) ((sp_Store_rooms m (by omega)).ro rfl)
abbrev c__law_asked (K : PySem.W.Frag) (Ph : Ky → Sp) (W : WX) : Cn := cn0 fa xa sh K Ph N__law_asked (d__law_asked).scope W
noncomputable def S__law_asked : {qs : Ev → Re Ev Fl // ∀ (K : PySem.W.Frag) (Ph : Ky → Sp) (W : WX), (SpF K (Ph ("_law_draw", none)) [true] p__law_draw) → (SpF K (Ph ("lay", none)) [true] p_lay) → SmS K W (D__law_asked K Ph W).1 qs} := ⟨_, fun K Ph W f__law_draw f_lay =>
   unS rfl (sm_seq (sm_asg ((sm_lst (sm_af_cons sm_str sm_af_nil))).e (sm_gN 4))
   (sm_seq (sm_try (c := (c__law_asked K Ph W)) (xa := xa) rfl (by exact fun W => (sm_last (sm_ifS (sm_testE (sm_opE o_f_eq (sm_fnE (c := (c__law_asked K Ph W)) (na := 2) (ks := []) (s := ⟨("_law_draw", none), 2, [], [.pos 0, .pos 1]⟩) rfl f__law_draw rfl ((sm_cf_plc (sm_plVar 0) (sm_cf_val sm_int sm_cf_nil))).e sm_cf_nil) (sm_int).e))
    (sm_last (sm_drop (sm_bmVE (i := 4) mtm_append (sm_ae_cons (sm_fnE (c := (c__law_asked K Ph W)) (na := 3) (ks := []) (s := ⟨("lay", none), 3, [], [.pos 0, .pos 1, .pos 2]⟩) rfl f_lay rfl ((sm_cf_plc (sm_plVar 1) (sm_cf_plc (sm_plVar 2) (sm_cf_plc (sm_plVar 3) sm_cf_nil)))).e sm_cf_nil) sm_ae_nil))))
    (sm_last (sm_drop (sm_bmVE (i := 4) mtm_append (sm_ae_cons (sm_fnE (c := (c__law_asked K Ph W)) (na := 0) (ks := ["fields", "store", "number"]) (s := ⟨("lay", none), 0, ["fields", "store", "number"], [.kw 1, .kw 2, .kw 0]⟩) rfl f_lay rfl (sm_cf_nil).e (sm_cf_plc (sm_plVar 3) (sm_cf_plc (sm_plVar 1) (sm_cf_plc (sm_plVar 2) sm_cf_nil)))) sm_ae_nil)))))))
    (HdsT.cons (t := ⟨_, _, _⟩) rfl rfl (by intro a d x; dsimp only; exact (sm_seq (sm_asg ((sm_lst (sm_af_cons (sm_cb (fn_isX (c := (c__law_asked K Ph W).su a (.ref (He.ga K x.cls)) d) (xa := xa) (a := a) (d := d) (x := x) rfl rfl) (sm_ar_cons (sm_var 5) (sm_ar_cons (sm_glo).r sm_ar_nil))) (sm_af_cons (sm_cb (fn_isX (c := (c__law_asked K Ph W).su a (.ref (He.ga K x.cls)) d) (xa := xa) (a := a) (d := d) (x := x) rfl rfl) (sm_ar_cons (sm_var 5) (sm_ar_cons (sm_glo).r sm_ar_nil))) (sm_af_cons (sm_cb (fn_isX (c := (c__law_asked K Ph W).su a (.ref (He.ga K x.cls)) d) (xa := xa) (a := a) (d := d) (x := x) rfl rfl) (sm_ar_cons (sm_var 5) (sm_ar_cons (sm_glo).r sm_ar_nil))) sm_af_nil))))).e (sm_gN 6))
   (sm_seq (sm_asg ((sm_lst (sm_af_cons sm_str sm_af_nil))).e (sm_gN 4))
   (sm_seq (sm_ifS ((sm_and (sm_test ((sm_op o_f_eq ((sm_bm mt_countT (sm_var 6) (sm_ar_cons (sm_bl).r sm_ar_nil))).r (sm_int).r)).r) (sm_and (sm_tru ((sm_cb (fn_isX (c := (c__law_asked K Ph W).su a (.ref (He.ga K x.cls)) d) (xa := xa) (a := a) (d := d) (x := x) rfl rfl) (sm_ar_cons (sm_var 5) (sm_ar_cons ((sm_tup (sm_af_cons sm_glo (sm_af_cons sm_glo sm_af_nil)))).r sm_ar_nil)))).r) (sm_tru ((sm_cb (fn_isX (c := (c__law_asked K Ph W).su a (.ref (He.ga K x.cls)) d) (xa := xa) (a := a) (d := d) (x := x) rfl rfl) (sm_ar_cons (sm_var 5) (sm_ar_cons (sm_ty).r sm_ar_nil)))).r)))).e
    (sm_last (sm_asg ((sm_lst (sm_af_cons (sm_opA o_f_ix ((sm_lst (sm_af_cons sm_str (sm_af_cons sm_str (sm_af_cons sm_str sm_af_nil))))).r ((sm_bm mt_indexT (sm_var 6) (sm_ar_cons (sm_bl).r sm_ar_nil))).r).f sm_af_nil))).e (sm_gN 4)))
    sm_next)
   (sm_last (sm_ifS ((sm_test ((sm_op o_f_eq (sm_var 4) ((sm_lst (sm_af_cons sm_str sm_af_nil))).r)).r)).e
    (sm_last (sm_asg ((sm_op o_f_add (sm_var 4) ((sm_lst (sm_af_cons (sm_xf (c := (c__law_asked K Ph W).su a (.ref (He.ga K x.cls)) d) (xa := xa) (a := a) (d := d) (x := x) rfl rfl (sm_var 5)) (sm_af_cons (sm_xf (c := (c__law_asked K Ph W).su a (.ref (He.ga K x.cls)) d) (xa := xa) (a := a) (d := d) (x := x) rfl rfl (sm_var 5)) sm_af_nil)))).r)).e (sm_gN 4)))
    sm_next)))))) .nil))
   (sm_last (sm_ret (sm_mv 4)))))⟩
noncomputable def p__law_asked : List T → Re (List T) T := fun ts => if ts.length = 4 then runF [true, true] [] 7 S__law_asked.1 ts else .bad
theorem q__law_asked {t0 t1 t2 t3 : T} : p__law_asked [t0, t1, t2, t3] = fin 4 (S__law_asked.1 [.par t0, .par t1, .bor t2, .bor t3, .no, .no, .no]) := q_of rfl rfl
theorem sp__law_asked {K : PySem.W.Frag} (t_WIDES : TabOk K "WIDES" [T.int 2, T.int 3, T.int 4, T.int 6, T.int 8, T.int 12, T.int 16, T.int 24, T.int 32]) : ∀ n, 6 ≤ n → SpF K (lev K es n ("_law_asked", none)) [true, true] p__law_asked := fun n hn => by
  obtain ⟨m, rfl⟩ : ∃ m, n = m + 1 := ⟨n - 1, by omega⟩
  exact spF_of (en := e__law_asked) rfl fun W => S__law_asked.2 K (lev K es m) W (sp__law_draw m (by omega)) (sp_lay t_WIDES m (by omega))
abbrev c__law_no_label (K : PySem.W.Frag) (Ph : Ky → Sp) (W : WX) : Cn := cn0 fa xa sh K Ph N__law_no_label (d__law_no_label).scope W
noncomputable def S__law_no_label : {qs : Ev → Re Ev Fl // ∀ (K : PySem.W.Frag) (Ph : Ky → Sp) (W : WX), (SpF K (Ph ("_law_draw", none)) [true] p__law_draw) → SmS K W (D__law_no_label K Ph W).1 qs} := ⟨_, fun K Ph W f__law_draw =>
   unS rfl (sm_last (sm_ret (sm_opAE o_f_ix ((sm_lst (sm_af_cons sm_int (sm_af_cons (sm_un o_f_neg (sm_int).r) (sm_af_cons (sm_op o_f_pow (sm_int).r (sm_int).r) (sm_af_cons sm_bl (sm_af_cons sm_bl (sm_af_cons sm_non (sm_af_cons sm_str (sm_af_cons (sm_frzL (sm_af_cons sm_int sm_af_nil)) (sm_af_cons (sm_tup (sm_af_cons sm_int sm_af_nil)) (sm_af_cons sm_frzD (sm_af_cons (sm_un o_f_neg ((sm_op o_f_pow (sm_int).r (sm_int).r)).r) (sm_af_cons (sm_op o_f_pow (sm_int).r (sm_int).r) sm_af_nil)))))))))))))).e (sm_fnE (c := (c__law_no_label K Ph W)) (na := 2) (ks := []) (s := ⟨("_law_draw", none), 2, [], [.pos 0, .pos 1]⟩) rfl f__law_draw rfl ((sm_cf_plc (sm_plVar 0) (sm_cf_val sm_int sm_cf_nil))).e sm_cf_nil))))⟩
noncomputable def p__law_no_label : List T → Re (List T) T := fun ts => if ts.length = 1 then runF [true] [] 1 S__law_no_label.1 ts else .bad
theorem q__law_no_label {t0 : T} : p__law_no_label [t0] = fin 1 (S__law_no_label.1 [.par t0]) := q_of rfl rfl
theorem sp__law_no_label {K : PySem.W.Frag} : ∀ n, 2 ≤ n → SpF K (lev K es n ("_law_no_label", none)) [true] p__law_no_label := fun n hn => by
  obtain ⟨m, rfl⟩ : ∃ m, n = m + 1 := ⟨n - 1, by omega⟩
  exact spF_of (en := e__law_no_label) rfl fun W => S__law_no_label.2 K (lev K es m) W (sp__law_draw m (by omega))
abbrev c__law_no_amount (K : PySem.W.Frag) (Ph : Ky → Sp) (W : WX) : Cn := cn0 fa xa sh K Ph N__law_no_amount (d__law_no_amount).scope W
noncomputable def S__law_no_amount : {qs : Ev → Re Ev Fl // ∀ (K : PySem.W.Frag) (Ph : Ky → Sp) (W : WX), (SpF K (Ph ("_law_draw", none)) [true] p__law_draw) → SmS K W (D__law_no_amount K Ph W).1 qs} := ⟨_, fun K Ph W f__law_draw =>
   unS rfl (sm_last (sm_ret (sm_opAE o_f_ix ((sm_lst (sm_af_cons (sm_un o_f_neg (sm_int).r) (sm_af_cons sm_int (sm_af_cons sm_int (sm_af_cons sm_bl (sm_af_cons sm_bl (sm_af_cons sm_non (sm_af_cons sm_str (sm_af_cons (sm_frzL (sm_af_cons sm_int sm_af_nil)) (sm_af_cons (sm_tup (sm_af_cons sm_int sm_af_nil)) (sm_af_cons sm_frzD (sm_af_cons (sm_op o_f_pow (sm_int).r (sm_int).r) sm_af_nil))))))))))))).e (sm_fnE (c := (c__law_no_amount K Ph W)) (na := 2) (ks := []) (s := ⟨("_law_draw", none), 2, [], [.pos 0, .pos 1]⟩) rfl f__law_draw rfl ((sm_cf_plc (sm_plVar 0) (sm_cf_val sm_int sm_cf_nil))).e sm_cf_nil))))⟩
noncomputable def p__law_no_amount : List T → Re (List T) T := fun ts => if ts.length = 1 then runF [true] [] 1 S__law_no_amount.1 ts else .bad
theorem q__law_no_amount {t0 : T} : p__law_no_amount [t0] = fin 1 (S__law_no_amount.1 [.par t0]) := q_of rfl rfl
theorem sp__law_no_amount {K : PySem.W.Frag} : ∀ n, 2 ≤ n → SpF K (lev K es n ("_law_no_amount", none)) [true] p__law_no_amount := fun n hn => by
  obtain ⟨m, rfl⟩ : ∃ m, n = m + 1 := ⟨n - 1, by omega⟩
  exact spF_of (en := e__law_no_amount) rfl fun W => S__law_no_amount.2 K (lev K es m) W (sp__law_draw m (by omega))
abbrev c__law_good (K : PySem.W.Frag) (Ph : Ky → Sp) (W : WX) : Cn := cn0 fa xa sh K Ph N__law_good (d__law_good).scope W
noncomputable def S__law_good : {qs : Ev → Re Ev Fl // ∀ (K : PySem.W.Frag) (Ph : Ky → Sp) (W : WX), (SpR K (Ph ("_law_wide", none)) (roF p__law_wide)) → (SpR K (Ph ("_law_longest", none)) (roF p__law_longest)) → (SpF K (Ph ("Store", some "take")) [true] p_Store_take) → (SpF K (Ph ("Store", some "put")) [true] p_Store_put) → SmS K W (D__law_good K Ph W).1 qs} := ⟨_, fun K Ph W r__law_wide r__law_longest f_Store_take f_Store_put =>
   unS rfl (sm_seq (sm_asg ((sm_fn (c := (c__law_good K Ph W)) (na := 1) (ks := []) (s := ⟨("_law_wide", none), 1, [], [.pos 0]⟩) rfl r__law_wide (sm_ar_cons ((sm_op o_f_add (sm_var 2) (sm_int).r)).r sm_ar_nil) sm_ar_nil)).e (sm_gN 3))
   (sm_seq (sm_ifS ((sm_test ((sm_op o_f_lt ((sm_fn (c := (c__law_good K Ph W)) (na := 1) (ks := []) (s := ⟨("_law_longest", none), 1, [], [.pos 0]⟩) rfl r__law_longest (sm_ar_cons (sm_var 0) sm_ar_nil) sm_ar_nil)).r (sm_var 3))).r)).e
    (sm_seq (sm_asg ((sm_lst (sm_af_cons sm_str sm_af_nil))).e (sm_gN 4))
   (sm_seq (sm_try (c := (c__law_good K Ph W)) (xa := xa) rfl (by exact fun W => (sm_last (sm_drop (sm_methVE (c := (c__law_good K Ph W)) (C := "Store") (na := 1) (ks := []) (s := ⟨("Store", some "take"), 2, [], [.pos 0, .pos 1]⟩) rfl rfl rfl f_Store_take rfl ((sm_cf_val (sm_op o_f_add (sm_var 2) (sm_int).r) sm_cf_nil)).e sm_cf_nil))))
    (HdsT.cons (t := ⟨_, _, _⟩) rfl rfl (by intro a d x; dsimp only; exact (sm_last (sm_asg ((sm_lst (sm_af_cons sm_str (sm_af_cons (sm_xf (c := (c__law_good K Ph W).su a (.ref (He.ga K x.cls)) d) (xa := xa) (a := a) (d := d) (x := x) rfl rfl (sm_var 5)) (sm_af_cons (sm_xf (c := (c__law_good K Ph W).su a (.ref (He.ga K x.cls)) d) (xa := xa) (a := a) (d := d) (x := x) rfl rfl (sm_var 5)) sm_af_nil))))).e (sm_gN 4)))) .nil))
   (sm_last (sm_ret (sm_mv 4)))))
    sm_next)
   (sm_seq (sm_asg (sm_methVE (c := (c__law_good K Ph W)) (C := "Store") (na := 1) (ks := []) (s := ⟨("Store", some "take"), 2, [], [.pos 0, .pos 1]⟩) rfl rfl rfl f_Store_take rfl ((sm_cf_val (sm_op o_f_add (sm_var 2) (sm_int).r) sm_cf_nil)).e sm_cf_nil) (sm_gN 6))
   (sm_seq (sm_drop (sm_methVE (c := (c__law_good K Ph W)) (C := "Store") (na := 2) (ks := []) (s := ⟨("Store", some "put"), 3, [], [.pos 0, .pos 1, .pos 2]⟩) rfl rfl rfl f_Store_put rfl ((sm_cf_plc (sm_plVar 6) (sm_cf_val (sm_tup (sm_af_cons sm_str (sm_af_cons (sm_var 1).f (sm_af_cons (sm_var 2).f sm_af_nil)))) sm_cf_nil))).e sm_cf_nil))
   (sm_seq (sm_drop (sm_methVE (c := (c__law_good K Ph W)) (C := "Store") (na := 2) (ks := []) (s := ⟨("Store", some "put"), 3, [], [.pos 0, .pos 1, .pos 2]⟩) rfl rfl rfl f_Store_put rfl ((sm_cf_val (sm_op o_f_add (sm_var 6) (sm_int).r) (sm_cf_val sm_int sm_cf_nil))).e sm_cf_nil))
   (sm_last (sm_ret (sm_lstE (sm_ae_cons (sm_str).e (sm_ae_cons (sm_mv 6) sm_ae_nil))))))))))⟩
noncomputable def p__law_good : List T → Re (List T) T := fun ts => if ts.length = 3 then runF [true] [] 7 S__law_good.1 ts else .bad
theorem q__law_good {t0 t1 t2 : T} : p__law_good [t0, t1, t2] = fin 3 (S__law_good.1 [.par t0, .bor t1, .bor t2, .no, .no, .no, .no]) := q_of rfl rfl
theorem sp__law_good {K : PySem.W.Frag} (t_WIDES : TabOk K "WIDES" [T.int 2, T.int 3, T.int 4, T.int 6, T.int 8, T.int 12, T.int 16, T.int 24, T.int 32]) : ∀ n, 5 ≤ n → SpF K (lev K es n ("_law_good", none)) [true] p__law_good := fun n hn => by
  obtain ⟨m, rfl⟩ : ∃ m, n = m + 1 := ⟨n - 1, by omega⟩
  exact spF_of (en := e__law_good) rfl fun W => S__law_good.2 K (lev K es m) W ((sp__law_wide m (by omega)).ro rfl) ((sp__law_longest m (by omega)).ro rfl) (sp_Store_take t_WIDES m (by omega)) (sp_Store_put m (by omega))
abbrev c_Store_copied (K : PySem.W.Frag) (Ph : Ky → Sp) (W : WX) : Cn := cn0 fa xa sh K Ph N_Store_copied (d_Store_copied).scope W
noncomputable def S_Store_copied : {qs : Ev → Re Ev Fl // ∀ (K : PySem.W.Frag) (Ph : Ky → Sp) (W : WX), (SpF K (Ph ("Store", some "__init__")) [true] p_StoreU_initU) → SmS K W (D_Store_copied K Ph W).1 qs} := ⟨_, fun K Ph W f_StoreU_initU =>
   unS rfl (sm_seq (sm_asg ((sm_mk (c := (c_Store_copied K Ph W)) (na := 1) (ks := []) (s := ⟨("Store", some "__init__"), 2, [], [.pos 0, .pos 1]⟩) rfl rfl f_StoreU_initU rfl (sm_ar_cons (sm_attr (fa := fa) (sm_var 0)) sm_ar_nil) sm_ar_nil)).e (sm_gN 1))
   (sm_seq (sm_attrS (fa := fa) ((sm_cb fn_dict (sm_ar_cons (sm_attr (fa := fa) (sm_var 0)) sm_ar_nil))).e (sm_plVar 1))
   (sm_seq (sm_attrS (fa := fa) ((sm_cb fn_list (sm_ar_cons (sm_attr (fa := fa) (sm_var 0)) sm_ar_nil))).e (sm_plVar 1))
   (sm_seq (sm_attrS (fa := fa) ((sm_cb fn_list (sm_ar_cons (sm_attr (fa := fa) (sm_var 0)) sm_ar_nil))).e (sm_plVar 1))
   (sm_last (sm_ret (sm_mv 1)))))))⟩
noncomputable def p_Store_copied : List T → Re (List T) T := fun ts => if ts.length = 1 then runF [] [] 2 S_Store_copied.1 ts else .bad
theorem q_Store_copied {t0 : T} : p_Store_copied [t0] = fin 1 (S_Store_copied.1 [.bor t0, .no]) := q_of rfl rfl
theorem sp_Store_copied {K : PySem.W.Frag} : ∀ n, 3 ≤ n → SpF K (lev K es n ("Store", some "copied")) [] p_Store_copied := fun n hn => by
  obtain ⟨m, rfl⟩ : ∃ m, n = m + 1 := ⟨n - 1, by omega⟩
  exact spF_of (en := e_Store_copied) rfl fun W => S_Store_copied.2 K (lev K es m) W (sp_StoreU_initU m (by omega))
abbrev c__law_right (K : PySem.W.Frag) (Ph : Ky → Sp) (W : WX) : Cn := cn0 fa xa sh K Ph N__law_right (d__law_right).scope W
noncomputable def S__law_right : {qs : Ev → Re Ev Fl // ∀ (K : PySem.W.Frag) (Ph : Ky → Sp) (W : WX), (SpR K (Ph ("_law_shown", none)) (roF p__law_shown)) → (SpR K (Ph ("Store", some "copied")) (roF p_Store_copied)) → (SpF K (Ph ("_law_good", none)) [true] p__law_good) → (SpF K (Ph ("_law_asked", none)) [true, true] p__law_asked) → (SpR K (Ph ("_law_wide", none)) (roF p__law_wide)) → (SpR K (Ph ("Store", some "told")) (roF p_Store_told)) → (SpR K (Ph ("Store", some "rooms")) (roF p_Store_rooms)) → SmS K W (D__law_right K Ph W).1 qs} := ⟨_, fun K Ph W r__law_shown r_Store_copied f__law_good f__law_asked r__law_wide r_Store_told r_Store_rooms =>
   unS rfl (sm_seq (sm_asg ((sm_meth (c := (c__law_right K Ph W)) (C := "Store") (na := 0) (ks := []) (s := ⟨("Store", some "copied"), 1, [], [.pos 0]⟩) rfl rfl rfl r_Store_copied (sm_var 1) sm_ar_nil sm_ar_nil)).e (sm_gN 5))
   (sm_seq (sm_asg ((sm_fn (c := (c__law_right K Ph W)) (na := 1) (ks := []) (s := ⟨("_law_shown", none), 1, [], [.pos 0]⟩) rfl r__law_shown (sm_ar_cons (sm_var 1) sm_ar_nil) sm_ar_nil)).e (sm_gN 6))
   (sm_seq (sm_asg (sm_ifE ((sm_test ((sm_op o_f_in (sm_bl).r (sm_var 4))).r)).e ((sm_lst (sm_af_cons (sm_opA o_f_ix ((sm_lst (sm_af_cons sm_str (sm_af_cons sm_str sm_af_nil)))).r ((sm_bm mt_indexT (sm_var 4) (sm_ar_cons (sm_bl).r sm_ar_nil))).r).f sm_af_nil))).e (sm_fnE (c := (c__law_right K Ph W)) (na := 3) (ks := []) (s := ⟨("_law_good", none), 3, [], [.pos 0, .pos 1, .pos 2]⟩) rfl f__law_good rfl ((sm_cf_plc (sm_plVar 5) (sm_cf_plc (sm_plVar 2) (sm_cf_plc (sm_plVar 3) sm_cf_nil)))).e sm_cf_nil)) (sm_gN 7))
   (sm_seq (sm_ifS (sm_testE (sm_opE o_f_ne (sm_cbE fn_repr (sm_ae_cons (sm_fnE (c := (c__law_right K Ph W)) (na := 4) (ks := []) (s := ⟨("_law_asked", none), 4, [], [.pos 0, .pos 1, .pos 2, .pos 3]⟩) rfl f__law_asked rfl ((sm_cf_plc (sm_plVar 0) (sm_cf_plc (sm_plVar 1) (sm_cf_plc (sm_plVar 2) (sm_cf_plc (sm_plVar 3) sm_cf_nil))))).e sm_cf_nil) sm_ae_nil)) ((sm_cb fn_repr (sm_ar_cons (sm_var 7) sm_ar_nil))).e))
    (sm_last (sm_ret (sm_bl).e))
    sm_next)
   (sm_seq (sm_ifS ((sm_test ((sm_op o_f_ne (sm_opA o_f_ix (sm_var 7) (sm_int).r) (sm_str).r)).r)).e
    (sm_last (sm_ret ((sm_op o_f_eq ((sm_fn (c := (c__law_right K Ph W)) (na := 1) (ks := []) (s := ⟨("_law_shown", none), 1, [], [.pos 0]⟩) rfl r__law_shown (sm_ar_cons (sm_var 1) sm_ar_nil) sm_ar_nil)).r (sm_var 6))).e))
    sm_next)
   (sm_seq (sm_asg ((sm_fn (c := (c__law_right K Ph W)) (na := 1) (ks := []) (s := ⟨("_law_wide", none), 1, [], [.pos 0]⟩) rfl r__law_wide (sm_ar_cons ((sm_op o_f_add (sm_var 3) (sm_int).r)).r sm_ar_nil) sm_ar_nil)).e (sm_gN 8))
   (sm_seq (sm_asg ((sm_lc (sm_rng1 (sm_ar_cons (sm_var 8) sm_ar_nil)).r (sm_gR rfl) sm_yes (sm_meth (c := Cn.blk (c__law_right K Ph W) _) (C := "Store") (na := 1) (ks := []) (s := ⟨("Store", some "told"), 2, [], [.pos 0, .pos 1]⟩) rfl rfl rfl r_Store_told (sm_var 1) (sm_ar_cons ((sm_op o_f_add (sm_opA o_f_ix (sm_var 7) (sm_int).r) (sm_var 10))).r sm_ar_nil) sm_ar_nil))).e (sm_gN 9))
   (sm_seq (sm_ifS ((sm_or (sm_test ((sm_op o_f_ne ((sm_cb fn_repr (sm_ar_cons (sm_var 9) sm_ar_nil))).r ((sm_cb fn_repr (sm_ar_cons ((sm_op o_f_add ((sm_lst (sm_af_cons (sm_tup (sm_af_cons sm_str (sm_af_cons (sm_var 2).f (sm_af_cons (sm_var 3).f sm_af_nil)))) (sm_af_cons sm_int sm_af_nil)))).r ((sm_op o_f_mul ((sm_lst (sm_af_cons sm_non sm_af_nil))).r ((sm_op o_f_sub (sm_var 8) (sm_int).r)).r)).r)).r sm_ar_nil))).r)).r) (sm_test ((sm_op o_f_nin ((sm_tup (sm_af_cons (sm_opA o_f_ix (sm_var 7) (sm_int).r).f (sm_af_cons (sm_var 8).f sm_af_nil)))).r ((sm_meth (c := (c__law_right K Ph W)) (C := "Store") (na := 0) (ks := []) (s := ⟨("Store", some "rooms"), 1, [], [.pos 0]⟩) rfl rfl rfl r_Store_rooms (sm_var 1) sm_ar_nil sm_ar_nil)).r)).r))).e
    (sm_last (sm_ret (sm_bl).e))
    sm_next)
   (sm_last (sm_ret ((sm_op o_f_eq ((sm_fn (c := (c__law_right K Ph W)) (na := 1) (ks := []) (s := ⟨("_law_shown", none), 1, [], [.pos 0]⟩) rfl r__law_shown (sm_ar_cons (sm_var 1) sm_ar_nil) sm_ar_nil)).r ((sm_fn (c := (c__law_right K Ph W)) (na := 1) (ks := []) (s := ⟨("_law_shown", none), 1, [], [.pos 0]⟩) rfl r__law_shown (sm_ar_cons (sm_var 5) sm_ar_nil) sm_ar_nil)).r)).e))))))))))⟩
noncomputable def p__law_right : List T → Re (List T) T := fun ts => if ts.length = 5 then runF [true, true] [] 11 S__law_right.1 ts else .bad
theorem q__law_right {t0 t1 t2 t3 t4 : T} : p__law_right [t0, t1, t2, t3, t4] = fin 5 (S__law_right.1 [.par t0, .par t1, .bor t2, .bor t3, .bor t4, .no, .no, .no, .no, .no, .no]) := q_of rfl rfl
theorem sp__law_right {K : PySem.W.Frag} (t_WIDES : TabOk K "WIDES" [T.int 2, T.int 3, T.int 4, T.int 6, T.int 8, T.int 12, T.int 16, T.int 24, T.int 32]) : ∀ n, 7 ≤ n → SpF K (lev K es n ("_law_right", none)) [true, true] p__law_right := fun n hn => by
  obtain ⟨m, rfl⟩ : ∃ m, n = m + 1 := ⟨n - 1, by omega⟩
  exact spF_of (en := e__law_right) rfl fun W => S__law_right.2 K (lev K es m) W ((sp__law_shown m (by omega)).ro rfl) ((sp_Store_copied m (by omega)).ro rfl) (sp__law_good t_WIDES m (by omega)) (sp__law_asked t_WIDES m (by omega)) ((sp__law_wide m (by omega)).ro rfl) ((sp_Store_told m (by omega)).ro rfl) ((sp_Store_rooms m (by omega)).ro rfl)
abbrev c_law (K : PySem.W.Frag) (Ph : Ky → Sp) (W : WX) : Cn := cn0 fa xa sh K Ph N_law (d_law).scope W
noncomputable def S_law : {qs : Ev → Re Ev Fl // ∀ (K : PySem.W.Frag) (Ph : Ky → Sp) (W : WX), (SpF K (Ph ("_law_draw", none)) [true] p__law_draw) → (SpF K (Ph ("_law_right", none)) [true, true] p__law_right) → (SpF K (Ph ("_law_no_label", none)) [true] p__law_no_label) → (SpF K (Ph ("_law_no_amount", none)) [true] p__law_no_amount) → (SpR K (Ph ("_law_pot", none)) (roF p__law_pot)) → (SpR K (Ph ("_law_cell", none)) (roF p__law_cell)) → (SpF K (Ph ("_law_filled", none)) [true] p__law_filled) → SmS K W (D_law K Ph W).1 qs} := ⟨_, fun K Ph W f__law_draw f__law_right f__law_no_label f__law_no_amount r__law_pot r__law_cell f__law_filled =>
   unS rfl (sm_seq (sm_for (sm_rng1 (sm_ar_cons ((sm_cb fn_max2 (sm_ar_cons (sm_int).r (sm_ar_cons ((sm_cb fn_min2 (sm_ar_cons (sm_int).r (sm_ar_cons ((sm_cb fn_len (sm_ar_cons (sm_var 0) sm_ar_nil))).r sm_ar_nil)))).r sm_ar_nil)))).r sm_ar_nil)) (sm_gN 1)
   (sm_seq (sm_asg ((sm_fn (c := (c_law K Ph W)) (na := 1) (ks := []) (s := ⟨("_law_pot", none), 1, [], [.pos 0]⟩) rfl r__law_pot (sm_ar_cons ((sm_fn (c := (c_law K Ph W)) (na := 2) (ks := []) (s := ⟨("_law_cell", none), 2, [], [.pos 0, .pos 1]⟩) rfl r__law_cell (sm_ar_cons (sm_var 0) (sm_ar_cons (sm_var 1) sm_ar_nil)) sm_ar_nil)).r sm_ar_nil) sm_ar_nil)).e (sm_gN 2))
   (sm_seq (sm_asg (sm_fnE (c := (c_law K Ph W)) (na := 1) (ks := []) (s := ⟨("_law_filled", none), 1, [], [.pos 0]⟩) rfl f__law_filled rfl ((sm_cf_plc (sm_plVar 2) sm_cf_nil)).e sm_cf_nil) (sm_gN 3))
   (sm_last (sm_forE (sm_rng1E (sm_ae_cons (sm_opE o_f_add (sm_int).e (sm_fnE (c := (c_law K Ph W)) (na := 2) (ks := []) (s := ⟨("_law_draw", none), 2, [], [.pos 0, .pos 1]⟩) rfl f__law_draw rfl ((sm_cf_plc (sm_plVar 2) (sm_cf_val sm_int sm_cf_nil))).e sm_cf_nil)) sm_ae_nil)) (sm_gN 4)
   (sm_seq (sm_asg (sm_opAE o_f_ix (sm_lstE (sm_ae_cons (sm_int).e (sm_ae_cons (sm_opE o_f_add (sm_int).e (sm_fnE (c := (c_law K Ph W)) (na := 2) (ks := []) (s := ⟨("_law_draw", none), 2, [], [.pos 0, .pos 1]⟩) rfl f__law_draw rfl ((sm_cf_plc (sm_plVar 2) (sm_cf_val sm_int sm_cf_nil))).e sm_cf_nil)) (sm_ae_cons (sm_int).e sm_ae_nil)))) (sm_fnE (c := (c_law K Ph W)) (na := 2) (ks := []) (s := ⟨("_law_draw", none), 2, [], [.pos 0, .pos 1]⟩) rfl f__law_draw rfl ((sm_cf_plc (sm_plVar 2) (sm_cf_val sm_int sm_cf_nil))).e sm_cf_nil)) (sm_gN 5))
   (sm_seq (sm_asg (sm_opAE o_f_ix (sm_lstE (sm_ae_cons (sm_int).e (sm_ae_cons (sm_int).e (sm_ae_cons (sm_int).e (sm_ae_cons (sm_int).e (sm_ae_cons (sm_fnE (c := (c_law K Ph W)) (na := 2) (ks := []) (s := ⟨("_law_draw", none), 2, [], [.pos 0, .pos 1]⟩) rfl f__law_draw rfl ((sm_cf_plc (sm_plVar 2) (sm_cf_val sm_int sm_cf_nil))).e sm_cf_nil) (sm_ae_cons (sm_fnE (c := (c_law K Ph W)) (na := 2) (ks := []) (s := ⟨("_law_draw", none), 2, [], [.pos 0, .pos 1]⟩) rfl f__law_draw rfl ((sm_cf_plc (sm_plVar 2) (sm_cf_val sm_int sm_cf_nil))).e sm_cf_nil) sm_ae_nil))))))) (sm_fnE (c := (c_law K Ph W)) (na := 2) (ks := []) (s := ⟨("_law_draw", none), 2, [], [.pos 0, .pos 1]⟩) rfl f__law_draw rfl ((sm_cf_plc (sm_plVar 2) (sm_cf_val sm_int sm_cf_nil))).e sm_cf_nil)) (sm_gN 6))
   (sm_seq (sm_asg (sm_lstE (sm_ae_cons (sm_opE o_f_eq (sm_fnE (c := (c_law K Ph W)) (na := 2) (ks := []) (s := ⟨("_law_draw", none), 2, [], [.pos 0, .pos 1]⟩) rfl f__law_draw rfl ((sm_cf_plc (sm_plVar 2) (sm_cf_val sm_int sm_cf_nil))).e sm_cf_nil) (sm_int).e) (sm_ae_cons (sm_opE o_f_eq (sm_fnE (c := (c_law K Ph W)) (na := 2) (ks := []) (s := ⟨("_law_draw", none), 2, [], [.pos 0, .pos 1]⟩) rfl f__law_draw rfl ((sm_cf_plc (sm_plVar 2) (sm_cf_val sm_int sm_cf_nil))).e sm_cf_nil) (sm_int).e) sm_ae_nil))) (sm_gN 7))
   (sm_seq (sm_ifS ((sm_tru (sm_opA o_f_ix (sm_var 7) (sm_int).r))).e
    (sm_last (sm_asg (sm_fnE (c := (c_law K Ph W)) (na := 1) (ks := []) (s := ⟨("_law_no_label", none), 1, [], [.pos 0]⟩) rfl f__law_no_label rfl ((sm_cf_plc (sm_plVar 2) sm_cf_nil)).e sm_cf_nil) (sm_gN 5)))
    sm_next)
   (sm_seq (sm_ifS ((sm_tru (sm_opA o_f_ix (sm_var 7) (sm_int).r))).e
    (sm_last (sm_asg (sm_fnE (c := (c_law K Ph W)) (na := 1) (ks := []) (s := ⟨("_law_no_amount", none), 1, [], [.pos 0]⟩) rfl f__law_no_amount rfl ((sm_cf_plc (sm_plVar 2) sm_cf_nil)).e sm_cf_nil) (sm_gN 6)))
    sm_next)
   (sm_last (sm_ifS (sm_notE (sm_truE (sm_fnE (c := (c_law K Ph W)) (na := 5) (ks := []) (s := ⟨("_law_right", none), 5, [], [.pos 0, .pos 1, .pos 2, .pos 3, .pos 4]⟩) rfl f__law_right rfl ((sm_cf_plc (sm_plVar 2) (sm_cf_plc (sm_plVar 3) (sm_cf_plc (sm_plVar 5) (sm_cf_plc (sm_plVar 6) (sm_cf_plc (sm_plVar 7) sm_cf_nil)))))).e sm_cf_nil)))
    (sm_last (sm_ret (sm_bl).e))
    sm_next))))))))))))
   (sm_last (sm_ret (sm_bl).e)))⟩
noncomputable def p_law : List T → Re (List T) T := fun ts => if ts.length = 1 then runF [] [] 8 S_law.1 ts else .bad
theorem q_law {t0 : T} : p_law [t0] = fin 1 (S_law.1 [.bor t0, .no, .no, .no, .no, .no, .no, .no]) := q_of rfl rfl
theorem sp_law {K : PySem.W.Frag} (t_WIDES : TabOk K "WIDES" [T.int 2, T.int 3, T.int 4, T.int 6, T.int 8, T.int 12, T.int 16, T.int 24, T.int 32]) : ∀ n, 8 ≤ n → SpF K (lev K es n ("law", none)) [] p_law := fun n hn => by
  obtain ⟨m, rfl⟩ : ∃ m, n = m + 1 := ⟨n - 1, by omega⟩
  exact spF_of (en := e_law) rfl fun W => S_law.2 K (lev K es m) W (sp__law_draw m (by omega)) (sp__law_right t_WIDES m (by omega)) (sp__law_no_label m (by omega)) (sp__law_no_amount m (by omega)) ((sp__law_pot m (by omega)).ro rfl) ((sp__law_cell m (by omega)).ro rfl) (sp__law_filled t_WIDES m (by omega))
abbrev c_StoreU_eqU (K : PySem.W.Frag) (Ph : Ky → Sp) (W : WX) : Cn := cn0 fa xa sh K Ph N_StoreU_eqU (d_StoreU_eqU).scope W
noncomputable def S_StoreU_eqU : {qs : Ev → Re Ev Fl // ∀ (K : PySem.W.Frag) (Ph : Ky → Sp) (W : WX), SmS K W (D_StoreU_eqU K Ph W).1 qs} := ⟨_, fun K Ph W  =>
   unS rfl (sm_seq (sm_ifS ((sm_or (sm_not (sm_tru ((sm_cb fn_isi (sm_ar_cons (sm_var 1) (sm_ar_cons (sm_glo).r sm_ar_nil)))).r)) (sm_test ((sm_op o_f_ne (sm_attr (fa := fa) (sm_var 0)) (sm_attr (fa := fa) (sm_var 1)))).r))).e
    (sm_last (sm_ret (sm_bl).e))
    sm_next)
   (sm_last (sm_ret ((sm_andV (sm_op o_f_eq (sm_attr (fa := fa) (sm_var 0)) (sm_attr (fa := fa) (sm_var 1))) (sm_op o_f_eq (sm_attr (fa := fa) (sm_var 0)) (sm_attr (fa := fa) (sm_var 1))))).e)))⟩
noncomputable def p_StoreU_eqU : List T → Re (List T) T := fun ts => if ts.length = 2 then runF [] [] 2 S_StoreU_eqU.1 ts else .bad
theorem q_StoreU_eqU {t0 t1 : T} : p_StoreU_eqU [t0, t1] = fin 2 (S_StoreU_eqU.1 [.bor t0, .bor t1]) := q_of rfl rfl
theorem sp_StoreU_eqU {K : PySem.W.Frag} : ∀ n, 1 ≤ n → SpF K (lev K es n ("Store", some "__eq__")) [] p_StoreU_eqU := fun n hn => by
  obtain ⟨m, rfl⟩ : ∃ m, n = m + 1 := ⟨n - 1, by omega⟩
  exact spF_of (en := e_StoreU_eqU) rfl fun W => S_StoreU_eqU.2 K (lev K es m) W
abbrev c_StoreU_lenU (K : PySem.W.Frag) (Ph : Ky → Sp) (W : WX) : Cn := cn0 fa xa sh K Ph N_StoreU_lenU (d_StoreU_lenU).scope W
noncomputable def S_StoreU_lenU : {qs : Ev → Re Ev Fl // ∀ (K : PySem.W.Frag) (Ph : Ky → Sp) (W : WX), SmS K W (D_StoreU_lenU K Ph W).1 qs} := ⟨_, fun K Ph W  =>
   unS rfl (sm_last (sm_ret ((sm_cb fn_len (sm_ar_cons (sm_attr (fa := fa) (sm_var 0)) sm_ar_nil))).e))⟩
noncomputable def p_StoreU_lenU : List T → Re (List T) T := fun ts => if ts.length = 1 then runF [] [] 1 S_StoreU_lenU.1 ts else .bad
theorem q_StoreU_lenU {t0 : T} : p_StoreU_lenU [t0] = fin 1 (S_StoreU_lenU.1 [.bor t0]) := q_of rfl rfl
theorem sp_StoreU_lenU {K : PySem.W.Frag} : ∀ n, 1 ≤ n → SpF K (lev K es n ("Store", some "__len__")) [] p_StoreU_lenU := fun n hn => by
  obtain ⟨m, rfl⟩ : ∃ m, n = m + 1 := ⟨n - 1, by omega⟩
  exact spF_of (en := e_StoreU_lenU) rfl fun W => S_StoreU_lenU.2 K (lev K es m) W
abbrev c_Store_free (K : PySem.W.Frag) (Ph : Ky → Sp) (W : WX) : Cn := cn0 fa xa sh K Ph N_Store_free (d_Store_free).scope W
noncomputable def S_Store_free : {qs : Ev → Re Ev Fl // ∀ (K : PySem.W.Frag) (Ph : Ky → Sp) (W : WX), SmS K W (D_Store_free K Ph W).1 qs} := ⟨_, fun K Ph W  =>
   unS rfl (sm_last (sm_ret ((sm_op o_f_sub (sm_attr (fa := fa) (sm_var 0)) ((sm_sumV (sm_attr (fa := fa) (sm_var 0)))).r)).e))⟩
noncomputable def p_Store_free : List T → Re (List T) T := fun ts => if ts.length = 1 then runF [] [] 1 S_Store_free.1 ts else .bad
theorem q_Store_free {t0 : T} : p_Store_free [t0] = fin 1 (S_Store_free.1 [.bor t0]) := q_of rfl rfl
theorem sp_Store_free {K : PySem.W.Frag} : ∀ n, 1 ≤ n → SpF K (lev K es n ("Store", some "free")) [] p_Store_free := fun n hn => by
  obtain ⟨m, rfl⟩ : ∃ m, n = m + 1 := ⟨n - 1, by omega⟩
  exact spF_of (en := e_Store_free) rfl fun W => S_Store_free.2 K (lev K es m) W
abbrev c_Store_can_move (K : PySem.W.Frag) (Ph : Ky → Sp) (W : WX) : Cn := cn0 fa xa sh K Ph N_Store_can_move (d_Store_can_move).scope W
noncomputable def S_Store_can_move : {qs : Ev → Re Ev Fl // ∀ (K : PySem.W.Frag) (Ph : Ky → Sp) (W : WX), (SpR K (Ph ("_wall", none)) (roF p__wall)) → SmS K W (D_Store_can_move K Ph W).1 qs} := ⟨_, fun K Ph W r__wall =>
   unS rfl (sm_last (sm_drop ((sm_fn (c := (c_Store_can_move K Ph W)) (na := 1) (ks := []) (s := ⟨("_wall", none), 1, [], [.pos 0]⟩) rfl r__wall (sm_ar_cons (sm_int).r sm_ar_nil) sm_ar_nil)).e))⟩
noncomputable def p_Store_can_move : List T → Re (List T) T := fun ts => if ts.length = 3 then runF [] [] 3 S_Store_can_move.1 ts else .bad
theorem q_Store_can_move {t0 t1 t2 : T} : p_Store_can_move [t0, t1, t2] = fin 3 (S_Store_can_move.1 [.bor t0, .bor t1, .bor t2]) := q_of rfl rfl
theorem sp_Store_can_move {K : PySem.W.Frag} : ∀ n, 2 ≤ n → SpF K (lev K es n ("Store", some "can_move")) [] p_Store_can_move := fun n hn => by
  obtain ⟨m, rfl⟩ : ∃ m, n = m + 1 := ⟨n - 1, by omega⟩
  exact spF_of (en := e_Store_can_move) rfl fun W => S_Store_can_move.2 K (lev K es m) W ((sp__wall m (by omega)).ro rfl)
abbrev c_Store_move (K : PySem.W.Frag) (Ph : Ky → Sp) (W : WX) : Cn := cn0 fa xa sh K Ph N_Store_move (d_Store_move).scope W
noncomputable def S_Store_move : {qs : Ev → Re Ev Fl // ∀ (K : PySem.W.Frag) (Ph : Ky → Sp) (W : WX), (SpR K (Ph ("_wall", none)) (roF p__wall)) → SmS K W (D_Store_move K Ph W).1 qs} := ⟨_, fun K Ph W r__wall =>
   unS rfl (sm_last (sm_drop ((sm_fn (c := (c_Store_move K Ph W)) (na := 1) (ks := []) (s := ⟨("_wall", none), 1, [], [.pos 0]⟩) rfl r__wall (sm_ar_cons (sm_int).r sm_ar_nil) sm_ar_nil)).e))⟩
noncomputable def p_Store_move : List T → Re (List T) T := fun ts => if ts.length = 3 then runF [] [] 3 S_Store_move.1 ts else .bad
theorem q_Store_move {t0 t1 t2 : T} : p_Store_move [t0, t1, t2] = fin 3 (S_Store_move.1 [.bor t0, .bor t1, .bor t2]) := q_of rfl rfl
theorem sp_Store_move {K : PySem.W.Frag} : ∀ n, 2 ≤ n → SpF K (lev K es n ("Store", some "move")) [] p_Store_move := fun n hn => by
  obtain ⟨m, rfl⟩ : ∃ m, n = m + 1 := ⟨n - 1, by omega⟩
  exact spF_of (en := e_Store_move) rfl fun W => S_Store_move.2 K (lev K es m) W ((sp__wall m (by omega)).ro rfl)

end Hd
open Rw in
local macro_rules | `(tactic| walk_at "px") => `(tactic| try simp only [PX, x_methP, x_plAttr, x_attrS, x_methE, x_methVE, x_varP, x_cP, x_nilP, x_yesP, x_noneP, x_pnilP, x_cnilF, x_cnilE, x_plVar, x_cvarE, x_cplcF, x_setKV, x_callE, x_stp, x_rng1P, x_rng2P, x_rng1E, nx_ok, nx_bad, f_eq_str, f_eq_int, ix0, ix1, ix2, e_lt, e_le, e_gt, e_ge, e_add, e_sub, e_neg, e_isi, yn_int, yn_bl, yn_str, yn_non, yn_tup, yn_lst, yn_dct, z_int_int, z_int_bool, z_int_str, z_int_tuple, z_int_list, z_int_dict, z_bool_int, z_bool_bool, z_bool_str, z_bool_tuple, z_bool_list, z_bool_dict, z_str_int, z_str_bool, z_str_str, z_str_tuple, z_str_list, z_str_dict, z_NoneType_int, z_NoneType_bool, z_NoneType_str, z_NoneType_tuple, z_NoneType_list, z_NoneType_dict, z_tuple_int, z_tuple_bool, z_tuple_str, z_tuple_tuple, z_tuple_list, z_tuple_dict, z_list_int, z_list_bool, z_list_str, z_list_tuple, z_list_list, z_list_dict, z_dict_int, z_dict_bool, z_dict_str, z_dict_tuple, z_dict_list, z_dict_dict, e_lenl, e_lent, w_lst, w_tup, i_lst, i_tup, k_int, k_str, is_non, is_int, is_tup, is_str, isn_non, isn_int, isn_tup, it_lst, it_dct, it_ld, it_dl, fin_nx, fin_rt, fin_exc, outs0, outs1, outs2, outs3, outs4, outs5, rbok, ebok, rbbad, ebbad, upok, upbad, ofs, oes, List.getElem?_cons_zero, List.getElem?_cons_succ, t_bor, t_lnd, t_own, t_par, t_no, m_bor, m_lnd, m_own, m_par, m_no, u_own, u_par, p_bor, p_lnd, p_own, p_par, p_no, o_par, o_bor, o_own, o_no, tru_bl, im_int, im_non, im_bl, im_str, gP0, gPs, sP0, sPs, List.length_nil, List.length_cons, and_self, if_true, if_false, plugT, pickH, List.map, ntT0, ntTs, Nat.reduceLT, leS0, ltS0, leS1, ltS1, leS2, ltS2, leS3, ltS3, leS4, ltS4, leS5, ltS5, leS6, ltS6, leS7, ltS7, leS8, ltS8, leS9, ltS9, List.nil_append, List.cons_append, Bool.not_true, Bool.not_false, Bool.true_and, Bool.false_and, Bool.and_true, Bool.and_false, and_true, true_and, decide_true, Bool.false_eq_true, reduceIte, Nat.reduceAdd, treeAt, mineAt, setAt, Option.bind_some, Option.getD_some, Option.getD_none, Option.bind_none, Option.map_some, Option.isSome_some, List.set_cons_zero, List.set_cons_succ, takes, strips, backs, parL, newU, argT, borT, callP])

namespace Hd
open PySem PySem.Spec PyProof.Rows L2 Rw
abbrev Rms : Type := List (Int × Int)
def widOf (rs : Rms) (b : Int) : Int := ((rs.find? fun r => decide (r.1 = b)).map (·.2)).getD 0
theorem wid_of : ∀ {rs : Rms} {r : Int × Int}, (rs.map (·.1)).Nodup → r ∈ rs → widOf rs r.1 = r.2
  | x :: rs, r, nd, h => by
    rw [List.map_cons, List.nodup_cons] at nd
    unfold widOf
    rw [List.find?_cons]
    rcases List.mem_cons.mp h with e | h
    · subst e
      simp
    · have ne : ¬ x.1 = r.1 := fun e => nd.1 (by rw [e]; exact List.mem_map_of_mem h)
      have z := wid_of nd.2 h
      unfold widOf at z
      simp only [ne, decide_false]
      exact z
/-- sorted keys, their rooms -/
theorem sort_rows {rs : Rms} {ys : List Int} (nd : (rs.map (·.1)).Nodup) (hp : ys.Perm (rs.map (·.1))) : (ys.map fun b => (b, widOf rs b)).Perm rs := by
  have p := hp.map fun b => (b, widOf rs b)
  have e : (rs.map (·.1)).map (fun b => (b, widOf rs b)) = rs := by
    rw [List.map_map]
    conv => rhs; rw [← List.map_id rs]
    exact List.map_congr_left fun r hr => by
      show (r.1, widOf rs r.1) = r
      rw [wid_of nd hr]
  rw [e] at p
  exact p
theorem sort_keys {f : Int → Int} : ∀ ys : List Int, (ys.map fun b => (b, f b)).map (·.1) = ys
  | [] => rfl
  | y :: ys => by rw [List.map_cons, List.map_cons, sort_keys ys]
/-- the free stretches behind begin, of rising rooms -/
def gaps : Int → Rms → Rms
  | _, [] => []
  | b, r :: rs => (if r.1 > b then [(b, r.1 - b)] else []) ++ gaps (r.1 + r.2) rs
theorem gaps_len : ∀ (b : Int) (rs : Rms), (gaps b rs).length ≤ rs.length
  | _, [] => Nat.le_refl _
  | b, r :: rs => by
    unfold gaps
    have := gaps_len (r.1 + r.2) rs
    rw [List.length_append, List.length_cons]
    split <;> simp <;> omega
def gstep (st : Rms × Int) (r : Int × Int) : Rms × Int := (if r.1 > st.2 then st.1 ++ [(st.2, r.1 - st.2)] else st.1, r.1 + r.2)
theorem gfold : ∀ (rs : Rms) (acc : Rms) (b : Int), (rs.foldl gstep (acc, b)).1 = acc ++ gaps b rs
  | [], acc, b => (List.append_nil acc).symm
  | r :: rs, acc, b => by
    rw [List.foldl_cons]
    show (rs.foldl gstep (_, r.1 + r.2)).1 = _
    rw [gfold rs]
    show _ = acc ++ ((if r.1 > b then [(b, r.1 - b)] else []) ++ gaps (r.1 + r.2) rs)
    by_cases h : r.1 > b
    · rw [if_pos h, if_pos (show r.1 > (acc, b).2 from h), List.append_assoc]
    · rw [if_neg h, if_neg (show ¬ r.1 > (acc, b).2 from h), List.nil_append]
theorem gfold_take {rs : Rms} {k : Nat} {r : Int × Int} (h : rs[k]? = some r) {st : Rms × Int} : (rs.take (k + 1)).foldl gstep st = gstep ((rs.take k).foldl gstep st) r := by
  rw [List.take_add_one, h, List.foldl_append]
  rfl
theorem gfold_len : ∀ (rs : Rms) (st : Rms × Int), (rs.foldl gstep st).1.length ≤ st.1.length + rs.length
  | [], st => Nat.le_refl _
  | r :: rs, st => by
    rw [List.foldl_cons]
    have := gfold_len rs (gstep st r)
    have z : (gstep st r).1.length ≤ st.1.length + 1 := by
      unfold gstep
      dsimp only
      split <;> simp
    rw [List.length_cons]
    omega
/-! ### plain facts of rooms and stretches -/
def Rising : Int → Rms → Prop
  | _, [] => True
  | b, r :: rs => b ≤ r.1 ∧ Rising (r.1 + r.2) rs
/-- rooms as a store of N places may have them -/
structure RoomsOk (N : Int) (rs : Rms) : Prop where
  pos : ∀ r ∈ rs, 0 ≤ r.1 ∧ 0 < r.2 ∧ r.1 + r.2 ≤ N
  dis : rs.Pairwise fun r t => r.1 + r.2 ≤ t.1 ∨ t.1 + t.2 ≤ r.1
theorem RoomsOk.nodup {N : Int} {rs : Rms} (h : RoomsOk N rs) : (rs.map (·.1)).Nodup := by
  refine List.pairwise_map.mpr (h.dis.imp_of_mem fun {r t} hr ht d e => ?_)
  have p1 := h.pos r hr
  have p2 := h.pos t ht
  omega
theorem RoomsOk.perm {N : Int} {rs ss : Rms} (h : RoomsOk N rs) (p : ss.Perm rs) : RoomsOk N ss :=
  ⟨fun r hr => h.pos r (p.mem_iff.mp hr), (p.symm.pairwise_iff fun {r t} d => d.symm).mp h.dis⟩
theorem rising_of {N : Int} : ∀ {b : Int} {ss : Rms}, RoomsOk N ss → (ss.map (·.1)).Pairwise (· ≤ ·) → (∀ r ∈ ss, b ≤ r.1) → b ≤ N → Rising b (ss ++ [(N, 0)])
  | b, [], _, _, _, hb => ⟨hb, True.intro⟩
  | b, r :: ss, h, s, hb, hN => by
    rw [List.map_cons, List.pairwise_cons] at s
    have hd := List.pairwise_cons.mp h.dis
    have p := h.pos r List.mem_cons_self
    refine ⟨hb r List.mem_cons_self, rising_of ⟨fun t ht => h.pos t (List.mem_cons_of_mem _ ht), hd.2⟩ s.2 (fun t ht => ?_) p.2.2⟩
    have d := hd.1 t ht
    have l := s.1 t.1 (List.mem_map_of_mem ht)
    have pt := h.pos t (List.mem_cons_of_mem _ ht)
    omega
theorem gaps_in {N : Int} : ∀ {b : Int} {ss : Rms} {g : Int × Int}, Rising b (ss ++ [(N, 0)]) → (∀ r ∈ ss, 0 < r.2) → g ∈ gaps b (ss ++ [(N, 0)]) → b ≤ g.1 ∧ 0 < g.2 ∧ g.1 + g.2 ≤ N ∧ ∀ r ∈ ss, r.1 + r.2 ≤ g.1 ∨ g.1 + g.2 ≤ r.1
  | b, [], g, h, _, hg => by
    have h1 : b ≤ N := h.1
    simp only [List.nil_append, gaps, List.append_nil] at hg
    split at hg
    · obtain rfl := List.mem_singleton.mp hg
      exact ⟨Int.le_refl _, by omega, by omega, fun r hr => (List.not_mem_nil hr).elim⟩
    · exact (List.not_mem_nil hg).elim
  | b, r :: ss, g, h, hp, hg => by
    have h1 : b ≤ r.1 := h.1
    have h2 : Rising (r.1 + r.2) (ss ++ [(N, 0)]) := h.2
    have pr := hp r List.mem_cons_self
    have hN : r.1 + r.2 ≤ N ∧ ∀ t ∈ ss, r.1 + r.2 ≤ t.1 := by
      clear hg h
      generalize r.1 + r.2 = c at h2
      have hp' : ∀ t ∈ ss, 0 < t.2 := fun t ht => hp t (List.mem_cons_of_mem _ ht)
      clear hp pr h1
      induction ss generalizing c with
      | nil => exact ⟨h2.1, fun t ht => (List.not_mem_nil ht).elim⟩
      | cons x xs ih =>
        obtain ⟨i1, i2⟩ := ih (c := x.1 + x.2) h2.2 fun t ht => hp' t (List.mem_cons_of_mem _ ht)
        have c1 : c ≤ x.1 := h2.1
        have px := hp' x List.mem_cons_self
        refine ⟨by omega, fun t ht => ?_⟩
        rcases List.mem_cons.mp ht with e | ht
        · rw [e]
          exact c1
        · have := i2 t ht
          omega
    have hg : g ∈ (if r.1 > b then [(b, r.1 - b)] else []) ++ gaps (r.1 + r.2) (ss ++ [(N, 0)]) := hg
    rcases List.mem_append.mp hg with hg | hg
    · split at hg
      · obtain rfl := List.mem_singleton.mp hg
        refine ⟨Int.le_refl _, by omega, by omega, fun t ht => ?_⟩
        rcases List.mem_cons.mp ht with e | ht
        · rw [e]
          right
          show b + (r.1 - b) ≤ r.1
          omega
        · have := hN.2 t ht
          right
          show b + (r.1 - b) ≤ t.1
          omega
      · exact (List.not_mem_nil hg).elim
    · obtain ⟨i1, i2, i3, i4⟩ := gaps_in h2 (fun t ht => hp t (List.mem_cons_of_mem _ ht)) hg
      refine ⟨by omega, i2, i3, fun t ht => ?_⟩
      rcases List.mem_cons.mp ht with e | ht
      · rw [e]
        exact .inl i1
      · exact i4 t ht
theorem gaps_sum {N : Int} : ∀ {b : Int} {ss : Rms}, Rising b (ss ++ [(N, 0)]) → ((gaps b (ss ++ [(N, 0)])).map (·.2)).sum + (ss.map (·.2)).sum = N - b
  | b, [], h => by
    have h1 : b ≤ N := h.1
    simp only [List.nil_append, gaps, List.append_nil, List.map_nil, List.sum_nil]
    split
    · simp
    · simp
      omega
  | b, r :: ss, h => by
    have h1 : b ≤ r.1 := h.1
    have i := gaps_sum (b := r.1 + r.2) (ss := ss) h.2
    show (((if r.1 > b then [(b, r.1 - b)] else []) ++ gaps (r.1 + r.2) (ss ++ [(N, 0)])).map (·.2)).sum + _ = _
    rw [List.map_append, List.sum_append, List.map_cons, List.sum_cons]
    split
    · simp only [List.map_cons, List.map_nil, List.sum_cons, List.sum_nil]
      omega
    · simp only [List.map_nil, List.sum_nil]
      omega
/-! ### as trees -/
def kT (rs : Rms) : List (Key × T) := rs.map fun r => (Sum.inl r.1, T.int r.2)
theorem kT_keys {rs : Rms} : (kT rs).map (·.1) = (rs.map (·.1)).map Sum.inl := by
  unfold kT
  rw [List.map_map, List.map_map]
  rfl
theorem kInts_map : ∀ ns : List Int, kInts (ns.map Sum.inl) = some ns
  | [] => rfl
  | n :: ns => by
    rw [List.map_cons]
    show (kInts _).map _ = _
    rw [kInts_map ns]
    rfl
theorem kT_val {rs : Rms} {b : Int} (h : b ∈ rs.map (·.1)) : val (kT rs) (.inl b) = some (.int (widOf rs b)) := by
  induction rs with
  | nil => cases h
  | cons x rs ih =>
    unfold kT val widOf at *
    rw [List.map_cons, List.find?_cons, List.find?_cons]
    by_cases e : x.1 = b
    · subst e
      simp
    · have e' : ¬ (Sum.inl x.1 : Key) = Sum.inl b := fun z => e (Sum.inl.inj z)
      simp only [e, e', decide_false]
      refine ih ?_
      rcases List.mem_cons.mp h with z | z
      · exact absurd z.symm e
      · exact z
theorem kT_no {rs : Rms} {b : Int} (h : b ∉ rs.map (·.1)) : val (kT rs) (.inl b) = none := by
  unfold val
  rw [List.find?_eq_none.mpr]
  · rfl
  · intro x hx z
    obtain ⟨r, hr, rfl⟩ := List.mem_map.mp hx
    have z := of_decide_eq_true z
    exact h (by rw [← Sum.inl.inj z]; exact List.mem_map_of_mem hr)
def srt (rs : Rms) : Rms := (isort (rs.map (·.1))).map fun b => (b, widOf rs b)
theorem srt_perm {rs : Rms} (nd : (rs.map (·.1)).Nodup) : (srt rs).Perm rs := sort_rows nd (isort_perm _)
theorem srt_le (rs : Rms) : ((srt rs).map (·.1)).Pairwise (· ≤ ·) := by
  unfold srt
  rw [sort_keys]
  exact isort_le _
def rowsT (ss : Rms) : List T := ss.map fun r => .tup [.int r.1, .int r.2]
theorem lcGo_fm {step : T → Rs (Option T)} {g : T → Option T} : ∀ {xs : List T}, (∀ x ∈ xs, step x = .ok (g x)) → lcGo step xs = .ok (xs.filterMap g)
  | [], _ => rfl
  | x :: xs, h => by
    unfold lcGo
    rw [h x List.mem_cons_self, lcGo_fm (fun y hy => h y (List.mem_cons_of_mem _ hy)), rbok, rbok, List.filterMap_cons]
    cases g x <;> rfl
theorem lcGo_map {step : T → Rs (Option T)} {g : T → T} {xs : List T} (h : ∀ x ∈ xs, step x = .ok (some (g x))) : lcGo step xs = .ok (xs.map g) := by
  rw [lcGo_fm h, List.filterMap_eq_map']
theorem rowsT_app {a b : Rms} : rowsT (a ++ b) = rowsT a ++ rowsT b := List.map_append
theorem rowsT_len {a : Rms} : (rowsT a).length = a.length := List.length_map _
theorem rowsT_at {a : Rms} {k : Nat} {x : T} (h : (rowsT a)[k]? = some x) : ∃ r, a[k]? = some r ∧ x = .tup [.int r.1, .int r.2] := by
  unfold rowsT at h
  rw [List.getElem?_map] at h
  obtain ⟨r, h1, h2⟩ := Option.map_eq_some_iff.mp h
  exact ⟨r, h1, h2.symm⟩
theorem rowsT_im (a : Rms) : T.imL (rowsT a) = true := by
  induction a with
  | nil => rfl
  | cons r a ih =>
    show ((T.tup [.int r.1, .int r.2]).im && T.imL (rowsT a)) = true
    rw [ih]
    rfl
end Hd

namespace Hd
open PySem PySem.Spec PyProof.Rows L2 Rw
def stT (N : Int) (w : List (Key × T)) (b c : List T) : T := .ins "Store" [("many_places", .int N), ("wide_by_begin", .dct w), ("begin_at", .lst b), ("cell_at", .lst c)]
section
variable {N : Int} {w : List (Key × T)} {b c : List T}
theorem fN : fieldF "many_places" (stT N w b c) = some (.int N) := rfl
theorem fW : fieldF "wide_by_begin" (stT N w b c) = some (.dct w) := rfl
theorem fB : fieldF "begin_at" (stT N w b c) = some (.lst b) := rfl
theorem fC : fieldF "cell_at" (stT N w b c) = some (.lst c) := rfl
theorem gN : getS (stT N w b c) (.fld "many_places") = some (.int N) := rfl
theorem gW : getS (stT N w b c) (.fld "wide_by_begin") = some (.dct w) := rfl
theorem gB : getS (stT N w b c) (.fld "begin_at") = some (.lst b) := rfl
theorem gC : getS (stT N w b c) (.fld "cell_at") = some (.lst c) := rfl
theorem uW {w'} : setS (stT N w b c) (.fld "wide_by_begin") (.dct w') = stT N w' b c := rfl
theorem uB {b'} : setS (stT N w b c) (.fld "begin_at") (.lst b') = stT N w b' c := rfl
theorem uC {c'} : setS (stT N w b c) (.fld "cell_at") (.lst c') = stT N w b c' := rfl
theorem aN : isInsOf (attrOk fa "many_places") (stT N w b c) = true := by show attrOk fa "many_places" "Store" = true; decide +kernel
theorem aW : isInsOf (attrOk fa "wide_by_begin") (stT N w b c) = true := by show attrOk fa "wide_by_begin" "Store" = true; decide +kernel
theorem aB : isInsOf (attrOk fa "begin_at") (stT N w b c) = true := by show attrOk fa "begin_at" "Store" = true; decide +kernel
theorem aC : isInsOf (attrOk fa "cell_at") (stT N w b c) = true := by show attrOk fa "cell_at" "Store" = true; decide +kernel
theorem is_whole_int {i : Int} : roF p_is_whole [.int i] = .ok (.bl true) := rfl
theorem ty_dct {w} : T.isTy "dict" (.dct w) = true := rfl
theorem mth (m : Str) (h : ("many_places" : Str) ≠ m ∧ ("wide_by_begin" : Str) ≠ m ∧ ("begin_at" : Str) ≠ m ∧ ("cell_at" : Str) ≠ m) : isMth "Store" m (stT N w b c) = true := by
  unfold isMth stT
  refine decide_eq_true ⟨rfl, ?_⟩
  rw [lk_cons, if_neg h.1.symm, lk_cons, if_neg h.2.1.symm, lk_cons, if_neg h.2.2.1.symm, lk_cons, if_neg h.2.2.2.symm]
  rfl
theorem fewS : fewF (stT N w b c) = true := rfl
theorem m_rooms : isMth "Store" "rooms" (stT N w b c) = true := mth _ (by decide)
theorem m_stretches : isMth "Store" "stretches" (stT N w b c) = true := mth _ (by decide)
theorem m_wide_at : isMth "Store" "wide_at" (stT N w b c) = true := mth _ (by decide)
theorem m_told : isMth "Store" "told" (stT N w b c) = true := mth _ (by decide)
theorem m_put : isMth "Store" "put" (stT N w b c) = true := mth _ (by decide)
theorem m_take : isMth "Store" "take" (stT N w b c) = true := mth _ (by decide)
theorem m_give : isMth "Store" "give" (stT N w b c) = true := mth _ (by decide)
theorem m_move : isMth "Store" "move" (stT N w b c) = true := mth _ (by decide)
theorem m_can_move : isMth "Store" "can_move" (stT N w b c) = true := mth _ (by decide)
theorem m_want_begin : isMth "Store" "want_begin" (stT N w b c) = true := mth _ (by decide)
theorem m_clear_room : isMth "Store" "clear_room" (stT N w b c) = true := mth _ (by decide)
theorem m_lay_room : isMth "Store" "lay_room" (stT N w b c) = true := mth _ (by decide)
theorem m_is_place : isMth "Store" "is_place" (stT N w b c) = true := mth _ (by decide)
theorem wide_at_of {i : Int} {t : T} (h : (val w (.inl i)).getD (.int 0) = t) (im : t.im = true) : p_Store_wide_at [stT N w b c, .int i] = .ok t [.any, .any] := by
  rw [q_Store_wide_at]
  unfold S_Store_wide_at
  walk_at "px"
  try simp only [is_whole_int]
  walk_at "px"
  try simp only [fW, aW, T.isTy, beq_self_eq_true]
  walk_at "px"
  try simp only [q_get, T.key, Option.bind_some]
  subst h
  cases e : val w (.inl i) with
  | none =>
    try simp only [T.im]
    walk_at "px"
    all_goals rfl
  | some x =>
    rw [e] at im
    have im : x.im = true := im
    try simp only [im]
    walk_at "px"
    all_goals rfl
theorem sizeLine_big {n : Nat} (h : n < 100000) : n < sizeLine := by rw [sizeLine_eq]; omega
theorem rooms_eq {rs : Rms} (nd : (rs.map (·.1)).Nodup) (hz : rs.length < 100000) : p_Store_rooms [stT N (kT rs) b c] = .ok (.lst (rowsT (srt rs))) [.any] := by
  rw [q_Store_rooms]
  unfold S_Store_rooms
  walk_at "px"
  try simp only [fW, aW]
  walk_at "px"
  have e : q_sorted [.dct (kT rs)] = some (.lst ((isort (rs.map (·.1))).map T.int)) := by
    show Option.map _ (kInts ((kT rs).map (·.1))) = _
    rw [kT_keys, kInts_map]
    rfl
  rw [e]
  walk_at "px"
  try simp only [T.walk, T.items]
  walk_at "px"
  rw [lcGo_map (g := fun t => match t with | .int b => .tup [.int b, .int (widOf rs b)] | _ => .any)]
  · simp only [noX, rbok]
    have hl : ((isort (rs.map (·.1))).map T.int).length < sizeLine := by
      rw [List.length_map, (isort_perm _).length_eq, List.length_map]
      exact sizeLine_big hz
    rw [if_pos hl]
    walk_at "px"
    unfold rowsT srt
    rw [List.map_map, List.map_map]
    rfl
  · intro x hx
    obtain ⟨i, hi, rfl⟩ := List.mem_map.mp hx
    have hb : i ∈ rs.map (·.1) := (isort_perm _).mem_iff.mp hi
    unfold lcStep
    try simp only [PX, wipeE, List.set, List.length_cons, List.length_nil]
    walk_at "px"
    try simp only [fW, aW, f_ix, T.key, Option.bind_some]
    walk_at "px"
    rw [kT_val hb]
    walk_at "px"
theorem rooms_ro {rs : Rms} (nd : (rs.map (·.1)).Nodup) (hz : rs.length < 100000) : roF p_Store_rooms [stT N (kT rs) b c] = .ok (.lst (rowsT (srt rs))) := roF_ok (rooms_eq nd hz)
theorem stretches_eq {rs : Rms} (nd : (rs.map (·.1)).Nodup) (hz : rs.length < 90000) : p_Store_stretches [stT N (kT rs) b c] = .ok (.lst (rowsT (gaps 0 (srt rs ++ [(N, 0)])))) [.any] := by
  rw [q_Store_stretches]
  unfold S_Store_stretches
  walk_at "px"
  try simp only [m_rooms]
  walk_at "px"
  try simp only [rooms_ro nd (Nat.lt_trans hz (by decide)), fN, aN]
  walk_at "px"
  have hl : (srt rs).length = rs.length := by
    unfold srt
    rw [List.length_map, (isort_perm _).length_eq, List.length_map]
  rw [f_add_lst (rowsT_im _) rfl (by rw [rowsT_len, hl]; exact Nat.le_of_lt (sizeLine_big (by simp; omega)))]
  rw [show rowsT (srt rs) ++ [T.tup [T.int N, T.int 0]] = rowsT (srt rs ++ [(N, 0)]) by rw [rowsT_app]; rfl]
  walk_at "px"
  try simp only [T.walk, T.items]
  walk_at "px"
  rw [if_pos (rowsT_im _)]
  have hl2 : (srt rs ++ [(N, 0)]).length < 90001 := by rw [List.length_append, hl]; simp; omega
  generalize srt rs ++ [(N, 0)] = ss at *
  generalize hz : forGo _ _ _ _ = z
  obtain ⟨τ', rfl, x, y, rfl, px, py⟩ := for_res hz (fun k τ => ∃ x y : Sl, τ = [Sl.bor (stT N (kT rs) b c), .own (.lst (rowsT ((ss.take k).foldl gstep ([], 0)).1)), .own (.int ((ss.take k).foldl gstep ([], 0)).2), x, y] ∧ x.isPar = false ∧ y.isPar = false) ⟨_, _, rfl, rfl, rfl⟩ fun k t τ hk hI => by
    obtain ⟨r, hr, rfl⟩ := rowsT_at hk
    obtain ⟨x, y, rfl, px, py⟩ := hI
    rw [gfold_take hr]
    have hn := gfold_len (ss.take k) ([], 0)
    have hn2 : (ss.take k).length ≤ ss.length := List.length_take_le' _ _
    generalize ((ss.take k).foldl gstep ([], 0)) = st at *
    have hn3 : (rowsT st.1).length < sizeLine := by rw [rowsT_len]; exact sizeLine_big (by simp at hn; omega)
    walk_at "px"
    try simp only [T.items]
    walk_at "px"
    try simp only [px]
    walk_at "px"
    try simp only [py, f_gt, f_ib]
    walk_at "px"
    by_cases h : r.1 > st.2
    · have e : gstep st r = (st.1 ++ [(st.2, r.1 - st.2)], r.1 + r.2) := by unfold gstep; rw [if_pos h]
      rw [e]
      have h' : st.2 < r.1 := h
      try simp only [h', decide_true]
      walk_at "px"
      try simp only [f_sub, f_ii, T.isTy, beq_self_eq_true, if_true]
      walk_at "px"
      try simp only [q_append, hn3]
      walk_at "px"
      try simp only [f_add]
      walk_at "px"
      refine ⟨_, rfl, .own (.int r.1), .own (.int r.2), ?_, rfl, rfl⟩
      rw [rowsT_app]
      rfl
    · have e : gstep st r = (st.1, r.1 + r.2) := by unfold gstep; rw [if_neg h]
      rw [e]
      have h' : ¬ st.2 < r.1 := h
      try simp only [h', decide_false]
      walk_at "px"
      try simp only [f_add]
      walk_at "px"
      exact ⟨_, rfl, _, _, rfl, rfl, rfl⟩
  rw [rowsT_len, List.take_length, gfold, List.nil_append]
  walk_at "px"
  try simp only [T.im]
  walk_at "px"
end
end Hd

open Rw in
local macro_rules | `(tactic| walk_at "ps") => `(tactic| try simp only [PX, Hd.fN, Hd.fW, Hd.fB, Hd.fC, Hd.gN, Hd.gW, Hd.gB, Hd.gC, Hd.uW, Hd.uB, Hd.uC, Hd.aN, Hd.aW, Hd.aB, Hd.aC, Hd.fewS, Hd.m_rooms, Hd.m_stretches, Hd.m_wide_at, Hd.m_told, Hd.m_put, Hd.m_take, Hd.m_give, Hd.m_move, Hd.m_can_move, Hd.m_want_begin, Hd.m_clear_room, Hd.m_lay_room, Hd.m_is_place, Hd.is_whole_int, x_methP, x_plAttr, x_attrS, x_methE, x_methVE, x_varP, x_cP, x_nilP, x_yesP, x_noneP, x_pnilP, x_cnilF, x_cnilE, x_plVar, x_cvarE, x_cplcF, x_setKV, x_callE, x_stp, x_rng1P, x_rng2P, x_rng1E, nx_ok, nx_bad, f_eq_str, f_eq_int, ix0, ix1, ix2, e_lt, e_le, e_gt, e_ge, e_add, e_sub, e_neg, e_isi, yn_int, yn_bl, yn_str, yn_non, yn_tup, yn_lst, yn_dct, z_int_int, z_int_bool, z_int_str, z_int_tuple, z_int_list, z_int_dict, z_bool_int, z_bool_bool, z_bool_str, z_bool_tuple, z_bool_list, z_bool_dict, z_str_int, z_str_bool, z_str_str, z_str_tuple, z_str_list, z_str_dict, z_NoneType_int, z_NoneType_bool, z_NoneType_str, z_NoneType_tuple, z_NoneType_list, z_NoneType_dict, z_tuple_int, z_tuple_bool, z_tuple_str, z_tuple_tuple, z_tuple_list, z_tuple_dict, z_list_int, z_list_bool, z_list_str, z_list_tuple, z_list_list, z_list_dict, z_dict_int, z_dict_bool, z_dict_str, z_dict_tuple, z_dict_list, z_dict_dict, e_lenl, e_lent, w_lst, w_tup, i_lst, i_tup, k_int, k_str, is_non, is_int, is_tup, is_str, isn_non, isn_int, isn_tup, it_lst, it_dct, it_ld, it_dl, fin_nx, fin_rt, fin_exc, outs0, outs1, outs2, outs3, outs4, outs5, rbok, ebok, rbbad, ebbad, upok, upbad, ofs, oes, List.getElem?_cons_zero, List.getElem?_cons_succ, t_bor, t_lnd, t_own, t_par, t_no, m_bor, m_lnd, m_own, m_par, m_no, u_own, u_par, p_bor, p_lnd, p_own, p_par, p_no, o_par, o_bor, o_own, o_no, tru_bl, im_int, im_non, im_bl, im_str, gP0, gPs, sP0, sPs, List.length_nil, List.length_cons, and_self, if_true, if_false, plugT, pickH, List.map, ntT0, ntTs, Nat.reduceLT, leS0, ltS0, leS1, ltS1, leS2, ltS2, leS3, ltS3, leS4, ltS4, leS5, ltS5, leS6, ltS6, leS7, ltS7, leS8, ltS8, leS9, ltS9, List.nil_append, List.cons_append, Bool.not_true, Bool.not_false, Bool.true_and, Bool.false_and, Bool.and_true, Bool.and_false, and_true, true_and, decide_true, Bool.false_eq_true, reduceIte, Nat.reduceAdd, treeAt, mineAt, setAt, Option.bind_some, Option.getD_some, Option.getD_none, Option.bind_none, Option.map_some, Option.isSome_some, List.set_cons_zero, List.set_cons_succ, takes, strips, backs, parL, newU, argT, borT, callP])

namespace Hd
open PySem PySem.Spec PyProof.Rows L2 Rw
theorem is_number_int {i : Int} : p_is_number [.int i] = .ok (.bl (decide (0 ≤ i) && decide (i ≤ 999999999999))) [.any] := by
  rw [q_is_number]
  unfold S_is_number
  walk_at "px"
  simp only [is_whole_int]
  walk_at "px"
  cases decide (0 ≤ i) <;> walk_at "px"
theorem is_number_tup {xs : List T} : p_is_number [.tup xs] = .ok (.bl false) [.any] := rfl
theorem is_number_non : p_is_number [.non] = .ok (.bl false) [.any] := rfl
theorem is_spoken_tup {xs : List T} {s w : Str} {m : Int} : p_is_spoken [.tup (.str s :: xs), .str w, .int m] = .ok (.bl (decide (((xs.length + 1 : Nat) : Int) = m) && decide (s = w))) [.any, .any, .any] := by
  rw [q_is_spoken]
  unfold S_is_spoken
  walk_at "px"
  cases decide (((xs.length + 1 : Nat) : Int) = m) <;> walk_at "px"
inductive CellOk : T → Prop
  | non : CellOk .non
  | int {i : Int} (h0 : 0 ≤ i) (h1 : i ≤ 999999999999) : CellOk (.int i)
  | to {p : Int} (h0 : 0 ≤ p) (h1 : p ≤ 999999999999) : CellOk (.tup [.str "to", .int p])
  | thing {n f : Int} (h0 : 0 < n) (h1 : n ≤ 999999999999) (h2 : 0 ≤ f) (h3 : f ≤ 30) : CellOk (.tup [.str "thing", .int n, .int f])
theorem is_spoken_no {t : T} {w : Str} {m : Int} (h : t = .non ∨ ∃ i, t = .int i) : p_is_spoken [t, .str w, .int m] = .ok (.bl false) [.any, .any, .any] := by
  rcases h with rfl | ⟨i, rfl⟩ <;> rfl
theorem str_ne1 : decide (("thing" : Str) = "to") = false := by decide
theorem str_ne2 : decide (("to" : Str) = "thing") = false := by decide
theorem sp_to {p : Int} : p_is_spoken [.tup [.str "to", .int p], .str "to", .int 2] = .ok (.bl true) [.any, .any, .any] := is_spoken_tup
theorem sp_to3 {p : Int} : p_is_spoken [.tup [.str "to", .int p], .str "thing", .int 3] = .ok (.bl false) [.any, .any, .any] := is_spoken_tup
theorem sp_th2 {p q : Int} : p_is_spoken [.tup [.str "thing", .int p, .int q], .str "to", .int 2] = .ok (.bl false) [.any, .any, .any] := is_spoken_tup
theorem sp_th3 {p q : Int} : p_is_spoken [.tup [.str "thing", .int p, .int q], .str "thing", .int 3] = .ok (.bl true) [.any, .any, .any] := is_spoken_tup
theorem is_cell_ok {t : T} (h : CellOk t) : p_is_cell [t] = .ok (.bl true) [.any] := by
  rw [q_is_cell]
  unfold S_is_cell
  walk_at "px"
  cases h with
  | non => walk_at "px"
  | @int i h0 h1 =>
    walk_at "px"
    simp only [roF_ok is_number_int, h0, h1, decide_true]
    walk_at "px"
  | to h0 h1 =>
    walk_at "px"
    simp only [roF_ok is_number_tup]
    walk_at "px"
    simp only [roF_ok sp_to]
    walk_at "px"
    simp only [roF_ok is_number_int, h0, h1, decide_true]
    walk_at "px"
  | @thing n f h0 h1 h2 h3 =>
    walk_at "px"
    simp only [roF_ok is_number_tup]
    walk_at "px"
    simp only [roF_ok sp_th2]
    walk_at "px"
    simp only [roF_ok sp_th3]
    walk_at "px"
    have z : decide (n = 0) = false := decide_eq_false (by omega)
    simp only [roF_ok is_number_int, Int.le_of_lt h0, h1, decide_true, z]
    walk_at "px"
    try simp only [is_whole_int]
    walk_at "px"
    try simp only [is_whole_int, h2, h3, decide_true]
    walk_at "px"
theorem is_cell_bl {b : Bool} : p_is_cell [.bl b] = .ok (.bl false) [.any] := rfl
end Hd

namespace Hd
open PySem PySem.Spec PyProof.Rows L2 Rw
/-! ### rows of places -/
def rowT (N : Nat) (g : Nat → T) : List T := (List.range N).map g
def putR (g : Nat → T) (j : Nat) (t : T) : Nat → T := fun i => if i = j then t else g i
def fillT (g : Nat → T) (a k : Nat) (t : T) : Nat → T := fun j => if a ≤ j ∧ j < a + k then t else g j
theorem rowT_len {N : Nat} {g : Nat → T} : (rowT N g).length = N := by simp [rowT]
theorem rowT_at {N : Nat} {g : Nat → T} {k : Nat} (h : k < N) : (rowT N g)[k]? = some (g k) := by
  unfold rowT
  rw [List.getElem?_map, List.getElem?_range h]
  rfl
theorem rowT_set {N : Nat} {g : Nat → T} {j : Nat} {t : T} : (rowT N g).set j t = rowT N (putR g j t) := by
  apply List.ext_getElem?
  intro i
  by_cases hi : i < N
  · rw [rowT_at hi]
    by_cases e : j = i
    · subst e
      rw [List.getElem?_set_self (by rw [rowT_len]; exact hi)]
      simp [putR]
    · rw [List.getElem?_set_ne e, rowT_at hi]
      have e' : ¬ i = j := fun z => e z.symm
      simp [putR, e']
  · rw [List.getElem?_eq_none (by rw [List.length_set, rowT_len]; omega), List.getElem?_eq_none (by rw [rowT_len]; omega)]
theorem fillT_zero {g : Nat → T} {a : Nat} {t : T} : fillT g a 0 t = g := by
  funext j
  unfold fillT
  rw [if_neg (by omega)]
theorem fillT_succ {g : Nat → T} {a k : Nat} {t : T} : putR (fillT g a k t) (a + k) t = fillT g a (k + 1) t := by
  funext j
  unfold putR fillT
  by_cases e : j = a + k
  · rw [if_pos e, if_pos (by omega)]
  · rw [if_neg e]
    by_cases h : a ≤ j ∧ j < a + k
    · rw [if_pos h, if_pos (by omega)]
    · rw [if_neg h, if_neg (by omega)]
theorem rowT_im {N : Nat} {g : Nat → T} (h : ∀ k, k < N → (g k).im = true) : T.imL (rowT N g) = true := by
  have : ∀ xs : List T, (∀ x ∈ xs, x.im = true) → T.imL xs = true := fun xs => by
    induction xs with
    | nil => intro _; rfl
    | cons x xs ih =>
      intro h
      show (x.im && T.imL xs) = true
      rw [h x List.mem_cons_self, ih fun y hy => h y (List.mem_cons_of_mem _ hy)]
      rfl
  refine this _ fun x hx => ?_
  obtain ⟨k, hk, rfl⟩ := List.mem_map.mp hx
  exact h k (by simpa using hk)
theorem ixN_nat {n k : Nat} (h : k < n) : ixN n (k : Int) = some k := by
  unfold ixN
  rw [if_pos (Int.natCast_nonneg k), if_pos (by omega), Int.toNat_natCast]
theorem putT_row {N : Nat} {g : Nat → T} {k : Nat} {t : T} (h : k < N) : putT (.lst (rowT N g)) (.int (k : Int)) t = some (.lst (rowT N (putR g k t))) := by
  show (ixN _ _).map _ = _
  rw [rowT_len, ixN_nat h]
  show some (T.lst ((rowT N g).set k t)) = _
  rw [rowT_set]
theorem ix_row {N : Nat} {g : Nat → T} {k : Nat} (h : k < N) : f_ix (.lst (rowT N g)) (.int (k : Int)) = some (g k) := ix_lst (rowT_at h)
theorem kT_new {rs : Rms} {a w : Int} (h : a ∉ rs.map (·.1)) : put (kT rs) (.inl a) (.int w) = kT (rs ++ [(a, w)]) := by
  rw [put_new (by rw [kT_keys]; exact fun z => h (by obtain ⟨i, hi, e⟩ := List.mem_map.mp z; rw [← Sum.inl.inj e]; exact hi))]
  unfold kT
  rw [List.map_append]
  rfl
theorem kT_len {rs : Rms} : (kT rs).length = rs.length := List.length_map _
theorem rngT_len {lo : Int} {n : Nat} : (rngT lo n).length = n := by simp [rngT]
theorem rngT_at {lo : Int} {n k : Nat} {t : T} (h : (rngT lo n)[k]? = some t) : k < n ∧ t = .int (lo + (k : Int)) := by
  unfold rngT at h
  rw [List.getElem?_map] at h
  obtain ⟨i, h1, h2⟩ := Option.map_eq_some_iff.mp h
  have hk : k < n := by
    have := (List.getElem?_eq_some_iff.mp h1).1
    simpa using this
  rw [List.getElem?_range hk] at h1
  cases h1
  exact ⟨hk, h2.symm⟩
theorem imL_all : ∀ {xs : List T}, (∀ x ∈ xs, x.im = true) → T.imL xs = true
  | [], _ => rfl
  | x :: xs, h => by
    show (x.im && T.imL xs) = true
    rw [h x List.mem_cons_self, imL_all fun y hy => h y (List.mem_cons_of_mem _ hy)]
    rfl
theorem rngT_im (lo : Int) (n : Nat) : T.imL (rngT lo n) = true := imL_all fun x hx => by
  obtain ⟨k, _, rfl⟩ := List.mem_map.mp hx
  rfl
variable {N : Nat} {rs : Rms} {gb gc : Nat → T} {b c : List T}
theorem lay_room_eq {a w : Nat} (hn : (a : Int) ∉ rs.map (·.1)) (hw : a + w ≤ N) (hN : N ≤ 100000) (hz : rs.length < 90000) :
    p_Store_lay_room [stT N (kT rs) (rowT N gb) c, .int a, .int w] = .ok .non [stT N (kT (rs ++ [((a : Int), (w : Int))])) (rowT N (fillT gb a w (.int a))) c, .any, .any] := by
  rw [q_Store_lay_room]
  unfold S_Store_lay_room
  walk_at "ps"
  have e1 : putT (.dct (kT rs)) (.int (a : Int)) (.int (w : Int)) = some (.dct (kT (rs ++ [((a : Int), (w : Int))]))) := by
    unfold putT
    simp only [k_int, Option.bind_some]
    rw [kT_len, if_pos (sizeLine_big (by omega)), kT_new hn]
  rw [e1]
  walk_at "ps"
  rw [rng2_ok (by omega) (by omega) (by omega) (by omega)]
  walk_at "ps"
  rw [show ((a : Int) + (w : Int) - (a : Int)).toNat = w by omega, if_pos (rngT_im _ _)]
  generalize hz2 : forGo _ _ _ _ = z
  obtain ⟨τ', rfl, x, rfl, px⟩ := for_res hz2 (fun k τ => ∃ x : Sl, τ = [.par (stT N (kT (rs ++ [((a : Int), (w : Int))])) (rowT N (fillT gb a k (.int a))) c), .bor (.int a), .bor (.int w), x] ∧ x.isPar = false) ⟨_, by rw [fillT_zero], rfl⟩ fun k t τ hk hI => by
    obtain ⟨x, rfl, px⟩ := hI
    obtain ⟨hkw, rfl⟩ := rngT_at hk
    walk_at "ps"
    simp only [px]
    walk_at "ps"
    rw [show (a : Int) + (k : Int) = ((a + k : Nat) : Int) by omega, putT_row (by omega)]
    walk_at "ps"
    refine ⟨_, rfl, .own (.int ((a + k : Nat) : Int)), ?_, rfl⟩
    rw [fillT_succ]
  rw [rngT_len]
  walk_at "ps"
end Hd

namespace Hd
open PySem PySem.Spec PyProof.Rows L2 Rw
variable {N : Nat} {rs : Rms} {gb gc : Nat → T} {b c : List T}
theorem wide_at_in {p : Int} {z : T} {b c : List T} (h : p ∈ rs.map (·.1)) : p_Store_wide_at [stT N (kT rs) b c, .int p] = .ok (.int (widOf rs p)) [.any, .any] := wide_at_of (by rw [kT_val h]; rfl) rfl
theorem is_place_eq {p : Nat} (h : p < N) : p_Store_is_place [stT N (kT rs) b c, .int (p : Int)] = .ok (.bl true) [.any, .any] := by
  rw [q_Store_is_place]
  unfold S_Store_is_place
  walk_at "ps"
  have e1 : decide ((0 : Int) ≤ (p : Int)) = true := decide_eq_true (by omega)
  have e2 : decide ((p : Int) < (N : Int)) = true := decide_eq_true (by omega)
  try simp only [e1, e2]
  walk_at "ps"
  try simp only [e1, e2]
  walk_at "ps"
theorem told_eq {p : Nat} (h : p < N) (him : (gc p).im = true) : p_Store_told [stT N (kT rs) b (rowT N gc), .int (p : Int)] = .ok (gc p) [.any, .any] := by
  rw [q_Store_told]
  unfold S_Store_told
  walk_at "ps"
  simp only [roF_ok (is_place_eq h)]
  walk_at "ps"
  rw [ix_row h]
  walk_at "ps"
  simp only [him]
  walk_at "ps"
theorem want_begin_eq {p : Int} (h : p ∈ rs.map (·.1)) (hw : widOf rs p ≠ 0) : p_Store_want_begin [stT N (kT rs) b c, .int p] = .ok .non [.any, .any] := by
  rw [q_Store_want_begin]
  unfold S_Store_want_begin
  walk_at "ps"
  simp only [roF_ok (wide_at_in (z := .non) h)]
  walk_at "ps"
  simp only [decide_eq_false hw]
  walk_at "ps"
theorem sIx_nat {n d k : Nat} (h : k ≤ n) : HT.sIx n d (some (k : Int)) = k := by
  rw [HT.sIx_nat]
  omega
theorem cut_row {N a w : Nat} {g : Nat → T} (h : a + w ≤ N) : cut (rowT N g) (some (a : Int)) (some ((a : Int) + (w : Int))) = (List.range w).map fun k => g (a + k) := by
  unfold cut
  rw [rowT_len, show (a : Int) + (w : Int) = ((a + w : Nat) : Int) by omega, sIx_nat (k := a) (by omega), sIx_nat (k := a + w) h]
  apply List.ext_getElem?
  intro i
  rw [List.getElem?_take]
  by_cases hi : i < w
  · rw [if_pos (by omega), List.getElem?_drop, rowT_at (by omega), List.getElem?_map, List.getElem?_range hi]
    rfl
  · rw [if_neg (by omega), List.getElem?_eq_none (by simp; omega)]
theorem sl_row {N a w : Nat} {g : Nat → T} (h : a + w ≤ N) (him : T.imL (rowT N g) = true) : q_sl (.lst (rowT N g)) (some (a : Int)) (some ((a : Int) + (w : Int))) = some (.lst ((List.range w).map fun k => g (a + k))) := by
  unfold q_sl
  simp only [T.lits, Option.bind_some]
  rw [if_pos him, cut_row h]
theorem kT_drop {rs : Rms} {a : Int} : drop (kT rs) (.inl a) = kT (rs.filter fun r => decide (r.1 ≠ a)) := by
  unfold drop kT
  rw [List.filter_map]
  congr 1
  refine List.filter_congr fun r _ => ?_
  show decide ((Sum.inl r.1 : Key) ≠ Sum.inl a) = decide (r.1 ≠ a)
  refine decide_eq_decide.mpr ⟨fun h e => h (by rw [e]), fun h e => h (Sum.inl.inj e)⟩
theorem CellOk.im {t : T} (h : CellOk t) : t.im = true := by cases h <;> rfl
theorem put_eq {p : Nat} {t : T} {o : Int} (h : p < N) (ho : gb p = .int o) (ok : CellOk t) :
    p_Store_put [stT N (kT rs) (rowT N gb) (rowT N gc), .int (p : Int), t] = .ok .non [stT N (kT rs) (rowT N gb) (rowT N (putR gc p t)), .any, .any] := by
  rw [q_Store_put]
  unfold S_Store_put
  walk_at "ps"
  simp only [roF_ok (is_place_eq h)]
  walk_at "ps"
  rw [ix_row h, ho]
  walk_at "ps"
  simp only [roF_ok (is_cell_ok ok)]
  walk_at "ps"
  rw [if_pos ok.im]
  walk_at "ps"
  rw [putT_row h]
  walk_at "ps"
theorem clear_room_eq {a w : Nat} (hb : (a : Int) ∈ rs.map (·.1)) (hwid : widOf rs a = (w : Int)) (hw : a + w ≤ N) (hN : N ≤ 100000) (him : ∀ k, k < N → (gc k).im = true) :
    p_Store_clear_room [stT N (kT rs) (rowT N gb) (rowT N gc), .int (a : Int)] = .ok (.lst ((List.range w).map fun k => gc (a + k))) [stT N (kT (rs.filter fun r => decide (r.1 ≠ (a : Int)))) (rowT N (fillT gb a w .non)) (rowT N (fillT gc a w .non)), .any] := by
  rw [q_Store_clear_room]
  unfold S_Store_clear_room
  walk_at "ps"
  have e1 : q_dpop (.dct (kT rs)) [.int (a : Int)] = some (.int w, .dct (kT (rs.filter fun r => decide (r.1 ≠ (a : Int))))) := by
    unfold q_dpop
    simp only [k_int, Option.bind_some]
    rw [kT_val hb, kT_drop, hwid]
    rfl
  rw [e1]
  walk_at "ps"
  have e2 : q_sl (.lst (rowT N gc)) (some (a : Int)) (some ((a : Int) + (w : Int))) = some (.lst ((List.range w).map fun k => gc (a + k))) := sl_row hw (rowT_im him)
  rw [e2]
  walk_at "ps"
  rw [rng2_ok (by omega) (by omega) (by omega) (by omega)]
  walk_at "ps"
  rw [show ((a : Int) + (w : Int) - (a : Int)).toNat = w by omega, if_pos (rngT_im _ _)]
  generalize hz2 : forGo _ _ _ _ = z
  generalize hcs : T.lst ((List.range w).map fun k => gc (a + k)) = cs at *
  obtain ⟨τ', rfl, x, rfl, px⟩ := for_res hz2 (fun k τ => ∃ x : Sl, τ = [.par (stT N (kT (rs.filter fun r => decide (r.1 ≠ (a : Int)))) (rowT N (fillT gb a k .non)) (rowT N (fillT gc a k .non))), .bor (.int a), .own (.int w), .own cs, x] ∧ x.isPar = false) ⟨_, by rw [fillT_zero, fillT_zero], rfl⟩ fun k t τ hk hI => by
    obtain ⟨x, rfl, px⟩ := hI
    obtain ⟨hkw, rfl⟩ := rngT_at hk
    walk_at "ps"
    simp only [px]
    walk_at "ps"
    rw [show (a : Int) + (k : Int) = ((a + k : Nat) : Int) by omega, putT_row (by omega)]
    walk_at "ps"
    rw [putT_row (by omega)]
    walk_at "ps"
    refine ⟨_, rfl, .own (.int ((a + k : Nat) : Int)), ?_, rfl⟩
    rw [fillT_succ, fillT_succ]
  rw [rngT_len]
  walk_at "ps"
  split <;> walk_at "ps"
end Hd

namespace Hd
open PySem PySem.Spec PyProof.Rows L2 Rw
variable {N : Nat} {rs : Rms} {gb gc : Nat → T} {b c : List T}
theorem ix_kT {a : Int} (h : a ∈ rs.map (·.1)) : f_ix (.dct (kT rs)) (.int a) = some (.int (widOf rs a)) := by
  unfold f_ix
  simp only [k_int, Option.bind_some]
  exact kT_val h
theorem give_eq {a w : Nat} (hb : (a : Int) ∈ rs.map (·.1)) (hwid : widOf rs a = (w : Int)) (hw0 : 0 < w) (hw : a + w ≤ N) (hN : N ≤ 100000) (him : ∀ k, k < N → (gc k).im = true) :
    p_Store_give [stT N (kT rs) (rowT N gb) (rowT N gc), .int (a : Int)] = .ok .non [stT N (kT (rs.filter fun r => decide (r.1 ≠ (a : Int)))) (rowT N (fillT gb a w .non)) (rowT N (fillT gc a w .non)), .any] := by
  rw [q_Store_give]
  unfold S_Store_give
  walk_at "ps"
  simp only [want_begin_eq hb (by omega), roF_ok (want_begin_eq hb (by omega))]
  walk_at "ps"
  rw [clear_room_eq hb hwid hw hN him]
  walk_at "ps"
theorem in_non {a : Int} : f_in .non (.tup [.non, .int a]) = some (.bl true) := by simp [f_in, inF, T.items, T.sv, T.svs, inV, eqV]
theorem in_int {a : Int} : f_in (.int a) (.tup [.non, .int a]) = some (.bl true) := by simp [f_in, inF, T.items, T.sv, T.svs, inV, eqV]
theorem bls_true : ∀ {xs : List T}, (∀ x ∈ xs, x = .bl true) → ∃ bs, T.bls xs = some bs ∧ bs.all id = true
  | [], _ => ⟨[], rfl, rfl⟩
  | x :: xs, h => by
    obtain ⟨bs, e, a⟩ := bls_true fun y hy => h y (List.mem_cons_of_mem _ hy)
    rw [h x List.mem_cons_self]
    refine ⟨true :: bs, ?_, by simpa using a⟩
    show (T.bls xs).map _ = _
    rw [e]
    rfl
theorem q_all_true {xs : List T} (h : ∀ x ∈ xs, x = .bl true) : q_all [.lst xs] = some (.bl true) := by
  obtain ⟨bs, e, a⟩ := bls_true h
  show ((T.lits (.lst xs)).bind T.bls).map _ = _
  simp only [T.lits, Option.bind_some]
  rw [e]
  show some (T.bl (bs.all id)) = _
  rw [a]
end Hd

namespace Hd
open PySem PySem.Spec PyProof.Rows L2 Rw
def widesL : List Int := [2, 3, 4, 6, 8, 12, 16, 24, 32]
def wideOf (m : Int) : Int := (widesL.filter fun w => decide (m ≤ w)).headD 0
theorem wides_some {m : Int} (h : m ≤ 32) : ∃ r, (widesL.filter fun w => decide (m ≤ w)) = wideOf m :: r := by
  have e : (widesL.filter fun w => decide (m ≤ w)) ≠ [] := fun z => by
    have := List.filter_eq_nil_iff.mp z 32 (by decide)
    simp at this
    omega
  unfold wideOf
  cases q : widesL.filter fun w => decide (m ≤ w) with
  | nil => exact absurd q e
  | cons a r => exact ⟨r, rfl⟩
theorem wideOf_mem {m : Int} (h : m ≤ 32) : wideOf m ∈ widesL ∧ m ≤ wideOf m := by
  obtain ⟨r, e⟩ := wides_some h
  have : wideOf m ∈ widesL.filter fun w => decide (m ≤ w) := by rw [e]; exact List.mem_cons_self
  simpa using this
theorem lx0 {xs : List T} {t : T} : f_ix (.lst (t :: xs)) (.int 0) = some t := ix_lst (k := 0) rfl
theorem lx1 {xs : List T} {t u : T} : f_ix (.lst (t :: u :: xs)) (.int 1) = some u := ix_lst (k := 1) rfl
theorem lx2 {xs : List T} {t u v : T} : f_ix (.lst (t :: u :: v :: xs)) (.int 2) = some v := ix_lst (k := 2) rfl
theorem wide_of_eq {m : Int} (h1 : 1 ≤ m) (h2 : m ≤ 32) : p_wide_of [.int m] = .ok (.int (wideOf m)) [.any] := by
  rw [q_wide_of]
  unfold S_wide_of
  walk_at "ps"
  have e1 : decide ((1 : Int) ≤ m) = true := decide_eq_true h1
  have e2 : decide (m ≤ (32 : Int)) = true := decide_eq_true h2
  try simp only [e1, e2]
  walk_at "ps"
  rw [show f_ix (T.tup [T.int 2, T.int 3, T.int 4, T.int 6, T.int 8, T.int 12, T.int 16, T.int 24, T.int 32]) (T.int (-1)) = some (.int 32) from rfl]
  walk_at "ps"
  simp only [e2]
  walk_at "ps"
  obtain ⟨r, er⟩ := wides_some h2
  rw [show [T.int 2, T.int 3, T.int 4, T.int 6, T.int 8, T.int 12, T.int 16, T.int 24, T.int 32] = widesL.map T.int from rfl, lcGo_fm (g := fun t => match t with | .int x => if m ≤ x then some (.int x) else none | _ => none)]
  · walk_at "ps"
    have e3 : (widesL.map T.int).filterMap (fun t => match t with | .int x => if m ≤ x then some (.int x) else none | _ => none) = .int (wideOf m) :: r.map T.int := by
      rw [← List.map_cons, ← er, List.filterMap_map]
      generalize widesL = L
      induction L with
      | nil => rfl
      | cons x L ih =>
        rw [List.filterMap_cons, List.filter_cons, ih]
        by_cases h : m ≤ x
        · simp [h]
        · simp [h]
    rw [e3, lx0]
    walk_at "ps"
  · intro x hx
    obtain ⟨i, hi, rfl⟩ := List.mem_map.mp hx
    unfold lcStep
    simp only [PX, wipeE, List.set, List.length_cons, List.length_nil]
    walk_at "ps"
    by_cases h : m ≤ i
    · simp only [h, decide_true, if_true]
      walk_at "ps"
    · simp only [h, decide_false, if_false]
      walk_at "ps"
end Hd

namespace Hd
open PySem PySem.Spec PyProof.Rows L2 Rw
variable {N : Nat} {rs : Rms} {gb gc : Nat → T} {b c : List T}
theorem ints_map : ∀ ns : List Int, T.ints (ns.map T.int) = some ns
  | [] => rfl
  | n :: ns => by
    rw [List.map_cons]
    show (T.ints _).map _ = _
    rw [ints_map ns]
    rfl
theorem prs_map : ∀ ps : Rms, T.prs (rowsT ps) = some ps
  | [] => rfl
  | p :: ps => by
    show (T.prs (rowsT ps)).map _ = _
    rw [prs_map ps]
    rfl
theorem min1_rows {ps : Rms} (ne : ps ≠ []) : q_min1 [.lst (rowsT ps)] = some (.tup [.int (minP ps).1, .int (minP ps).2]) := by
  unfold q_min1
  simp only [T.lits, Option.bind_some]
  cases ps with
  | nil => exact absurd rfl ne
  | cons p ps =>
    rw [show T.ints (rowsT (p :: ps)) = none from rfl]
    simp only []
    rw [prs_map]
    rfl
def bestG (G : Rms) (w : Int) : Int × Int := minP ((G.filter fun g => decide (w ≤ g.2)).map fun g => (g.2, g.1))
theorem take_eq {m : Int} {t w : Nat} {G : Rms} (hG : gaps 0 (srt rs ++ [((N : Int), 0)]) = G) (h1 : 1 ≤ m) (h2 : m ≤ 32) (hex : ∃ g ∈ G, wideOf m ≤ g.2) (hwd : wideOf m = (w : Int)) (hbg : (bestG G (wideOf m)).2 = (t : Int))
    (nd : (rs.map (·.1)).Nodup) (hn : (t : Int) ∉ rs.map (·.1)) (hw : t + w ≤ N) (hN : N ≤ 100000) (hz : rs.length < 80000) :
    p_Store_take [stT N (kT rs) (rowT N gb) c, .int m] = .ok (.int (t : Int)) [stT N (kT (rs ++ [((t : Int), (w : Int))])) (rowT N (fillT gb t w (.int (t : Int)))) c, .any] := by
  rw [q_Store_take]
  unfold S_Store_take
  walk_at "ps"
  simp only [roF_ok (wide_of_eq h1 h2), hwd]
  walk_at "ps"
  simp only [roF_ok (stretches_eq nd (Nat.lt_trans hz (by decide)) (b := rowT N gb) (c := c)), hG]
  walk_at "ps"
  rw [lcGo_map (g := fun t => match t with | .tup [_, l] => l | _ => .any)]
  · walk_at "ps"
    have hlen : G.length ≤ 90000 := by
      rw [← hG]
      refine Nat.le_trans (gaps_len _ _) ?_
      rw [List.length_append, (srt_perm nd).length_eq]
      simp
      omega
    have hGs : (rowsT G).length < sizeLine := by rw [rowsT_len]; exact sizeLine_big (by omega)
    rw [if_pos hGs]
    walk_at "ps"
    have em : q_maxD [.lst (List.map (fun t => match t with | .tup [_, l] => l | _ => .any) (rowsT G))] [.int 0] = some (.int (maxI (G.map (·.2)))) := by
      have e : List.map (fun t => match t with | T.tup [_, l] => l | _ => .any) (rowsT G) = (G.map (·.2)).map T.int := by
        unfold rowsT
        rw [List.map_map, List.map_map]
        rfl
      rw [e]
      unfold q_maxD
      simp only [T.lits, Option.bind_some]
      rw [ints_map]
      simp only [Option.bind_some]
      rw [if_neg]
      obtain ⟨g, hg, _⟩ := hex
      intro z
      rw [List.isEmpty_iff] at z
      have : g.2 ∈ G.map (·.2) := List.mem_map_of_mem hg
      rw [z] at this
      exact (List.not_mem_nil this).elim
    rw [em]
    walk_at "ps"
    have hlt : decide (maxI (G.map (·.2)) < (w : Int)) = false := by
      refine decide_eq_false fun z => ?_
      obtain ⟨g, hg, hg2⟩ := hex
      have := maxI_ge (ns := G.map (·.2)) (List.mem_map_of_mem (f := (·.2)) hg)
      omega
    simp only [hlt]
    walk_at "ps"
    simp only [roF_ok (stretches_eq nd (Nat.lt_trans hz (by decide)) (b := rowT N gb) (c := c)), hG]
    walk_at "ps"
    rw [lcGo_fm (g := fun t => match t with | .tup [.int a, .int l] => if (w : Int) ≤ l then some (.tup [.int l, .int a]) else none | _ => none)]
    · walk_at "ps"
      rw [if_pos hGs]
      walk_at "ps"
      have e3 : (rowsT G).filterMap (fun t => match t with | .tup [.int a, .int l] => if (w : Int) ≤ l then some (T.tup [.int l, .int a]) else none | _ => none) = rowsT ((G.filter fun g => decide ((w : Int) ≤ g.2)).map fun g => (g.2, g.1)) := by
        unfold rowsT
        rw [List.filterMap_map, List.map_map]
        generalize G = L
        induction L with
        | nil => rfl
        | cons x L ih =>
          rw [List.filterMap_cons, List.filter_cons, ih]
          by_cases h : (w : Int) ≤ x.2
          · simp [h]
          · simp [h]
      rw [e3, min1_rows (by
        obtain ⟨g, hg, hg2⟩ := hex
        intro z
        have : g ∈ G.filter fun g => decide ((w : Int) ≤ g.2) := List.mem_filter.mpr ⟨hg, by rw [← hwd]; exact decide_eq_true hg2⟩
        have := List.mem_map_of_mem (f := fun g : Int × Int => (g.2, g.1)) this
        rw [z] at this
        exact List.not_mem_nil this)]
      walk_at "ps"
      have hb2 : (minP ((G.filter fun g => decide ((w : Int) ≤ g.2)).map fun g => (g.2, g.1))).2 = (t : Int) := by rw [← hwd]; exact hbg
      rw [hb2]
      rw [lay_room_eq hn hw hN (by omega)]
      walk_at "ps"
    · intro x hx
      obtain ⟨g, hg, rfl⟩ := List.mem_map.mp hx
      unfold lcStep
      simp only [PX, wipeE, List.set, List.length_cons, List.length_nil]
      walk_at "ps"
      by_cases h : (w : Int) ≤ g.2
      · simp only [h, decide_true, if_true]
        walk_at "ps"
      · simp only [h, decide_false, if_false]
        walk_at "ps"
  · intro x hx
    obtain ⟨g, hg, rfl⟩ := List.mem_map.mp hx
    unfold lcStep
    simp only [PX, wipeE, List.set, List.length_cons, List.length_nil]
    walk_at "ps"
end Hd

namespace Hd
open PySem PySem.Spec PyProof.Rows L2 Rw
def s0 : T := .ins "Store" []
def s1 (N : Int) : T := .ins "Store" [("many_places", .int N)]
def s2 (N : Int) (w : List (Key × T)) : T := .ins "Store" [("many_places", .int N), ("wide_by_begin", .dct w)]
def s3 (N : Int) (w : List (Key × T)) (b : List T) : T := .ins "Store" [("many_places", .int N), ("wide_by_begin", .dct w), ("begin_at", .lst b)]
theorem b0 : isInsOf (attrOk fa "many_places") s0 = true := by show attrOk fa "many_places" "Store" = true; decide +kernel
theorem b1 {N} : isInsOf (attrOk fa "wide_by_begin") (s1 N) = true := by show attrOk fa "wide_by_begin" "Store" = true; decide +kernel
theorem b2 {N w} : isInsOf (attrOk fa "begin_at") (s2 N w) = true := by show attrOk fa "begin_at" "Store" = true; decide +kernel
theorem b3 {N w b} : isInsOf (attrOk fa "cell_at") (s3 N w b) = true := by show attrOk fa "cell_at" "Store" = true; decide +kernel
theorem fw0 : fewF s0 = true := rfl
theorem fw1 {N} : fewF (s1 N) = true := rfl
theorem fw2 {N w} : fewF (s2 N w) = true := rfl
theorem fw3 {N w b} : fewF (s3 N w b) = true := rfl
theorem n0 {N} : setS s0 (.fld "many_places") (.int N) = s1 N := rfl
theorem n1 {N w} : setS (s1 N) (.fld "wide_by_begin") (.dct w) = s2 N w := rfl
theorem n2 {N w b} : setS (s2 N w) (.fld "begin_at") (.lst b) = s3 N w b := rfl
theorem n3 {N w b c} : setS (s3 N w b) (.fld "cell_at") (.lst c) = stT N w b c := rfl
theorem e_ne {a b : Int} : f_ne (.int a) (.int b) = some (.bl (!decide (a = b))) := by
  show (eqF _ _).map _ = _
  have := f_eq_int (a := a) (b := b)
  unfold f_eq at this
  cases e : eqF (.int a) (.int b) with
  | none => rw [e] at this; cases this
  | some x =>
    rw [e] at this
    have : x = decide (a = b) := by simpa using this
    rw [this]
    rfl
theorem mul_row {N : Nat} (h : N ≤ 100000) : f_mul (.lst [.non]) (.int (N : Int)) = some (.lst (rowT N fun _ => .non)) := by
  unfold f_mul
  simp only []
  rw [if_pos ⟨rfl, by omega, by omega, by rw [sizeLine_eq]; simp; omega⟩]
  congr 2
  rw [Int.toNat_natCast]
  clear h
  unfold rowT
  induction N with
  | zero => rfl
  | succ n ih =>
    rw [List.replicate_succ', List.flatten_append, ih, List.range_succ, List.map_append]
    rfl
theorem init_eq {N : Nat} (h : (16 ≤ N ∧ N ≤ 512) ∨ N = 20000) : p_StoreU_initU [s0, .int (N : Int)] = .ok .non [stT N (kT []) (rowT N fun _ => .non) (rowT N fun _ => .non), .any] := by
  rw [q_StoreU_initU]
  unfold S_StoreU_initU
  walk_at "ps"
  have e1 : decide ((16 : Int) ≤ (N : Int)) = true := decide_eq_true (by omega)
  have hN : N ≤ 100000 := by omega
  simp only [e1, e_ne]
  walk_at "ps"
  have e2 : (!decide ((N : Int) ≤ 512)) = false ∨ ((!decide ((N : Int) ≤ 512)) = true ∧ (!decide ((N : Int) = 20000)) = false) := by
    rcases h with h | h
    · left
      rw [decide_eq_true (by omega)]
      rfl
    · right
      rw [decide_eq_false (by omega), decide_eq_true (by omega)]
      exact ⟨rfl, rfl⟩
  rcases e2 with e2 | ⟨e2, e3⟩
  · simp only [e2]
    walk_at "ps"
    simp only [b0, fw0, n0, b1, fw1]
    walk_at "ps"
    simp only [b0, fw0, n0, b1, fw1, n1, b2, fw2]
    walk_at "ps"
    rw [mul_row hN]
    walk_at "ps"
    simp only [b2, fw2, n2, b3, fw3]
    walk_at "ps"
    rw [mul_row hN]
    walk_at "ps"
    simp only [b3, fw3, n3]
    walk_at "ps"
    all_goals rfl
  · simp only [e2]
    walk_at "ps"
    simp only [e3]
    walk_at "ps"
    simp only [b0, fw0, n0, b1, fw1]
    walk_at "ps"
    simp only [b0, fw0, n0, b1, fw1, n1, b2, fw2]
    walk_at "ps"
    rw [mul_row hN]
    walk_at "ps"
    simp only [b2, fw2, n2, b3, fw3]
    walk_at "ps"
    rw [mul_row hN]
    walk_at "ps"
    simp only [b3, fw3, n3]
    walk_at "ps"
    all_goals rfl
end Hd

namespace Hd
open PySem PySem.Spec PyProof.Rows L2 Rw
/-! ### stores, plainly -/
def inR (r : Int × Int) (k : Nat) : Prop := r.1 ≤ (k : Int) ∧ (k : Int) < r.1 + r.2
instance {r : Int × Int} {k : Nat} : Decidable (inR r k) := by unfold inR; infer_instance
def ownB (rs : Rms) (k : Nat) : T := match rs.find? fun r => decide (inR r k) with
  | some r => .int r.1
  | none => .non
theorem ownB_cases (rs : Rms) (k : Nat) : (ownB rs k = .non ∧ ∀ r ∈ rs, ¬ inR r k) ∨ ∃ r ∈ rs, inR r k ∧ ownB rs k = .int r.1 := by
  unfold ownB
  cases e : rs.find? fun r => decide (inR r k) with
  | none =>
    left
    refine ⟨rfl, fun r hr => ?_⟩
    have := List.find?_eq_none.mp e r hr
    simpa using this
  | some r =>
    right
    exact ⟨r, List.mem_of_find?_eq_some e, by simpa using List.find?_some e, rfl⟩
theorem ownB_none {rs : Rms} {k : Nat} (h : ∀ r ∈ rs, ¬ inR r k) : ownB rs k = .non := by
  rcases ownB_cases rs k with ⟨e, _⟩ | ⟨r, hr, hk, _⟩
  · exact e
  · exact absurd hk (h r hr)
theorem RoomsOk.sep {N : Int} {rs : Rms} (h : RoomsOk N rs) {r t : Int × Int} (hr : r ∈ rs) (ht : t ∈ rs) (ne : r ≠ t) : r.1 + r.2 ≤ t.1 ∨ t.1 + t.2 ≤ r.1 := by
  obtain ⟨i, hi, ei⟩ := List.mem_iff_getElem.mp hr
  obtain ⟨j, hj, ej⟩ := List.mem_iff_getElem.mp ht
  have key := List.pairwise_iff_getElem.mp h.dis
  rcases Nat.lt_trichotomy i j with l | e | l
  · have := key i j hi hj l
    rw [ei, ej] at this
    exact this
  · subst e
    exact absurd (ei.symm.trans ej) ne
  · have := key j i hj hi l
    rw [ei, ej] at this
    exact this.symm
theorem RoomsOk.one {N : Int} {rs : Rms} (h : RoomsOk N rs) {r t : Int × Int} {k : Nat} (hr : r ∈ rs) (ht : t ∈ rs) (h1 : inR r k) (h2 : inR t k) : r = t := by
  by_cases e : r = t
  · exact e
  · have := h.sep hr ht e
    unfold inR at h1 h2
    omega
theorem ownB_some {N : Int} {rs : Rms} (h : RoomsOk N rs) {r : Int × Int} {k : Nat} (hr : r ∈ rs) (hk : inR r k) : ownB rs k = .int r.1 := by
  rcases ownB_cases rs k with ⟨_, z⟩ | ⟨t, ht, h2, e⟩
  · exact absurd hk (z r hr)
  · rw [h.one hr ht hk h2]
    exact e
theorem ownB_eq {N : Int} {rs : Rms} {f : Nat → T} (h : RoomsOk N rs) (h1 : ∀ r ∈ rs, ∀ k, inR r k → f k = .int r.1) (h2 : ∀ k, (∀ r ∈ rs, ¬ inR r k) → f k = .non) : f = ownB rs := by
  funext k
  rcases ownB_cases rs k with ⟨e, z⟩ | ⟨t, ht, hk, e⟩
  · rw [e, h2 k z]
  · rw [e, h1 t ht k hk]
structure SS where
  N : Nat
  rs : Rms
  gc : Nat → T
def SS.T (s : SS) : Rw.T := stT s.N (kT s.rs) (rowT s.N (ownB s.rs)) (rowT s.N s.gc)
structure SOk (s : SS) : Prop where
  hN : s.N ≤ 20000
  ok : RoomsOk s.N s.rs
  wd : ∀ r ∈ s.rs, r.2 ∈ widesL
  out : ∀ k, (∀ r ∈ s.rs, ¬ inR r k) → s.gc k = .non
  cell : ∀ k, CellOk (s.gc k)
variable {s : SS}
theorem wides_pos {w : Int} (h : w ∈ widesL) : 2 ≤ w ∧ w ≤ 32 := by
  have : ∀ w ∈ widesL, 2 ≤ w ∧ w ≤ 32 := by decide
  exact this w h
theorem SOk.nd (h : SOk s) : (s.rs.map (·.1)).Nodup := h.ok.nodup
theorem sum_len : ∀ {rs : Rms}, (∀ r ∈ rs, 2 ≤ r.2) → (2 : Int) * rs.length ≤ (rs.map (·.2)).sum
  | [], _ => by simp
  | r :: rs, h => by
    have := sum_len fun t ht => h t (List.mem_cons_of_mem _ ht)
    have := h r List.mem_cons_self
    rw [List.map_cons, List.sum_cons, List.length_cons]
    omega
theorem perm_sum {a b : List Int} (h : a.Perm b) : a.sum = b.sum := by
  induction h with
  | nil => rfl
  | cons x _ ih => rw [List.sum_cons, List.sum_cons, ih]
  | swap x y l => simp only [List.sum_cons]; omega
  | trans _ _ i1 i2 => exact i1.trans i2
theorem srt_ok {N : Int} {rs : Rms} (h : RoomsOk N rs) : RoomsOk N (srt rs) := h.perm (srt_perm h.nodup)
theorem srt_rising {N : Int} {rs : Rms} (h : RoomsOk N rs) (hN : 0 ≤ N) : Rising 0 (srt rs ++ [(N, 0)]) := rising_of (srt_ok h) (srt_le rs) (fun r hr => ((srt_ok h).pos r hr).1) hN
theorem gaps_sum0 {N : Int} {rs : Rms} (h : RoomsOk N rs) (hN : 0 ≤ N) : ((gaps 0 (srt rs ++ [(N, 0)])).map (·.2)).sum + (rs.map (·.2)).sum = N := by
  have e := gaps_sum (srt_rising h hN)
  have p := perm_sum ((srt_perm h.nodup).map (·.2))
  omega
theorem gaps_pos {N : Int} {rs : Rms} (h : RoomsOk N rs) (hN : 0 ≤ N) {g : Int × Int} (hg : g ∈ gaps 0 (srt rs ++ [(N, 0)])) : 0 ≤ g.1 ∧ 0 < g.2 ∧ g.1 + g.2 ≤ N ∧ ∀ r ∈ rs, r.1 + r.2 ≤ g.1 ∨ g.1 + g.2 ≤ r.1 := by
  obtain ⟨a, b, c, d⟩ := gaps_in (srt_rising h hN) (fun r hr => ((srt_ok h).pos r hr).2.1) hg
  exact ⟨a, b, c, fun r hr => d r ((srt_perm h.nodup).mem_iff.mpr hr)⟩
theorem sum_nonneg : ∀ {ns : List Int}, (∀ n ∈ ns, 0 ≤ n) → 0 ≤ ns.sum
  | [], _ => by simp
  | n :: ns, h => by
    have := sum_nonneg fun t ht => h t (List.mem_cons_of_mem _ ht)
    have := h n List.mem_cons_self
    rw [List.sum_cons]
    omega
theorem SOk.len (h : SOk s) : s.rs.length ≤ 10000 := by
  have h1 := sum_len (rs := s.rs) fun r hr => (wides_pos (h.wd r hr)).1
  have h2 := gaps_sum0 h.ok (Int.natCast_nonneg _)
  have h3 : 0 ≤ ((gaps 0 (srt s.rs ++ [((s.N : Int), 0)])).map (·.2)).sum := sum_nonneg fun n hn => by
    obtain ⟨g, hg, rfl⟩ := List.mem_map.mp hn
    have := (gaps_pos h.ok (Int.natCast_nonneg _) hg).2.1
    omega
  have := h.hN
  omega
theorem SOk.im (h : SOk s) : ∀ k, k < s.N → (s.gc k).im = true := fun k _ => (h.cell k).im
theorem SOk.hN' (h : SOk s) : s.N ≤ 100000 := Nat.le_trans h.hN (by decide)
theorem SOk.wid (h : SOk s) {r : Int × Int} (hr : r ∈ s.rs) : widOf s.rs r.1 = r.2 := wid_of h.nd hr
/-- a room, by numbers that aren't below 0 -/
theorem SOk.nat (h : SOk s) {r : Int × Int} (hr : r ∈ s.rs) : ∃ a w : Nat, r = ((a : Int), (w : Int)) ∧ 2 ≤ w ∧ w ≤ 32 ∧ a + w ≤ s.N := by
  obtain ⟨p1, p2, p3⟩ := h.ok.pos r hr
  have p4 := wides_pos (h.wd r hr)
  exact ⟨r.1.toNat, r.2.toNat, by rw [Int.toNat_of_nonneg p1, Int.toNat_of_nonneg (by omega)], by omega, by omega, by omega⟩
theorem SOk.uniq (h : SOk s) {r t : Int × Int} (hr : r ∈ s.rs) (ht : t ∈ s.rs) (e : r.1 = t.1) : r = t := by
  by_cases ne : r = t
  · exact ne
  · have := h.ok.sep hr ht ne
    have := (h.ok.pos r hr).2.1
    have := (h.ok.pos t ht).2.1
    omega
def gapsS (s : SS) : Rms := gaps 0 (srt s.rs ++ [((s.N : Int), 0)])
theorem gapsS_len (h : SOk s) : (gapsS s).length ≤ 10001 := by
  have := h.len
  refine Nat.le_trans (gaps_len _ _) ?_
  rw [List.length_append, (srt_perm h.nd).length_eq]
  simp
  omega
/-! taken -/
theorem best_mem {G : Rms} {w : Int} (hex : ∃ g ∈ G, w ≤ g.2) : ∃ g ∈ G, w ≤ g.2 ∧ bestG G w = (g.2, g.1) := by
  unfold bestG
  have ne : (G.filter fun g => decide (w ≤ g.2)).map (fun g => (g.2, g.1)) ≠ [] := by
    obtain ⟨g, hg, hw⟩ := hex
    intro z
    have : (g.2, g.1) ∈ (G.filter fun g => decide (w ≤ g.2)).map (fun g => (g.2, g.1)) := List.mem_map_of_mem (f := fun g : Int × Int => (g.2, g.1)) (List.mem_filter.mpr ⟨hg, decide_eq_true hw⟩)
    rw [z] at this
    exact List.not_mem_nil this
  obtain ⟨g, hg, e⟩ := List.mem_map.mp (minP_mem ne)
  obtain ⟨h1, h2⟩ := List.mem_filter.mp hg
  exact ⟨g, h1, of_decide_eq_true h2, e.symm⟩
def takeS (s : SS) (m : Int) : SS := { s with rs := s.rs ++ [((bestG (gapsS s) (wideOf m)).2, wideOf m)] }
def fits (s : SS) (m : Int) : Prop := ∃ g ∈ gapsS s, wideOf m ≤ g.2
theorem takeS_at (h : SOk s) {m : Int} (h2 : m ≤ 32) (hf : fits s m) : ∃ t w : Nat, (bestG (gapsS s) (wideOf m)).2 = (t : Int) ∧ wideOf m = (w : Int) ∧ 2 ≤ w ∧ w ≤ 32 ∧ t + w ≤ s.N ∧ ∀ r ∈ s.rs, r.1 + r.2 ≤ (t : Int) ∨ (t : Int) + (w : Int) ≤ r.1 := by
  obtain ⟨g, hg, hw, e⟩ := best_mem hf
  obtain ⟨p1, p2, p3, p4⟩ := gaps_pos h.ok (Int.natCast_nonneg _) hg
  have hm := wides_pos (wideOf_mem h2).1
  refine ⟨g.1.toNat, (wideOf m).toNat, by rw [e, Int.toNat_of_nonneg p1], by omega, by omega, by omega, by omega, fun r hr => ?_⟩
  have := p4 r hr
  omega
theorem takeS_ok (h : SOk s) {m : Int} (h2 : m ≤ 32) (hf : fits s m) : SOk (takeS s m) := by
  obtain ⟨t, w, e1, e2, w1, w2, hN, sep⟩ := takeS_at h h2 hf
  have hw := (wideOf_mem h2).1
  unfold takeS
  rw [e1, e2] at *
  refine ⟨h.hN, ⟨fun r hr => ?_, ?_⟩, fun r hr => ?_, fun k hk => h.out k fun r hr => hk r (List.mem_append_left _ hr), h.cell⟩
  · rcases List.mem_append.mp hr with hr | hr
    · exact h.ok.pos r hr
    · obtain rfl := List.mem_singleton.mp hr
      simp only
      omega
  · refine List.pairwise_append.mpr ⟨h.ok.dis, List.pairwise_singleton _ _, fun r hr t ht => ?_⟩
    obtain rfl := List.mem_singleton.mp ht
    exact sep r hr
  · rcases List.mem_append.mp hr with hr | hr
    · exact h.wd r hr
    · obtain rfl := List.mem_singleton.mp hr
      exact hw
theorem take_own (h : SOk s) {t w : Nat} (w0 : 0 < w) (hN : t + w ≤ s.N) (sep : ∀ r ∈ s.rs, r.1 + r.2 ≤ (t : Int) ∨ (t : Int) + (w : Int) ≤ r.1) : fillT (ownB s.rs) t w (.int (t : Int)) = ownB (s.rs ++ [((t : Int), (w : Int))]) := by
  have ok : RoomsOk s.N (s.rs ++ [((t : Int), (w : Int))]) := by
    refine ⟨fun r hr => ?_, List.pairwise_append.mpr ⟨h.ok.dis, List.pairwise_singleton _ _, fun r hr t ht => ?_⟩⟩
    · rcases List.mem_append.mp hr with hr | hr
      · exact h.ok.pos r hr
      · obtain rfl := List.mem_singleton.mp hr
        simp only
        omega
    · obtain rfl := List.mem_singleton.mp ht
      exact sep r hr
  refine ownB_eq ok (fun r hr k hk => ?_) fun k hk => ?_
  · unfold fillT
    rcases List.mem_append.mp hr with hr | hr
    · have := sep r hr
      unfold inR at hk
      rw [if_neg (by omega), ownB_some h.ok hr hk]
    · obtain rfl := List.mem_singleton.mp hr
      unfold inR at hk
      simp only at hk
      rw [if_pos (by omega)]
  · have h1 := hk _ (List.mem_append_right _ (List.mem_singleton.mpr rfl))
    unfold fillT
    unfold inR at h1
    simp only at h1
    rw [if_neg (by omega)]
    exact ownB_none fun r hr => hk r (List.mem_append_left _ hr)
theorem take_sp (h : SOk s) {m : Int} (h1 : 1 ≤ m) (h2 : m ≤ 32) (hf : fits s m) : p_Store_take [s.T, .int m] = .ok (.int (bestG (gapsS s) (wideOf m)).2) [(takeS s m).T, .any] := by
  obtain ⟨t, w, e1, e2, w1, w2, hN, sep⟩ := takeS_at h h2 hf
  have hn : (t : Int) ∉ s.rs.map (·.1) := fun z => by
    obtain ⟨r, hr, e⟩ := List.mem_map.mp z
    have := sep r hr
    have := (h.ok.pos r hr).2.1
    omega
  have := take_eq (rs := s.rs) (gb := ownB s.rs) (c := rowT s.N s.gc) (G := gapsS s) rfl h1 h2 hf e2 e1 h.nd hn hN h.hN' (Nat.lt_of_le_of_lt h.len (by decide))
  unfold SS.T
  rw [this, take_own h (by omega) hN sep]
  unfold takeS
  rw [e1, e2]
/-! given back -/
open Classical in
noncomputable def giveS (s : SS) (a : Int) : SS := { s with rs := s.rs.filter fun r => decide (r.1 ≠ a), gc := fun k => if (∃ r ∈ s.rs, r.1 = a ∧ inR r k) then .non else s.gc k }
theorem RoomsOk.filter {N : Int} {rs : Rms} (h : RoomsOk N rs) (p : Int × Int → Bool) : RoomsOk N (rs.filter p) := ⟨fun r hr => h.pos r (List.mem_filter.mp hr).1, h.dis.filter p⟩
end Hd

namespace Hd
open PySem PySem.Spec PyProof.Rows L2 Rw
variable {s : SS}
theorem fill_none {N : Int} {rs : Rms} (h : RoomsOk N rs) {a w : Nat} (hr : ((a : Int), (w : Int)) ∈ rs) : fillT (ownB rs) a w .non = ownB (rs.filter fun r => decide (r.1 ≠ (a : Int))) := by
  refine ownB_eq (h.filter _) (fun r h1 k hk => ?_) fun k hk => ?_
  · obtain ⟨h1, h2⟩ := List.mem_filter.mp h1
    have h2 : r.1 ≠ (a : Int) := by simpa using h2
    have := h.sep h1 hr (fun e => h2 (by rw [e]))
    unfold fillT
    unfold inR at hk
    simp only at this
    rw [if_neg (by omega), ownB_some h h1 hk]
  · unfold fillT
    split
    · rfl
    · rename_i c
      refine ownB_none fun r h1 h2 => ?_
      by_cases e : r.1 = (a : Int)
      · have : r = ((a : Int), (w : Int)) := by
          by_cases ne : r = ((a : Int), (w : Int))
          · exact ne
          · have := h.sep h1 hr ne
            have p1 := h.pos _ h1
            have p2 := h.pos _ hr
            simp only at this p2
            omega
        subst this
        unfold inR at h2
        simp only at h2
        exact c (by omega)
      · exact hk r (List.mem_filter.mpr ⟨h1, by simpa using e⟩) h2
theorem giveS_gc (h : SOk s) {a w : Nat} (hr : ((a : Int), (w : Int)) ∈ s.rs) : (giveS s a).gc = fillT s.gc a w .non := by
  funext k
  unfold giveS fillT
  by_cases c : a ≤ k ∧ k < a + w
  · rw [if_pos c]
    exact if_pos ⟨_, hr, rfl, by unfold inR; simp only; omega⟩
  · rw [if_neg c]
    refine if_neg ?_
    rintro ⟨r, h1, h2, h3⟩
    obtain rfl := h.uniq h1 hr h2
    unfold inR at h3
    simp only at h3
    exact c (by omega)
theorem cell_fill {gc : Nat → T} (h : ∀ k, CellOk (gc k)) {a w : Nat} : ∀ k, CellOk (fillT gc a w .non k) := fun k => by
  unfold fillT
  split
  · exact .non
  · exact h k
theorem giveS_ok (h : SOk s) {a w : Nat} (hr : ((a : Int), (w : Int)) ∈ s.rs) : SOk (giveS s a) := by
  refine ⟨h.hN, h.ok.filter _, fun r h1 => h.wd r (List.mem_filter.mp h1).1, fun k hk => ?_, fun k => ?_⟩
  · rw [giveS_gc h hr]
    unfold fillT
    split
    · rfl
    · rename_i c
      refine h.out k fun r h1 h2 => ?_
      by_cases e : r.1 = (a : Int)
      · obtain rfl := h.uniq h1 hr e
        unfold inR at h2
        simp only at h2
        exact c (by omega)
      · exact hk r (List.mem_filter.mpr ⟨h1, by simpa using e⟩) h2
  · rw [giveS_gc h hr]
    exact cell_fill h.cell k
theorem give_sp (h : SOk s) {a w : Nat} (hr : ((a : Int), (w : Int)) ∈ s.rs) : p_Store_give [s.T, .int (a : Int)] = .ok .non [(giveS s a).T, .any] := by
  obtain ⟨a', w', e, w1, w2, hN⟩ := h.nat hr
  obtain ⟨rfl, rfl⟩ : a = a' ∧ w = w' := by simp only [Prod.mk.injEq] at e; omega
  have := give_eq (rs := s.rs) (gb := ownB s.rs) (gc := s.gc) (List.mem_map_of_mem (f := (·.1)) hr) (h.wid hr) (by omega) hN h.hN' h.im
  unfold SS.T
  rw [this, fill_none h.ok hr, giveS_gc h hr]
  rfl
/-! put, told -/
def putS (s : SS) (p : Nat) (t : T) : SS := { s with gc := putR s.gc p t }
theorem putS_ok (h : SOk s) {p : Nat} {t : T} (hp : ∃ r ∈ s.rs, inR r p) (ht : CellOk t) : SOk (putS s p t) := by
  refine ⟨h.hN, h.ok, h.wd, fun k hk => ?_, fun k => ?_⟩
  · show putR s.gc p t k = .non
    unfold putR
    split
    · rename_i e
      subst e
      obtain ⟨r, hr, h2⟩ := hp
      exact absurd h2 (hk r hr)
    · exact h.out k hk
  · show CellOk (putR s.gc p t k)
    unfold putR
    split
    · exact ht
    · exact h.cell k
theorem inR_lt (h : SOk s) {r : Int × Int} (hr : r ∈ s.rs) {p : Nat} (hp : inR r p) : p < s.N := by
  have := h.ok.pos r hr
  unfold inR at hp
  omega
theorem put_sp (h : SOk s) {p : Nat} {t : T} (hp : ∃ r ∈ s.rs, inR r p) (ht : CellOk t) : p_Store_put [s.T, .int (p : Int), t] = .ok .non [(putS s p t).T, .any, .any] := by
  obtain ⟨r, hr, h2⟩ := hp
  exact put_eq (rs := s.rs) (gb := ownB s.rs) (gc := s.gc) (inR_lt h hr h2) (ownB_some h.ok hr h2) ht
theorem told_sp (h : SOk s) {p : Nat} (hp : p < s.N) : p_Store_told [s.T, .int (p : Int)] = .ok (s.gc p) [.any, .any] := told_eq hp (h.cell p).im
theorem rooms_sp (h : SOk s) : p_Store_rooms [s.T] = .ok (.lst (rowsT (srt s.rs))) [.any] := rooms_eq h.nd (Nat.lt_of_le_of_lt h.len (by decide))
theorem stretches_sp (h : SOk s) : p_Store_stretches [s.T] = .ok (.lst (rowsT (gapsS s))) [.any] := stretches_eq h.nd (Nat.lt_of_le_of_lt h.len (by decide))
def newS (N : Nat) : SS := ⟨N, [], fun _ => .non⟩
theorem newS_ok {N : Nat} (h : N ≤ 20000) : SOk (newS N) := ⟨h, ⟨fun _ h => by simp [newS] at h, by simp [newS]⟩, fun _ h => by simp [newS] at h, fun _ _ => rfl, fun _ => .non⟩
theorem init_sp {N : Nat} (h : (16 ≤ N ∧ N ≤ 512) ∨ N = 20000) : p_StoreU_initU [s0, .int (N : Int)] = .ok .non [(newS N).T, .any] := init_eq h
end Hd

namespace Hd
open PySem PySem.Spec PyProof.Rows L2 Rw
theorem imL_c {x : T} {xs : List T} : T.imL (x :: xs) = (x.im && T.imL xs) := rfl
theorem imL_n : T.imL [] = true := rfl
theorem im_tup {xs : List T} : (T.tup xs).im = T.imL xs := rfl
theorem im_lst {xs : List T} : (T.lst xs).im = false := rfl
theorem im_dct {xs : List (Key × T)} : (T.dct xs).im = false := rfl
theorem sT_im {s : SS} : s.T.im = false := rfl
theorem s0_eq : T.ins (Str.ofString "Store") [] = s0 := rfl
section
variable {s : SS}
theorem sm_rooms' : isMth "Store" "rooms" s.T = true := m_rooms
theorem sm_stretches : isMth "Store" "stretches" s.T = true := m_stretches
theorem sm_told : isMth "Store" "told" s.T = true := m_told
theorem sm_put : isMth "Store" "put" s.T = true := m_put
theorem sm_take : isMth "Store" "take" s.T = true := m_take
theorem sm_give : isMth "Store" "give" s.T = true := m_give
theorem sm_move : isMth "Store" "move" s.T = true := m_move
theorem sm_size : isMth "Store" "size" s.T = true := mth _ (by decide)
theorem sm_free : isMth "Store" "free" s.T = true := mth _ (by decide)
theorem sm_copied : isMth "Store" "copied" s.T = true := mth _ (by decide)
theorem sm_few : fewF s.T = true := rfl
theorem draw_fix : True := True.intro
end
end Hd

open Rw in
local macro_rules | `(tactic| walk_at "pv") => `(tactic| try simp only [PX, Hd.fN, Hd.fW, Hd.fB, Hd.fC, Hd.gN, Hd.gW, Hd.gB, Hd.gC, Hd.uW, Hd.uB, Hd.uC, Hd.aN, Hd.aW, Hd.aB, Hd.aC, Hd.fewS, Hd.m_rooms, Hd.m_stretches, Hd.m_wide_at, Hd.m_told, Hd.m_put, Hd.m_take, Hd.m_give, Hd.m_move, Hd.m_can_move, Hd.m_want_begin, Hd.m_clear_room, Hd.m_lay_room, Hd.m_is_place, Hd.is_whole_int, x_methP, x_plAttr, x_attrS, x_methE, x_methVE, x_varP, x_cP, x_nilP, x_yesP, x_noneP, x_pnilP, x_cnilF, x_cnilE, x_plVar, x_cvarE, x_cplcF, x_setKV, x_callE, x_stp, x_rng1P, x_rng2P, x_rng1E, nx_ok, nx_bad, f_eq_str, f_eq_int, ix0, ix1, ix2, e_lt, e_le, e_gt, e_ge, e_add, e_sub, e_neg, e_isi, yn_int, yn_bl, yn_str, yn_non, yn_tup, yn_lst, yn_dct, z_int_int, z_int_bool, z_int_str, z_int_tuple, z_int_list, z_int_dict, z_bool_int, z_bool_bool, z_bool_str, z_bool_tuple, z_bool_list, z_bool_dict, z_str_int, z_str_bool, z_str_str, z_str_tuple, z_str_list, z_str_dict, z_NoneType_int, z_NoneType_bool, z_NoneType_str, z_NoneType_tuple, z_NoneType_list, z_NoneType_dict, z_tuple_int, z_tuple_bool, z_tuple_str, z_tuple_tuple, z_tuple_list, z_tuple_dict, z_list_int, z_list_bool, z_list_str, z_list_tuple, z_list_list, z_list_dict, z_dict_int, z_dict_bool, z_dict_str, z_dict_tuple, z_dict_list, z_dict_dict, e_lenl, e_lent, w_lst, w_tup, i_lst, i_tup, k_int, k_str, is_non, is_int, is_tup, is_str, isn_non, isn_int, isn_tup, it_lst, it_dct, it_ld, it_dl, fin_nx, fin_rt, fin_exc, outs0, outs1, outs2, outs3, outs4, outs5, rbok, ebok, rbbad, ebbad, upok, upbad, ofs, oes, List.getElem?_cons_zero, List.getElem?_cons_succ, t_bor, t_lnd, t_own, t_par, t_no, m_bor, m_lnd, m_own, m_par, m_no, u_own, u_par, p_bor, p_lnd, p_own, p_par, p_no, o_par, o_bor, o_own, o_no, tru_bl, im_int, im_non, im_bl, im_str, gP0, gPs, sP0, sPs, List.length_nil, List.length_cons, and_self, if_true, if_false, plugT, pickH, List.map, ntT0, ntTs, Nat.reduceLT, leS0, ltS0, leS1, ltS1, leS2, ltS2, leS3, ltS3, leS4, ltS4, leS5, ltS5, leS6, ltS6, leS7, ltS7, leS8, ltS8, leS9, ltS9, List.nil_append, List.cons_append, Bool.not_true, Bool.not_false, Bool.true_and, Bool.false_and, Bool.and_true, Bool.and_false, and_true, true_and, decide_true, Bool.false_eq_true, reduceIte, Nat.reduceAdd, treeAt, mineAt, setAt, Option.bind_some, Option.getD_some, Option.getD_none, Option.bind_none, Option.map_some, Option.isSome_some, List.set_cons_zero, List.set_cons_succ, takes, strips, backs, parL, newU, argT, borT, callP, Hd.imL_c, Hd.imL_n, Hd.im_tup, Hd.im_lst, Hd.im_dct, Hd.sT_im, Hd.s0_eq, Hd.sm_rooms', Hd.sm_stretches, Hd.sm_told, Hd.sm_put, Hd.sm_take, Hd.sm_give, Hd.sm_move, Hd.sm_size, Hd.sm_free, Hd.sm_copied, Hd.sm_few, asgKV, ixVE, setKV])

namespace Hd
open PySem PySem.Spec PyProof.Rows L2 Rw
/-! ### what repr shows -/
structure ShT (t : T) (w dep : Nat) : Prop where
  ex : ∃ d : PyData, t.dat = some d ∧ d.showable = true ∧ d.leavesShort 13 = true ∧ d.weight ≤ w ∧ d.depth ≤ dep
structure ShL (ts : List T) (w dep : Nat) : Prop where
  ex : ∃ ds : List PyData, T.datL ts = some ds ∧ PyData.showableAll ds = true ∧ PyData.leavesShortAll 13 ds = true ∧ PyData.weightAll ds ≤ w ∧ PyData.depthAll ds ≤ dep
theorem ShT.int {i : Int} (h : i.natAbs < 10 ^ 12) : ShT (.int i) 41 0 := by
  have hl : i.natAbs.log2 < 40 ∨ i.natAbs = 0 := by
    by_cases h0 : i.natAbs = 0
    · exact .inr h0
    · left
      exact (Nat.log2_lt h0).mpr (Nat.lt_of_lt_of_le h (by decide))
  refine ⟨.int i, rfl, ?_, ?_, ?_, by simp [PyData.depth]⟩
  · simp only [PyData.showable, decide_eq_true_eq]
    rcases hl with z | z
    · omega
    · rw [z]; decide
  · simp only [PyData.leavesShort, decide_eq_true_eq]
    show (Str.ofString (toString i)).length ≤ 13
    rw [PySem.ofString_length]
    exact int_text_length_le10 (k := 12) (by decide) h
  · simp only [PyData.weight]
    split
    · omega
    · rcases hl with z | z
      · omega
      · rw [z]; decide
theorem ShT.int' {i : Int} (h0 : 0 ≤ i) (h1 : i ≤ 999999999999) : ShT (.int i) 41 0 := .int (by omega)
theorem ShT.non : ShT .non 0 0 := ⟨.none, rfl, by simp [PyData.showable], by simp [PyData.leavesShort], by simp [PyData.weight], by simp [PyData.depth]⟩
theorem ShT.bl {b : Bool} : ShT (.bl b) 0 0 := ⟨.bool b, rfl, by simp [PyData.showable], by simp [PyData.leavesShort], by simp [PyData.weight], by simp [PyData.depth]⟩
theorem ShT.mono {t : T} {w w' p p' : Nat} (h : ShT t w p) (hw : w ≤ w') (hp : p ≤ p') : ShT t w' p' := by
  obtain ⟨d, e, a, b, c, f⟩ := h
  exact ⟨d, e, a, b, Nat.le_trans c hw, Nat.le_trans f hp⟩
theorem ShL.nil {p : Nat} : ShL [] 0 p := ⟨[], rfl, by simp [PyData.showableAll], by simp [PyData.leavesShortAll], by simp [PyData.weightAll], by simp [PyData.depthAll]⟩
theorem ShL.cons {t : T} {ts : List T} {w v p : Nat} (h : ShT t w p) (hs : ShL ts v p) : ShL (t :: ts) (w + 1 + v) p := by
  obtain ⟨d, e, a, b, c, f⟩ := h
  obtain ⟨ds, e', a', b', c', f'⟩ := hs
  refine ⟨d :: ds, ?_, ?_, ?_, ?_, ?_⟩
  · show (match t.dat, T.datL ts with | some d, some ds => some (d :: ds) | _, _ => none) = _
    rw [e, e']
  · simp only [PyData.showableAll, a, a', Bool.and_self]
  · simp only [PyData.leavesShortAll, b, b', Bool.and_self]
  · simp only [PyData.weightAll]
    omega
  · simp only [PyData.depthAll]
    omega
theorem ShL.all {w p : Nat} : ∀ {ts : List T}, (∀ t ∈ ts, ShT t w p) → ShL ts ((w + 1) * ts.length) p
  | [], _ => .nil
  | t :: ts, h => by
    have := ShL.cons (h t List.mem_cons_self) (ShL.all fun u hu => h u (List.mem_cons_of_mem _ hu))
    rw [List.length_cons, Nat.mul_succ, Nat.add_comm]
    exact this
theorem ShL.mono {ts : List T} {w w' p p' : Nat} (h : ShL ts w p) (hw : w ≤ w') (hp : p ≤ p') : ShL ts w' p' := by
  obtain ⟨d, e, a, b, c, f⟩ := h
  exact ⟨d, e, a, b, Nat.le_trans c hw, Nat.le_trans f hp⟩
theorem ShL.tup {ts : List T} {w p : Nat} (h : ShL ts w p) : ShT (.tup ts) w (p + 1) := by
  obtain ⟨ds, e, a, b, c, f⟩ := h
  refine ⟨.tuple ds, ?_, ?_, ?_, ?_, ?_⟩
  · show (T.datL ts).map PyData.tuple = _
    rw [e]; rfl
  · simp only [PyData.showable, a]
  · simp only [PyData.leavesShort, b]
  · simp only [PyData.weight]; exact c
  · simp only [PyData.depth]; omega
theorem ShL.lst {ts : List T} {w p : Nat} (h : ShL ts w p) : ShT (.lst ts) w (p + 1) := by
  obtain ⟨ds, e, a, b, c, f⟩ := h
  refine ⟨.list ds, ?_, ?_, ?_, ?_, ?_⟩
  · show (T.datL ts).map PyData.list = _
    rw [e]; rfl
  · simp only [PyData.showable, a]
  · simp only [PyData.leavesShort, b]
  · simp only [PyData.weight]; exact c
  · simp only [PyData.depth]; omega
theorem ShT.str {z : Str} (h : z.cps.size ≤ 30) (h1 : (PyData.str z).showable = true) (h2 : (PyData.str z).leavesShort 13 = true) : ShT (.str z) 30 0 := ⟨.str z, rfl, h1, h2, by simp only [PyData.weight]; exact h, by simp [PyData.depth]⟩
theorem ShT.repr {t : T} {w p : Nat} (h : ShT t w p) (hw : w ≤ 1000000) (hp : p ≤ 100) : ∃ z, q_repr [t] = some (.str z) := by
  obtain ⟨d, e, a, b, c, f⟩ := h
  refine ⟨d.shown, ?_⟩
  unfold q_repr
  simp only [e, Option.bind_some]
  rw [if_pos]
  exact ⟨a, Nat.le_trans f hp, PyData.shown_fits (B := 13) (by decide) (by decide) b (Nat.le_trans c (Nat.le_trans hw (by decide)))⟩
theorem ShT.to : ShT (.str "to") 30 0 := .str (by decide +kernel) (by decide +kernel) (by decide +kernel)
theorem ShT.thing : ShT (.str "thing") 30 0 := .str (by decide +kernel) (by decide +kernel) (by decide +kernel)
theorem CellOk.sh {t : T} (h : CellOk t) : ShT t 200 1 := by
  cases h with
  | non => exact ShT.non.mono (by omega) (by omega)
  | int h0 h1 => exact (ShT.int' h0 h1).mono (by omega) (by omega)
  | to h0 h1 => exact ((ShL.cons .to (.cons (.int' h0 h1) .nil)).tup).mono (by omega) (by omega)
  | thing h0 h1 h2 h3 => exact ((ShL.cons .thing (.cons (.int' (by omega) h1) (.cons (.int' h2 (by omega)) .nil))).tup).mono (by omega) (by omega)
theorem f_ne_str {a b : Str} : f_ne (.str a) (.str b) = some (.bl (!decide (a = b))) := by
  have h := f_eq_str (a := a) (b := b)
  unfold f_eq at h
  unfold f_ne
  obtain ⟨c, e, h⟩ := Option.map_eq_some_iff.mp h
  cases h
  rw [e]
  rfl
end Hd

namespace Hd
open PySem PySem.Spec PyProof.Rows L2 Rw
theorem e_mod {i j : Int} (h : 0 < j) : f_mod (.int i) (.int j) = some (.int (i % j)) := by
  unfold f_mod f_ii
  simp only [decide_eq_true h, if_true]
theorem e_div {i j : Int} (h : 0 < j) (h2 : j < 1000000) : f_div (.int i) (.int j) = some (.int (i / j)) := by
  unfold f_div f_ii
  have e : decide (j < 2 ^ 30) = true := decide_eq_true (by omega)
  simp only [decide_eq_true h, e, Bool.and_self, if_true]
theorem e_mul {i j : Int} (h0 : 0 ≤ i) (h1 : i < 4294967296) : f_mul (.int i) (.int j) = some (.int (i * j)) := by
  unfold f_mul cMul
  have e1 : decide (-(2 ^ 64) < i) = true := decide_eq_true (by omega)
  have e2 : decide (i < 2 ^ 64) = true := decide_eq_true (by omega)
  simp only [e1, e2, Bool.and_self, Bool.true_or, if_true]
theorem e_divmod {i j : Int} (h : 0 < j) (h2 : j < 1000000) : q_divmod [.int i, .int j] = some (.tup [.int (i / j), .int (i % j)]) := by
  unfold q_divmod
  refine if_pos ⟨h, Int.lt_trans h2 (by decide +kernel)⟩
def potT (a b : Int) : T := .lst [.int a, .int b]
def PotOk (t : T) : Prop := ∃ a b : Int, t = potT a b ∧ 0 ≤ a ∧ 0 ≤ b ∧ b < 2147483647
theorem pot0 {a b : Int} : f_ix (potT a b) (.int 0) = some (.int a) := lx0
theorem pot1 {a b : Int} : f_ix (potT a b) (.int 1) = some (.int b) := lx1
theorem put0 {a b : Int} {t : T} : putT (potT a b) (.int 0) t = some (.lst [t, .int b]) := rfl
theorem put1' {a b : Int} {t : T} : putT (potT a b) (.int 1) t = some (.lst [.int a, t]) := rfl
theorem draw_eq {a b k : Int} (ha : 0 ≤ a) (hb : 0 ≤ b) (hb2 : b < 2147483647) (hk : 0 < k) (hk2 : k < 1000000) : ∃ d t, p__law_draw [potT a b, .int k] = .ok (.int d) [t, .any] ∧ 0 ≤ d ∧ d < k ∧ PotOk t := by
  rw [q__law_draw]
  unfold S__law_draw
  walk_at "ps"
  rw [pot0]
  walk_at "ps"
  by_cases h : 0 < a
  · simp only [h, decide_true]
    walk_at "ps"
    rw [pot0]
    walk_at "ps"
    rw [e_divmod hk hk2]
    walk_at "ps"
    rw [put0]
    walk_at "ps"
    refine ⟨a % k, _, rfl, Int.emod_nonneg _ (by omega), Int.emod_lt_of_pos _ hk, a / k, b, rfl, Int.ediv_nonneg ha (by omega), hb, hb2⟩
  · simp only [h, decide_false]
    walk_at "ps"
    rw [pot1]
    walk_at "ps"
    rw [e_mul hb (by omega)]
    walk_at "ps"
    rw [e_mod (by omega)]
    walk_at "ps"
    rw [put1']
    walk_at "ps"
    have hq0 : 0 ≤ (b * 48271 + 11) % 2147483647 := Int.emod_nonneg _ (by omega)
    have hq1 : (b * 48271 + 11) % 2147483647 < 2147483647 := Int.emod_lt_of_pos _ (by omega)
    generalize (b * 48271 + 11) % 2147483647 = q at *
    rw [show f_ix (T.lst [T.int a, T.int q]) (T.int 1) = some (.int q) from lx1]
    walk_at "ps"
    rw [e_mul hq0 (by omega)]
    walk_at "ps"
    rw [e_mod (by omega)]
    walk_at "ps"
    rw [e_div (by omega) (by omega)]
    walk_at "ps"
    rw [e_mod hk]
    walk_at "ps"
    exact ⟨_, _, rfl, Int.emod_nonneg _ (by omega), Int.emod_lt_of_pos _ hk, a, q, rfl, ha, hq0, hq1⟩
theorem draw_ok {t : T} {k : Int} (h : PotOk t) (hk : 0 < k) (hk2 : k < 1000000) : ∃ d t', p__law_draw [t, .int k] = .ok (.int d) [t', .any] ∧ 0 ≤ d ∧ d < k ∧ PotOk t' := by
  obtain ⟨a, b, rfl, h1, h2, h3⟩ := h
  exact draw_eq h1 h2 h3 hk hk2
theorem ix_mem {xs : List T} {d : Int} (h0 : 0 ≤ d) (h1 : d < (xs.length : Int)) : ∃ u, u ∈ xs ∧ f_ix (.lst xs) (.int d) = some u := by
  obtain ⟨k, rfl⟩ := Int.eq_ofNat_of_zero_le h0
  have hk : k < xs.length := by omega
  exact ⟨xs[k], List.getElem_mem hk, ix_lst (List.getElem?_eq_getElem hk)⟩
theorem pick_int {ns : List Int} {d : Int} (h0 : 0 ≤ d) (h1 : d < (ns.length : Int)) : ∃ n ∈ ns, f_ix (.lst (ns.map T.int)) (.int d) = some (.int n) := by
  obtain ⟨u, hu, e⟩ := ix_mem (xs := ns.map T.int) h0 (by simpa using h1)
  obtain ⟨n, hn, rfl⟩ := List.mem_map.mp hu
  exact ⟨n, hn, e⟩
end Hd

namespace Hd
open PySem PySem.Spec PyProof.Rows L2 Rw
theorem pot_eq {i : Int} : ∃ a b, p__law_pot [.int i] = .ok (potT a b) [.any] ∧ 0 ≤ a ∧ 0 ≤ b ∧ b < 2147483647 := by
  rw [q__law_pot]
  unfold S__law_pot
  walk_at "ps"
  have ea : ∃ j : Int, 0 ≤ j ∧ q_abs [.int i] = some (.int j) := by
    unfold q_abs
    refine ⟨_, ?_, rfl⟩
    first | omega | (split <;> omega) | exact Int.natCast_nonneg _
  obtain ⟨j, hj, ea⟩ := ea
  rw [ea, show f_pow (.int 10) (.int 18) = some (.int (10 ^ 18)) from rfl]
  walk_at "ps"
  rw [show ∀ x : Int, q_max2 [.int 0, .int x] = some (.int (if x > 0 then x else 0)) from fun x => rfl, e_mod (by omega)]
  walk_at "ps"
  refine ⟨_, _, rfl, ?_, ?_, ?_⟩
  · split <;> omega
  · omega
  · omega
end Hd

namespace Hd
open PySem PySem.Spec PyProof.Rows L2 Rw
theorem wides_fm {m : Int} {r : List Int} (er : (widesL.filter fun w => decide (m ≤ w)) = wideOf m :: r) : (widesL.map T.int).filterMap (fun t => match t with | .int x => if m ≤ x then some (.int x) else none | _ => none) = .int (wideOf m) :: r.map T.int := by
  rw [← List.map_cons, ← er, List.filterMap_map]
  generalize widesL = L
  induction L with
  | nil => rfl
  | cons x L ih =>
    rw [List.filterMap_cons, List.filter_cons, ih]
    by_cases h : m ≤ x
    · simp [h]
    · simp [h]
theorem law_wide_eq {m : Int} (h2 : m ≤ 32) : p__law_wide [.int m] = .ok (.int (wideOf m)) [.any] := by
  rw [q__law_wide]
  unfold S__law_wide
  walk_at "ps"
  obtain ⟨r, er⟩ := wides_some h2
  rw [show [T.int 2, T.int 3, T.int 4, T.int 6, T.int 8, T.int 12, T.int 16, T.int 24, T.int 32] = widesL.map T.int from rfl, lcGo_fm (g := fun t => match t with | .int x => if m ≤ x then some (.int x) else none | _ => none)]
  · walk_at "ps"
    rw [wides_fm er, lx0]
    walk_at "ps"
  · intro x hx
    obtain ⟨i, hi, rfl⟩ := List.mem_map.mp hx
    unfold lcStep
    simp only [PX, wipeE, List.set, List.length_cons, List.length_nil]
    walk_at "ps"
    by_cases h : m ≤ i
    · simp only [h, decide_true, if_true]
      walk_at "ps"
    · simp only [h, decide_false, if_false]
      walk_at "ps"
end Hd

namespace Hd
open PySem PySem.Spec PyProof.Rows L2 Rw
variable {N : Nat} {rs : Rms} {gb gc : Nat → T} {b c : List T}
theorem len_S' {n : Nat} (h : n ≤ 100000) : n ≤ sizeLine := Nat.le_trans h (by rw [sizeLine_eq]; decide)
theorem longest_eq {G : Rms} (hG : gaps 0 (srt rs ++ [((N : Int), 0)]) = G) (nd : (rs.map (·.1)).Nodup) (hz : rs.length < 80000) : p__law_longest [stT N (kT rs) b c] = .ok (.int (maxI (0 :: G.map (·.2)))) [.any] := by
  rw [q__law_longest]
  unfold S__law_longest
  walk_at "ps"
  simp only [roF_ok (stretches_eq nd (Nat.lt_trans hz (by decide)) (b := b) (c := c)), hG]
  walk_at "ps"
  have hlen : G.length ≤ 90000 := by
    rw [← hG]
    refine Nat.le_trans (gaps_len _ _) ?_
    rw [List.length_append, (srt_perm nd).length_eq]
    simp
    omega
  have hGs : (rowsT G).length < sizeLine := by rw [rowsT_len]; exact sizeLine_big (by omega)
  rw [lcGo_map (g := fun t => match t with | .tup [_, l] => l | _ => .any)]
  · walk_at "ps"
    rw [if_pos hGs]
    walk_at "ps"
    have e : List.map (fun t => match t with | T.tup [_, l] => l | _ => .any) (rowsT G) = (G.map (·.2)).map T.int := by
      unfold rowsT
      rw [List.map_map, List.map_map]
      rfl
    rw [e, f_add_lst rfl (imL_all fun x hx => by obtain ⟨_, _, rfl⟩ := List.mem_map.mp hx; rfl) (by simp; exact len_S' (by omega))]
    walk_at "ps"
    have e2 : q_max1 [.lst ([T.int 0] ++ (G.map (·.2)).map T.int)] = some (.int (maxI (0 :: G.map (·.2)))) := by
      unfold q_max1
      simp only [T.lits, Option.bind_some]
      rw [show [T.int 0] ++ (G.map (·.2)).map T.int = (0 :: G.map (·.2)).map T.int from rfl, ints_map]
      rfl
    rw [show T.int 0 :: (G.map (·.2)).map T.int = [T.int 0] ++ (G.map (·.2)).map T.int from rfl, e2]
    walk_at "ps"
  · intro x hx
    obtain ⟨g, hg, rfl⟩ := List.mem_map.mp hx
    unfold lcStep
    simp only [PX, wipeE, List.set, List.length_cons, List.length_nil]
    walk_at "ps"
theorem longest_sp {s : SS} (h : SOk s) : p__law_longest [s.T] = .ok (.int (maxI (0 :: (gapsS s).map (·.2)))) [.any] := longest_eq (rs := s.rs) (N := s.N) rfl h.nd (Nat.lt_of_le_of_lt h.len (by decide))
theorem fits_iff {s : SS} {m : Int} (h2 : m ≤ 32) : wideOf m ≤ maxI (0 :: (gapsS s).map (·.2)) ↔ fits s m := by
  have hm := wides_pos (wideOf_mem h2).1
  constructor
  · intro h
    rcases List.mem_cons.mp (maxI_mem (ns := 0 :: (gapsS s).map (·.2)) (List.cons_ne_nil _ _)) with e | e
    · omega
    · obtain ⟨g, hg, e⟩ := List.mem_map.mp e
      exact ⟨g, hg, by omega⟩
  · rintro ⟨g, hg, hw⟩
    have := maxI_ge (ns := 0 :: (gapsS s).map (·.2)) (List.mem_cons_of_mem _ (List.mem_map_of_mem (f := (·.2)) hg))
    omega
end Hd

namespace Hd
open PySem PySem.Spec PyProof.Rows L2 Rw
theorem len_frz {xs : List T} (h : xs.length ≤ 1000) : q_len [.frz xs] = some (.int (xs.length : Int)) := rfl
theorem ix_frz {xs : List T} {k : Nat} {t : T} (h : xs[k]? = some t) : f_ix (.frz xs) (.int (k : Int)) = some t := ix_lst h
theorem cell_sp {ns : List Int} {k : Nat} (hl : ns.length ≤ 63) : ∃ i, p__law_cell [.frz (ns.map T.int), .int (k : Int)] = .ok (.int i) [.any, .any] := by
  rw [q__law_cell]
  unfold S__law_cell
  walk_at "pv"
  rw [len_frz (by simp; omega)]
  walk_at "pv"
  rw [List.length_map]
  by_cases c : (k : Int) < (ns.length : Int)
  · simp only [c, decide_true]
    walk_at "pv"
    have hk : k < ns.length := by omega
    rw [ix_frz (t := T.int ns[k]) (by rw [List.getElem?_map, List.getElem?_eq_getElem hk]; rfl)]
    walk_at "pv"
    exact ⟨_, rfl⟩
  · simp only [c, decide_false]
    walk_at "pv"
    exact ⟨_, rfl⟩
end Hd

namespace Hd
open PySem PySem.Spec PyProof.Rows L2 Rw
/-- data that may be compared -/
def FlatD (t : T) : Prop := ∃ d : PyData, t.dat = some d ∧ d.canLay0 = true ∧ d.depth ≤ 3
theorem flat_all : ∀ {xs : List T}, (∀ t ∈ xs, FlatD t) → ∃ ds, T.datL xs = some ds ∧ PyData.canLayAll0 ds = true ∧ PyData.depthAll ds ≤ 3 ∧ ds.length = xs.length
  | [], _ => ⟨[], rfl, rfl, Nat.zero_le _, rfl⟩
  | x :: xs, h => by
    obtain ⟨d, e, h1, h2⟩ := h x List.mem_cons_self
    obtain ⟨ds, e2, h3, h4, h5⟩ := flat_all fun y hy => h y (List.mem_cons_of_mem _ hy)
    refine ⟨d :: ds, ?_, ?_, ?_, by rw [List.length_cons, List.length_cons, h5]⟩
    · simp only [T.datL]
      rw [e, e2]
    · simp only [PyData.canLayAll0, h1, h3, Bool.and_self]
    · simp only [PyData.depthAll]
      omega
theorem eq_nil {xs : List T} (h : ∀ t ∈ xs, FlatD t) : f_eq (.lst xs) (.lst []) = some (.bl xs.isEmpty) := by
  obtain ⟨ds, e, h1, h2, h3⟩ := flat_all h
  unfold f_eq eqF
  simp only [T.sv, T.dat, T.datL]
  rw [e]
  simp only [Option.map_some]
  rw [if_pos]
  · cases ds with
    | nil =>
      cases xs with
      | nil => rfl
      | cons _ _ => cases h3
    | cons d ds =>
      cases xs with
      | nil => cases h3
      | cons _ _ => rfl
  · refine ⟨?_, by decide +kernel⟩
    unfold SeqAt.shaped
    rw [Bool.and_eq_true]
    refine ⟨h1, decide_eq_true ?_⟩
    simp only [PyData.depth]
    omega
theorem ne_nil {xs : List T} (h : ∀ t ∈ xs, FlatD t) : f_ne (.lst xs) (.lst []) = some (.bl (!xs.isEmpty)) := by
  have h := eq_nil h
  unfold f_eq at h
  unfold f_ne
  obtain ⟨c, e, h⟩ := Option.map_eq_some_iff.mp h
  cases h
  rw [e]
  rfl
theorem flat_ints {ns : List Int} : ∀ t ∈ ns.map T.int, FlatD t := fun t ht => by
  obtain ⟨i, _, rfl⟩ := List.mem_map.mp ht
  exact ⟨_, rfl, rfl, by show 0 ≤ 3; decide⟩
end Hd

namespace Hd
open PySem PySem.Spec PyProof.Rows L2 Rw
theorem rb_exc {α β σ : Type} {x : Xc} {e : σ} {f : α → σ → Re σ β} : (Re.exc x e : Re σ α).bind f = .exc x e := rfl
theorem coll_eq {f : Addr → Addr → Re Ev Fl} {r : Re Ev Fl} (h : ∀ a d, f a d = r) : coll f = r := by
  rw [show f = fun _ _ => r from funext fun a => funext fun d => h a d]
  exact coll_const
theorem f_ne_int {a b : Int} : f_ne (.int a) (.int b) = some (.bl (!decide (a = b))) := by
  have h := f_eq_int (a := a) (b := b)
  unfold f_eq at h
  unfold f_ne
  obtain ⟨c, e, h⟩ := Option.map_eq_some_iff.mp h
  cases h
  rw [e]
  rfl
end Hd

namespace Hd
open PySem PySem.Spec PyProof.Rows L2 Rw
variable {s : SS}
def longS (s : SS) : Int := maxI (0 :: (gapsS s).map (·.2))
def g2nd : T → T
  | .tup [_, l] => l
  | _ => .any
theorem g2nd_rows {G : Rms} : List.map g2nd (rowsT G) = (G.map (·.2)).map T.int := by
  unfold rowsT
  rw [List.map_map, List.map_map]
  rfl
theorem maxD_long (h : SOk s) : q_maxD [.lst (((gapsS s).map (·.2)).map T.int)] [.int 0] = some (.int (longS s)) := by
  unfold q_maxD
  simp only [T.lits, Option.bind_some]
  rw [ints_map]
  simp only [Option.bind_some]
  by_cases c : ((gapsS s).map (·.2)).isEmpty = true
  · rw [if_pos c]
    have e : (gapsS s).map (·.2) = [] := List.isEmpty_iff.mp c
    unfold longS
    rw [e]
    rfl
  · rw [if_neg c]
    have ne : (gapsS s).map (·.2) ≠ [] := fun z => c (by rw [z]; rfl)
    unfold longS
    congr 2
    have h1 := maxI_mem ne
    have h2 := maxI_ge (ns := 0 :: (gapsS s).map (·.2)) (List.mem_cons_of_mem _ h1)
    obtain ⟨g, hg, e⟩ := List.mem_map.mp h1
    have hp := (gaps_pos h.ok (Int.natCast_nonneg _) hg).2.1
    rcases List.mem_cons.mp (maxI_mem (ns := 0 :: (gapsS s).map (·.2)) (List.cons_ne_nil _ _)) with e2 | e2
    · omega
    · have := maxI_ge e2
      omega
theorem long_lt (h : SOk s) {m : Int} (h2 : m ≤ 32) : longS s < wideOf m ↔ ¬ fits s m := by
  have := fits_iff (s := s) h2
  unfold longS
  rw [← this]
  omega
theorem take_no (h : SOk s) {m : Int} (h1 : 1 ≤ m) (h2 : m ≤ 32) (hf : ¬ fits s m) : p_Store_take [s.T, .int m] = .exc ⟨"NoRoom", [("longest", .int (longS s)), ("wanted", .int (wideOf m))]⟩ [s.T, .any] := by
  have hlen := gapsS_len h
  rw [q_Store_take]
  unfold S_Store_take
  walk_at "pv"
  simp only [roF_ok (wide_of_eq h1 h2)]
  walk_at "pv"
  simp only [roF_ok (stretches_sp h)]
  walk_at "pv"
  rw [lcGo_map (g := g2nd)]
  · walk_at "pv"
    rw [if_pos (by rw [rowsT_len]; exact sizeLine_big (by omega))]
    walk_at "pv"
    rw [g2nd_rows, maxD_long h]
    walk_at "pv"
    have hlt : longS s < wideOf m := (long_lt h h2).mpr hf
    simp only [hlt, decide_true]
    walk_at "pv"
    unfold raiseI
    walk_at "pv"
    rw [rb_exc]
    walk_at "pv"
    try rfl
  · intro x hx
    obtain ⟨g, hg, rfl⟩ := List.mem_map.mp hx
    unfold lcStep
    simp only [PX, wipeE, List.set, List.length_cons, List.length_nil]
    walk_at "pv"
    try rfl
theorem size_sp : p_Store_size [s.T] = .ok (.int (s.N : Int)) [.any] := by
  rw [q_Store_size]
  unfold S_Store_size SS.T
  walk_at "pv"
def gGc (s : SS) : T → T
  | .int k => s.gc k.toNat
  | _ => .any
theorem shown_sp (h : SOk s) (hN : s.N ≤ 512) : ∃ z, p__law_shown [s.T] = .ok (.str z) [.any] := by
  have hlen := h.len
  rw [q__law_shown]
  unfold S__law_shown
  walk_at "pv"
  simp only [roF_ok size_sp]
  walk_at "pv"
  simp only [roF_ok (rooms_sp h)]
  walk_at "pv"
  rw [rng1_ok (by omega) (by omega)]
  walk_at "pv"
  rw [lcGo_map (g := gGc s)]
  · walk_at "pv"
    rw [if_pos (by rw [rngT_len]; exact sizeLine_big (by omega))]
    walk_at "pv"
    have h1 : ∀ t ∈ rowsT (srt s.rs), ShT t 84 1 := fun t ht => by
      obtain ⟨r, hr, rfl⟩ := List.mem_map.mp ht
      have hr := (srt_perm h.nd).mem_iff.mp hr
      have := h.ok.pos r hr
      have := wides_pos (h.wd r hr)
      exact ((ShL.cons (.int' (by omega) (by omega)) (.cons (.int' (by omega) (by omega)) .nil)).tup).mono (by omega) (by omega)
    have h2 : ∀ t ∈ List.map (gGc s) (rngT 0 (s.N : Int).toNat), ShT t 200 1 := fun t ht => by
      obtain ⟨u, hu, rfl⟩ := List.mem_map.mp ht
      obtain ⟨k, hk, rfl⟩ := List.mem_map.mp hu
      exact (h.cell _).sh
    have l1 : (84 + 1) * (rowsT (srt s.rs)).length ≤ 85 * 10000 := by
      rw [rowsT_len, (srt_perm h.nd).length_eq]
      exact Nat.mul_le_mul_left _ h.len
    have l2 : (200 + 1) * (List.map (gGc s) (rngT 0 (s.N : Int).toNat)).length ≤ 201 * 512 := by
      rw [List.length_map, rngT_len]
      exact Nat.mul_le_mul_left _ (by omega)
    have e := (ShL.cons ((ShT.int' (i := (s.N : Int)) (by omega) (by omega)).mono (Nat.le_refl _) (by omega)) (.cons ((ShL.all h1).lst.mono (Nat.le_refl _) (Nat.le_refl 2)) (.cons ((ShL.all h2).lst.mono (Nat.le_refl _) (Nat.le_refl 2)) .nil))).lst
    obtain ⟨z, ez⟩ := e.repr (by omega) (by omega)
    rw [ez]
    walk_at "pv"
    exact ⟨_, rfl⟩
  · intro x hx
    obtain ⟨k, hk, rfl⟩ := List.mem_map.mp hx
    have hk : k < s.N := by simpa using hk
    unfold lcStep
    simp only [PX, wipeE, List.set, List.length_cons, List.length_nil]
    walk_at "pv"
    rw [show (0 : Int) + (k : Int) = (k : Int) by omega]
    simp only [roF_ok (told_sp h hk)]
    walk_at "pv"
    try rfl
theorem own_im (rs : Rms) (k : Nat) : (ownB rs k).im = true := by
  rcases ownB_cases rs k with ⟨e, _⟩ | ⟨r, _, _, e⟩ <;> rw [e] <;> rfl
theorem dict_kT {rs : Rms} : q_dict [.dct (kT rs)] = some (.dct (kT rs)) := by
  show (if T.imL ((kT rs).map (·.2)) = true then _ else _) = _
  rw [if_pos (imL_all fun x hx => by
    obtain ⟨p, hp, rfl⟩ := List.mem_map.mp hx
    unfold kT at hp
    obtain ⟨r, _, rfl⟩ := List.mem_map.mp hp
    rfl)]
theorem copied_sp (h : SOk s) (hN : 16 ≤ s.N ∧ s.N ≤ 512) : p_Store_copied [s.T] = .ok s.T [.any] := by
  rw [q_Store_copied]
  unfold S_Store_copied SS.T
  walk_at "pv"
  rw [init_sp (by omega)]
  rw [show (newS s.N).T = stT s.N (kT []) (rowT s.N (ownB [])) (rowT s.N fun _ => .non) from rfl]
  walk_at "pv"
  rw [dict_kT]
  walk_at "pv"
  rw [show q_list [.lst (rowT s.N (ownB s.rs))] = some (.lst (rowT s.N (ownB s.rs))) from if_pos (rowT_im fun k _ => own_im _ _)]
  walk_at "pv"
  rw [show q_list [.lst (rowT s.N s.gc)] = some (.lst (rowT s.N s.gc)) from if_pos (rowT_im fun k _ => (h.cell k).im)]
  walk_at "pv"
  rw [if_neg (show ¬ (stT s.N (kT s.rs) (rowT s.N (ownB s.rs)) (rowT s.N s.gc)).im = true from fun z => nomatch z)]
  walk_at "pv"
end Hd

namespace Hd
open PySem PySem.Spec PyProof.Rows L2 Rw
variable {s : SS}
structure SG (s : SS) : Prop where
  ok : SOk s
  n0 : 16 ≤ s.N
  n1 : s.N ≤ 512
theorem flat_rows {L : Rms} : ∀ t ∈ rowsT L, FlatD t := fun t ht => by
  obtain ⟨r, _, rfl⟩ := List.mem_map.mp ht
  exact ⟨.tuple [.int r.1, .int r.2], rfl, by simp only [PyData.canLay0, PyData.canLayAll0, Bool.and_true], by simp [PyData.depth, PyData.depthAll]⟩
theorem rooms_len (h : SOk s) : (srt s.rs).length = s.rs.length := (srt_perm h.nd).length_eq
theorem pick_room (h : SOk s) {d : Int} (h0 : 0 ≤ d) (h1 : d < (s.rs.length : Int)) : ∃ r ∈ s.rs, f_ix (.lst (rowsT (srt s.rs))) (.int d) = some (.tup [.int r.1, .int r.2]) := by
  obtain ⟨u, hu, e⟩ := ix_mem (xs := rowsT (srt s.rs)) h0 (by rw [rowsT_len, rooms_len h]; exact h1)
  obtain ⟨r, hr, rfl⟩ := List.mem_map.mp hu
  exact ⟨r, (srt_perm h.nd).mem_iff.mp hr, e⟩
theorem filled_sp {t : T} (h : PotOk t) : ∃ s t', p__law_filled [t] = .ok s.T [t'] ∧ SG s ∧ PotOk t' := by
  rw [q__law_filled]
  unfold S__law_filled
  obtain ⟨d1, t1, e1, a1, b1, h1⟩ := draw_ok h (k := 7) (by omega) (by omega)
  obtain ⟨d3, t3, e3, a3, b3, h3⟩ := draw_ok h1 (k := 20) (by omega) (by omega)
  walk_at "pv"
  rw [e1]
  walk_at "pv"
  obtain ⟨n, hn, en⟩ := pick_int (ns := [16, 19, 40, 64, 64, 130, 512]) a1 (by simpa using b1)
  simp only [List.map] at en
  rw [en]
  have hN : ∃ N : Nat, n = (N : Int) ∧ 16 ≤ N ∧ N ≤ 512 := by
    simp only [List.mem_cons, List.not_mem_nil, or_false] at hn
    exact ⟨n.toNat, by omega, by omega, by omega⟩
  obtain ⟨N, rfl, N1, N2⟩ := hN
  walk_at "pv"
  rw [init_sp (by omega)]
  walk_at "pv"
  rw [e3]
  walk_at "pv"
  rw [rng1_ok (by omega) (by omega)]
  walk_at "pv"
  rw [if_pos (rngT_im _ _)]
  generalize hz : forGo _ _ _ _ = z
  obtain ⟨τ', rfl, t', s', x2, x3, x4, rfl, p2, p3, p4, F, hp⟩ := for_res hz (fun k τ => ∃ (t' : T) (s' : SS) (x2 x3 x4 : Sl), τ = [Sl.par t', .own s'.T, x2, x3, x4] ∧ x2.isPar = false ∧ x3.isPar = false ∧ x4.isPar = false ∧ SG s' ∧ PotOk t')
    ⟨_, _, _, _, _, rfl, rfl, rfl, rfl, ⟨newS_ok (by omega), N1, N2⟩, h3⟩ fun k t τ hk hI => by
    obtain ⟨t', s', x2, x3, x4, rfl, p2, p3, p4, F, hp⟩ := hI
    obtain ⟨hk, rfl⟩ := rngT_at hk
    obtain ⟨d4, t4, e4, a4, b4, h4⟩ := draw_ok hp (k := 32) (by omega) (by omega)
    obtain ⟨d7, t7, e7, a7, b7, h7⟩ := draw_ok h4 (k := 3) (by omega) (by omega)
    walk_at "pv"
    try simp only [p2]
    walk_at "pv"
    simp only [roF_ok (rooms_sp F.ok)]
    walk_at "pv"
    try simp only [p3]
    walk_at "pv"
    rw [e4]
    walk_at "pv"
    try simp only [p4]
    walk_at "pv"
    rw [e7]
    walk_at "pv"
    have hm : (1 : Int) ≤ 1 + d4 ∧ 1 + d4 ≤ 32 := by omega
    have hl := F.ok.len
    by_cases c1 : d7 = 0
    · simp only [c1, decide_true]
      walk_at "pv"
      rw [ne_nil flat_rows]
      walk_at "pv"
      by_cases c2 : (rowsT (srt s'.rs)).isEmpty = true
      · simp only [c2]
        walk_at "pv"
        simp only [roF_ok (longest_sp F.ok)]
        walk_at "pv"
        simp only [roF_ok (law_wide_eq (m := 1 + d4) hm.2)]
        walk_at "pv"
        by_cases c5 : wideOf (1 + d4) ≤ maxI (0 :: (gapsS s').map (·.2))
        · have f := (fits_iff hm.2).mp c5
          simp only [ge_iff_le, c5, decide_true]
          walk_at "pv"
          simp only [take_sp F.ok hm.1 hm.2 f]
          walk_at "pv"
          exact ⟨_, rfl, _, _, _, _, _, rfl, rfl, rfl, rfl, ⟨takeS_ok F.ok hm.2 f, F.n0, F.n1⟩, h7⟩
        · simp only [ge_iff_le, c5, decide_false]
          walk_at "pv"
          exact ⟨_, rfl, _, _, _, _, _, rfl, rfl, rfl, rfl, F, h7⟩
      · have c2' : (rowsT (srt s'.rs)).isEmpty = false := by simpa using c2
        have hl0 : 0 < s'.rs.length := by
          cases e : rowsT (srt s'.rs) with
          | nil => rw [e] at c2'; simp at c2'
          | cons a b =>
            have := congrArg List.length e
            rw [rowsT_len, rooms_len F.ok, List.length_cons] at this
            omega
        obtain ⟨d8, t8, e8, a8, b8, h8⟩ := draw_ok h7 (k := (s'.rs.length : Int)) (by omega) (by omega)
        simp only [c2']
        walk_at "pv"
        rw [show ((rowsT (srt s'.rs)).length : Int) = (s'.rs.length : Int) by rw [rowsT_len, rooms_len F.ok]]
        rw [e8]
        walk_at "pv"
        obtain ⟨r, hr, er⟩ := pick_room F.ok a8 b8
        rw [er]
        walk_at "pv"
        obtain ⟨a, w, rfl, w1, w2, aw⟩ := F.ok.nat hr
        simp only [give_sp F.ok hr]
        walk_at "pv"
        exact ⟨_, rfl, _, _, _, _, _, rfl, rfl, rfl, rfl, ⟨giveS_ok F.ok hr, F.n0, F.n1⟩, h8⟩
    · simp only [c1, decide_false]
      walk_at "pv"
      simp only [roF_ok (longest_sp F.ok)]
      walk_at "pv"
      simp only [roF_ok (law_wide_eq (m := 1 + d4) hm.2)]
      walk_at "pv"
      by_cases c5 : wideOf (1 + d4) ≤ maxI (0 :: (gapsS s').map (·.2))
      · have f := (fits_iff hm.2).mp c5
        simp only [ge_iff_le, c5, decide_true]
        walk_at "pv"
        simp only [take_sp F.ok hm.1 hm.2 f]
        walk_at "pv"
        exact ⟨_, rfl, _, _, _, _, _, rfl, rfl, rfl, rfl, ⟨takeS_ok F.ok hm.2 f, F.n0, F.n1⟩, h7⟩
      · simp only [ge_iff_le, c5, decide_false]
        walk_at "pv"
        exact ⟨_, rfl, _, _, _, _, _, rfl, rfl, rfl, rfl, F, h7⟩
  walk_at "pv"
  exact ⟨_, _, rfl, F, hp⟩
end Hd

namespace Hd
open PySem PySem.Spec PyProof.Rows L2 Rw
variable {s : SS}
def begN (s : SS) (n : Nat) : Nat := (bestG (gapsS s) (wideOf ((2 : Int) + (n : Int)))).2.toNat
def laidS (s : SS) (l : Int) (n : Nat) : SS := putS (putS (takeS s ((2 : Int) + (n : Int))) (begN s n) (.tup [.str "thing", .int l, .int (n : Int)])) (begN s n + 1) (.int 0)
theorem laid_facts (h : SOk s) {l : Int} {n : Nat} (l0 : 0 < l) (l1 : l ≤ 999999999999) (hn : n ≤ 30) (hf : fits s ((2 : Int) + (n : Int))) : ∃ w : Nat, wideOf ((2 : Int) + (n : Int)) = (w : Int) ∧ 2 + n ≤ w ∧ w ≤ 32 ∧ (bestG (gapsS s) (wideOf ((2 : Int) + (n : Int)))).2 = (begN s n : Int) ∧ begN s n + w ≤ s.N ∧
    (takeS s ((2 : Int) + (n : Int))).rs = s.rs ++ [((begN s n : Int), (w : Int))] ∧ (∀ k, k < w → ∃ r ∈ (takeS s ((2 : Int) + (n : Int))).rs, inR r (begN s n + k)) ∧
    SOk (takeS s ((2 : Int) + (n : Int))) ∧ SOk (putS (takeS s ((2 : Int) + (n : Int))) (begN s n) (.tup [.str "thing", .int l, .int (n : Int)])) ∧ SOk (laidS s l n) := by
  obtain ⟨t, w, e1, e2, w1, w2, hN, sep⟩ := takeS_at h (by omega) hf
  have hb : begN s n = t := by unfold begN; rw [e1]; omega
  have hw := wideOf_mem (m := (2 : Int) + (n : Int)) (by omega)
  have ok1 := takeS_ok h (by omega) hf
  have hrs : (takeS s ((2 : Int) + (n : Int))).rs = s.rs ++ [((t : Int), (w : Int))] := by
    unfold takeS
    rw [e1, e2]
  have hin : ∀ k, k < w → ∃ r ∈ (takeS s ((2 : Int) + (n : Int))).rs, inR r (t + k) := fun k hk => ⟨((t : Int), (w : Int)), by rw [hrs]; exact List.mem_append_right _ (List.mem_singleton.mpr rfl), by unfold inR; simp only; omega⟩
  have ok2 := putS_ok ok1 (t := .tup [.str "thing", .int l, .int (n : Int)]) (hin 0 (by omega)) (.thing l0 l1 (by omega) (by omega))
  have ok3 := putS_ok ok2 (t := .int 0) (hin 1 (by omega)) (.int (by decide) (by decide))
  unfold laidS
  rw [hb]
  exact ⟨w, e2, by omega, w2, e1, hN, hrs, hin, ok1, ok2, ok3⟩
theorem lay_in (h : SOk s) {l : Int} {n : Nat} (l0 : 0 < l) (l1 : l ≤ 999999999999) (hn : n ≤ 30) (hf : fits s ((2 : Int) + (n : Int))) : p_lay [s.T, .int l, .int (n : Int)] = .ok (.int (begN s n : Int)) [(laidS s l n).T, .any, .any] := by
  obtain ⟨w, ew, w1, w2, eb, hN, hrs, hin, ok1, ok2, ok3⟩ := laid_facts h l0 l1 hn hf
  have et := take_sp h (m := (2 : Int) + (n : Int)) (by omega) (by omega) hf
  rw [eb] at et
  rw [q_lay]
  unfold S_lay
  walk_at "pv"
  have e1 : decide ((0 : Int) ≤ l) = true := decide_eq_true (by omega)
  have e2 : decide (l = 0) = false := decide_eq_false (by omega)
  have e3 : decide ((0 : Int) ≤ (n : Int)) = true := decide_eq_true (by omega)
  have e4 : decide ((n : Int) ≤ 999999999999) = true := decide_eq_true (by omega)
  have e5 : decide ((30 : Int) < (n : Int)) = false := decide_eq_false (by omega)
  simp only [roF_ok is_number_int, e1, e2, l1]
  walk_at "pv"
  try simp only [e2]
  walk_at "pv"
  try simp only [roF_ok is_number_int, e3, e4, e5]
  walk_at "pv"
  try simp only [e5]
  walk_at "pv"
  rw [et]
  walk_at "pv"
  rw [put_sp ok1 (p := begN s n) (t := .tup [.str "thing", .int l, .int (n : Int)]) (hin 0 (by omega)) (.thing l0 l1 (by omega) (by omega))]
  walk_at "pv"
  rw [show (begN s n : Int) + 1 = ((begN s n + 1 : Nat) : Int) by omega, put_sp ok2 (hin 1 (by omega)) (.int (by decide) (by decide))]
  walk_at "pv"
  try rfl
theorem lay_room_no (h : SOk s) {l : Int} {n : Nat} (l0 : 0 < l) (l1 : l ≤ 999999999999) (hn : n ≤ 30) (hf : ¬ fits s ((2 : Int) + (n : Int))) : p_lay [s.T, .int l, .int (n : Int)] = .exc ⟨"NoRoom", [("longest", .int (longS s)), ("wanted", .int (wideOf ((2 : Int) + (n : Int))))]⟩ [s.T, .any, .any] := by
  rw [q_lay]
  unfold S_lay
  walk_at "pv"
  have e1 : decide ((0 : Int) ≤ l) = true := decide_eq_true (by omega)
  have e2 : decide (l = 0) = false := decide_eq_false (by omega)
  have e3 : decide ((0 : Int) ≤ (n : Int)) = true := decide_eq_true (by omega)
  have e4 : decide ((n : Int) ≤ 999999999999) = true := decide_eq_true (by omega)
  have e5 : decide ((30 : Int) < (n : Int)) = false := decide_eq_false (by omega)
  simp only [roF_ok is_number_int, e1, e2, l1]
  walk_at "pv"
  try simp only [e2]
  walk_at "pv"
  try simp only [roF_ok is_number_int, e3, e4, e5]
  walk_at "pv"
  try simp only [e5]
  walk_at "pv"
  rw [take_no h (m := (2 : Int) + (n : Int)) (by omega) (by omega) hf]
  walk_at "pv"
  simp only [rb_exc]
  walk_at "pv"
/-- labels that are none -/
inductive NoLab : T → Prop
  | int {i : Int} (h : i ≤ 0 ∨ 999999999999 < i) : NoLab (.int i)
  | bl {b : Bool} : NoLab (.bl b)
  | non : NoLab .non
  | str {z : Str} : NoLab (.str z)
  | frz {x : List T} : NoLab (.frz x)
  | tup {x : List T} : NoLab (.tup x)
  | fzd : NoLab .fzd
inductive NoAmt : T → Prop
  | int {i : Int} (h : i < 0 ∨ 30 < i) : NoAmt (.int i)
  | bl {b : Bool} : NoAmt (.bl b)
  | non : NoAmt .non
  | str {z : Str} : NoAmt (.str z)
  | frz {x : List T} : NoAmt (.frz x)
  | tup {x : List T} : NoAmt (.tup x)
  | fzd : NoAmt .fzd
theorem num_no {g : T} (h : NoLab g) : (∃ i, g = .int i ∧ (i ≤ 0 ∨ 999999999999 < i)) ∨ roF p_is_number [g] = .ok (.bl false) := by
  cases h with
  | int h => exact .inl ⟨_, rfl, h⟩
  | _ => exact .inr rfl
theorem num_no2 {g : T} (h : NoAmt g) : (∃ i, g = .int i ∧ (i < 0 ∨ 30 < i)) ∨ roF p_is_number [g] = .ok (.bl false) := by
  cases h with
  | int h => exact .inl ⟨_, rfl, h⟩
  | _ => exact .inr rfl
theorem lay_no_lab {g a : T} (hg : NoLab g) : p_lay [s.T, g, a] = .exc ⟨"BadNumber", []⟩ [s.T, .any, .any] := by
  rw [q_lay]
  unfold S_lay
  walk_at "pv"
  rcases num_no hg with ⟨i, rfl, hi⟩ | e
  · simp only [roF_ok is_number_int]
    walk_at "pv"
    by_cases c : 0 ≤ i ∧ i ≤ 999999999999
    · have e0 : i = 0 := by omega
      subst e0
      simp only [show decide ((0 : Int) ≤ 0) = true from rfl, show decide ((0 : Int) ≤ 999999999999) = true from rfl]
      walk_at "pv"
      unfold raiseS
      rw [rb_exc]
      walk_at "pv"
    · rw [show (decide (0 ≤ i) && decide (i ≤ 999999999999)) = false by simp; omega]
      walk_at "pv"
      unfold raiseS
      rw [rb_exc]
      walk_at "pv"
  · simp only [e]
    walk_at "pv"
    unfold raiseS
    rw [rb_exc]
    walk_at "pv"
theorem lay_no_amt {l : Int} {a : T} (l0 : 0 < l) (l1 : l ≤ 999999999999) (ha : NoAmt a) : p_lay [s.T, .int l, a] = .exc ⟨"BadFields", []⟩ [s.T, .any, .any] := by
  rw [q_lay]
  unfold S_lay
  walk_at "pv"
  have e1 : decide ((0 : Int) ≤ l) = true := decide_eq_true (by omega)
  have e2 : decide (l = 0) = false := decide_eq_false (by omega)
  simp only [roF_ok is_number_int, e1, e2, l1]
  walk_at "pv"
  try simp only [e2]
  walk_at "pv"
  rcases num_no2 ha with ⟨i, rfl, hi⟩ | e
  · simp only [roF_ok is_number_int]
    walk_at "pv"
    by_cases c : 0 ≤ i ∧ i ≤ 999999999999
    · rw [show (decide (0 ≤ i) && decide (i ≤ 999999999999)) = true by simp; omega]
      walk_at "pv"
      rw [show decide (30 < i) = true from decide_eq_true (by omega)]
      walk_at "pv"
      unfold raiseS
      rw [rb_exc]
      walk_at "pv"
    · rw [show (decide (0 ≤ i) && decide (i ≤ 999999999999)) = false by simp; omega]
      walk_at "pv"
      unfold raiseS
      rw [rb_exc]
      walk_at "pv"
  · simp only [e]
    walk_at "pv"
    unfold raiseS
    rw [rb_exc]
    walk_at "pv"
end Hd

namespace Hd
open PySem PySem.Spec PyProof.Rows L2 Rw
variable {s : SS}
theorem isx {x : Xc} {a : Addr} {d : Option Addr} {t : T} {b : Bool} (hx : hasX (isExn x.cls) xa = true) (ht : ∀ ts, t ≠ .tup ts) (h : clsB xa x.cls t = some b) : q_isX xa a d x [.exn a d x.cls x.fs, t] = some (.bl b) := by
  simp only [q_isX, hx, and_self, if_true]
  rw [h]
  rfl
theorem isxT {x : Xc} {a : Addr} {d : Option Addr} {ts : List T} {bs : List Bool} {b : Bool} (hx : hasX (isExn x.cls) xa = true) (h : clsBs xa x.cls ts = some bs) (hb : bs.any id = b) : q_isX xa a d x [.exn a d x.cls x.fs, .tup ts] = some (.bl b) := by
  simp only [q_isX, hx, and_self, if_true]
  rw [h, ← hb]
  rfl
theorem no_w : hasX (isNo "NoRoom" "wanted") xa = true := by decide +kernel
theorem no_l : hasX (isNo "NoRoom" "longest") xa = true := by decide +kernel
theorem lk_w {L w : Int} : List.lookup ("wanted" : Str) [(("longest" : Str), T.int L), (("wanted" : Str), T.int w)] = some (T.int w) := rfl
theorem lk_l {L w : Int} : List.lookup ("longest" : Str) [(("longest" : Str), T.int L), (("wanted" : Str), T.int w)] = some (T.int L) := rfl
theorem ng {x : Str} : ∀ ts, T.glo x ≠ .tup ts := fun _ h => nomatch h
theorem nty {x : String} : ∀ ts, T.ty x ≠ .tup ts := fun _ h => nomatch h
theorem exn_nr : hasX (isExn "NoRoom") xa = true := by decide +kernel
theorem exn_bn : hasX (isExn "BadNumber") xa = true := by decide +kernel
theorem exn_bf : hasX (isExn "BadFields") xa = true := by decide +kernel
theorem eq_room : f_eq (.lst [.str "room"]) (.lst [.str "room"]) = some (.bl true) := by
  unfold f_eq eqF
  simp only [T.sv, T.dat, T.datL, Option.map_some]
  rw [if_pos (by decide +kernel)]
  simp only [Option.map_some]
  congr 1
theorem eq_lab : f_eq (.lst [.str "label"]) (.lst [.str "room"]) = some (.bl false) := by
  unfold f_eq eqF
  simp only [T.sv, T.dat, T.datL, Option.map_some]
  rw [if_pos (by decide +kernel)]
  simp only [Option.map_some]
  congr 1
theorem eq_amt : f_eq (.lst [.str "amount"]) (.lst [.str "room"]) = some (.bl false) := by
  unfold f_eq eqF
  simp only [T.sv, T.dat, T.datL, Option.map_some]
  rw [if_pos (by decide +kernel)]
  simp only [Option.map_some]
  congr 1
theorem app_laid {b : Int} : q_append (.lst [.str "laid"]) [.int b] = some (.non, .lst [.str "laid", .int b]) := by
  unfold q_append
  walk_at "pv"
theorem cnt1 : q_count (.lst [.bl true, .bl false, .bl false]) [.bl true] = some (.int 1) := rfl
theorem cnt2 : q_count (.lst [.bl false, .bl true, .bl false]) [.bl true] = some (.int 1) := rfl
theorem cnt3 : q_count (.lst [.bl false, .bl false, .bl true]) [.bl true] = some (.int 1) := rfl
theorem idx1 : q_index (.lst [.bl true, .bl false, .bl false]) [.bl true] = some (.int 0) := rfl
theorem idx2 : q_index (.lst [.bl false, .bl true, .bl false]) [.bl true] = some (.int 1) := rfl
theorem idx3 : q_index (.lst [.bl false, .bl false, .bl true]) [.bl true] = some (.int 2) := rfl
theorem cb_NoRoom_BadNumber : clsB xa "NoRoom" (.glo "BadNumber") = some false := by decide +kernel
theorem cb_NoRoom_BadFields : clsB xa "NoRoom" (.glo "BadFields") = some false := by decide +kernel
theorem cb_NoRoom_NoRoom : clsB xa "NoRoom" (.glo "NoRoom") = some true := by decide +kernel
theorem cb_NoRoom_hs : clsBs xa "NoRoom" [.glo "HeapError", .glo "StoreError"] = some [false, true] := by decide +kernel
theorem cb_NoRoom_ve : clsB xa "NoRoom" (.ty "ValueError") = some true := by decide +kernel
theorem cb_BadNumber_BadNumber : clsB xa "BadNumber" (.glo "BadNumber") = some true := by decide +kernel
theorem cb_BadNumber_BadFields : clsB xa "BadNumber" (.glo "BadFields") = some false := by decide +kernel
theorem cb_BadNumber_NoRoom : clsB xa "BadNumber" (.glo "NoRoom") = some false := by decide +kernel
theorem cb_BadNumber_hs : clsBs xa "BadNumber" [.glo "HeapError", .glo "StoreError"] = some [true, false] := by decide +kernel
theorem cb_BadNumber_ve : clsB xa "BadNumber" (.ty "ValueError") = some true := by decide +kernel
theorem cb_BadFields_BadNumber : clsB xa "BadFields" (.glo "BadNumber") = some false := by decide +kernel
theorem cb_BadFields_BadFields : clsB xa "BadFields" (.glo "BadFields") = some true := by decide +kernel
theorem cb_BadFields_NoRoom : clsB xa "BadFields" (.glo "NoRoom") = some false := by decide +kernel
theorem cb_BadFields_hs : clsBs xa "BadFields" [.glo "HeapError", .glo "StoreError"] = some [true, false] := by decide +kernel
theorem cb_BadFields_ve : clsB xa "BadFields" (.ty "ValueError") = some true := by decide +kernel
theorem asked_ok {t : T} (hp : PotOk t) {l : Int} {n : Nat} {s' : SS} {b : Nat} (hl : p_lay [s.T, .int l, .int (n : Int)] = .ok (.int (b : Int)) [s'.T, .any, .any]) : ∃ t', p__law_asked [t, s.T, .int l, .int (n : Int)] = .ok (.lst [.str "laid", .int (b : Int)]) [t', s'.T, .any, .any] ∧ PotOk t' := by
  obtain ⟨d1, t1, e1, a1, b1, h1⟩ := draw_ok hp (k := 2) (by omega) (by omega)
  rw [q__law_asked]
  unfold S__law_asked
  walk_at "pv"
  simp only [tryS]
  walk_at "pv"
  rw [e1]
  walk_at "pv"
  by_cases c : d1 = 0
  · simp only [c, decide_true]
    walk_at "pv"
    rw [hl]
    walk_at "pv"
    rw [app_laid]
    walk_at "pv"
    exact ⟨_, rfl, h1⟩
  · simp only [c, decide_false]
    walk_at "pv"
    rw [hl]
    walk_at "pv"
    rw [app_laid]
    walk_at "pv"
    exact ⟨_, rfl, h1⟩
theorem asked_room {t : T} (hp : PotOk t) {l a : T} {w L : Int} (il : l.im = true) (ia : a.im = true) (hl : p_lay [s.T, l, a] = .exc ⟨"NoRoom", [("longest", .int L), ("wanted", .int w)]⟩ [s.T, .any, .any]) : ∃ t', p__law_asked [t, s.T, l, a] = .ok (.lst [.str "room", .int w, .int L]) [t', s.T, .any, .any] ∧ PotOk t' := by
  obtain ⟨d1, t1, e1, a1, b1, h1⟩ := draw_ok hp (k := 2) (by omega) (by omega)
  rw [q__law_asked]
  unfold S__law_asked
  walk_at "pv"
  simp only [tryS]
  walk_at "pv"
  rw [e1]
  walk_at "pv"
  by_cases c : d1 = 0
  · simp only [c, decide_true]
    walk_at "pv"
    rw [hl]
    walk_at "pv"
    simp only [rb_exc]
    simp only [hsGo, sx_NoRoom_RoomError]
    rw [coll_eq (r := .ok .nx [.par t1, .par s.T, .bor l, .bor a, .own (.lst [.str "room", .int w, .int L]), .no, .own (.lst [.bl false, .bl false, .bl true])]) fun ad dd => ?_]
    · walk_at "pv"
      exact ⟨_, rfl, h1⟩
    · simp only [suiteS, bindNm, clrNm]
      walk_at "pv"
      rw [show exD ⟨"NoRoom", [("longest", .int L), ("wanted", .int w)]⟩ dd = some dd from rfl]
      walk_at "pv"
      rw [show q_isX xa ad (some dd) ⟨"NoRoom", [("longest", .int L), ("wanted", .int w)]⟩ [.exn ad (some dd) "NoRoom" [("longest", .int L), ("wanted", .int w)], .glo "BadNumber"] = some (.bl false) from isx exn_nr ng cb_NoRoom_BadNumber]
      walk_at "pv"
      rw [show q_isX xa ad (some dd) ⟨"NoRoom", [("longest", .int L), ("wanted", .int w)]⟩ [.exn ad (some dd) "NoRoom" [("longest", .int L), ("wanted", .int w)], .glo "BadFields"] = some (.bl false) from isx exn_nr ng cb_NoRoom_BadFields]
      walk_at "pv"
      rw [show q_isX xa ad (some dd) ⟨"NoRoom", [("longest", .int L), ("wanted", .int w)]⟩ [.exn ad (some dd) "NoRoom" [("longest", .int L), ("wanted", .int w)], .glo "NoRoom"] = some (.bl true) from isx exn_nr ng cb_NoRoom_NoRoom]
      walk_at "pv"
      simp only [cnt3]
      walk_at "pv"
      rw [show q_isX xa ad (some dd) ⟨"NoRoom", [("longest", .int L), ("wanted", .int w)]⟩ [.exn ad (some dd) "NoRoom" [("longest", .int L), ("wanted", .int w)], .tup [.glo "HeapError", .glo "StoreError"]] = some (.bl true) from isxT exn_nr cb_NoRoom_hs rfl]
      walk_at "pv"
      rw [show q_isX xa ad (some dd) ⟨"NoRoom", [("longest", .int L), ("wanted", .int w)]⟩ [.exn ad (some dd) "NoRoom" [("longest", .int L), ("wanted", .int w)], .ty "ValueError"] = some (.bl true) from isx exn_nr nty cb_NoRoom_ve]
      walk_at "pv"
      simp only [idx3]
      walk_at "pv"
      try rw [show f_ix (.lst [.str "label", .str "amount", .str "room"]) (.int 2) = some (.str "room") from rfl]
      walk_at "pv"
      simp only [eq_room]
      walk_at "pv"
      simp only [xfP, exn_nr, no_w, no_l, and_self, if_true]
      walk_at "pv"
      try simp only [exn_nr, no_w, no_l, and_self, if_true, lk_w, lk_l]
      walk_at "pv"
      try rfl
  · simp only [c, decide_false]
    walk_at "pv"
    rw [hl]
    walk_at "pv"
    simp only [rb_exc]
    simp only [hsGo, sx_NoRoom_RoomError]
    rw [coll_eq (r := .ok .nx [.par t1, .par s.T, .bor l, .bor a, .own (.lst [.str "room", .int w, .int L]), .no, .own (.lst [.bl false, .bl false, .bl true])]) fun ad dd => ?_]
    · walk_at "pv"
      exact ⟨_, rfl, h1⟩
    · simp only [suiteS, bindNm, clrNm]
      walk_at "pv"
      rw [show exD ⟨"NoRoom", [("longest", .int L), ("wanted", .int w)]⟩ dd = some dd from rfl]
      walk_at "pv"
      rw [show q_isX xa ad (some dd) ⟨"NoRoom", [("longest", .int L), ("wanted", .int w)]⟩ [.exn ad (some dd) "NoRoom" [("longest", .int L), ("wanted", .int w)], .glo "BadNumber"] = some (.bl false) from isx exn_nr ng cb_NoRoom_BadNumber]
      walk_at "pv"
      rw [show q_isX xa ad (some dd) ⟨"NoRoom", [("longest", .int L), ("wanted", .int w)]⟩ [.exn ad (some dd) "NoRoom" [("longest", .int L), ("wanted", .int w)], .glo "BadFields"] = some (.bl false) from isx exn_nr ng cb_NoRoom_BadFields]
      walk_at "pv"
      rw [show q_isX xa ad (some dd) ⟨"NoRoom", [("longest", .int L), ("wanted", .int w)]⟩ [.exn ad (some dd) "NoRoom" [("longest", .int L), ("wanted", .int w)], .glo "NoRoom"] = some (.bl true) from isx exn_nr ng cb_NoRoom_NoRoom]
      walk_at "pv"
      simp only [cnt3]
      walk_at "pv"
      rw [show q_isX xa ad (some dd) ⟨"NoRoom", [("longest", .int L), ("wanted", .int w)]⟩ [.exn ad (some dd) "NoRoom" [("longest", .int L), ("wanted", .int w)], .tup [.glo "HeapError", .glo "StoreError"]] = some (.bl true) from isxT exn_nr cb_NoRoom_hs rfl]
      walk_at "pv"
      rw [show q_isX xa ad (some dd) ⟨"NoRoom", [("longest", .int L), ("wanted", .int w)]⟩ [.exn ad (some dd) "NoRoom" [("longest", .int L), ("wanted", .int w)], .ty "ValueError"] = some (.bl true) from isx exn_nr nty cb_NoRoom_ve]
      walk_at "pv"
      simp only [idx3]
      walk_at "pv"
      try rw [show f_ix (.lst [.str "label", .str "amount", .str "room"]) (.int 2) = some (.str "room") from rfl]
      walk_at "pv"
      simp only [eq_room]
      walk_at "pv"
      simp only [xfP, exn_nr, no_w, no_l, and_self, if_true]
      walk_at "pv"
      try simp only [exn_nr, no_w, no_l, and_self, if_true, lk_w, lk_l]
      walk_at "pv"
      try rfl
theorem asked_label {t : T} (hp : PotOk t) {l a : T} {w L : Int} (il : l.im = true) (ia : a.im = true) (hl : p_lay [s.T, l, a] = .exc ⟨"BadNumber", []⟩ [s.T, .any, .any]) : ∃ t', p__law_asked [t, s.T, l, a] = .ok (.lst [.str "label"]) [t', s.T, .any, .any] ∧ PotOk t' := by
  obtain ⟨d1, t1, e1, a1, b1, h1⟩ := draw_ok hp (k := 2) (by omega) (by omega)
  rw [q__law_asked]
  unfold S__law_asked
  walk_at "pv"
  simp only [tryS]
  walk_at "pv"
  rw [e1]
  walk_at "pv"
  by_cases c : d1 = 0
  · simp only [c, decide_true]
    walk_at "pv"
    rw [hl]
    walk_at "pv"
    simp only [rb_exc]
    simp only [hsGo, sx_BadNumber_RoomError]
    rw [coll_eq (r := .ok .nx [.par t1, .par s.T, .bor l, .bor a, .own (.lst [.str "label"]), .no, .own (.lst [.bl true, .bl false, .bl false])]) fun ad dd => ?_]
    · walk_at "pv"
      exact ⟨_, rfl, h1⟩
    · simp only [suiteS, bindNm, clrNm]
      walk_at "pv"
      rw [show exD ⟨"BadNumber", []⟩ dd = none from rfl]
      walk_at "pv"
      rw [show q_isX xa ad (none) ⟨"BadNumber", []⟩ [.exn ad (none) "BadNumber" [], .glo "BadNumber"] = some (.bl true) from isx exn_bn ng cb_BadNumber_BadNumber]
      walk_at "pv"
      rw [show q_isX xa ad (none) ⟨"BadNumber", []⟩ [.exn ad (none) "BadNumber" [], .glo "BadFields"] = some (.bl false) from isx exn_bn ng cb_BadNumber_BadFields]
      walk_at "pv"
      rw [show q_isX xa ad (none) ⟨"BadNumber", []⟩ [.exn ad (none) "BadNumber" [], .glo "NoRoom"] = some (.bl false) from isx exn_bn ng cb_BadNumber_NoRoom]
      walk_at "pv"
      simp only [cnt1]
      walk_at "pv"
      rw [show q_isX xa ad (none) ⟨"BadNumber", []⟩ [.exn ad (none) "BadNumber" [], .tup [.glo "HeapError", .glo "StoreError"]] = some (.bl true) from isxT exn_bn cb_BadNumber_hs rfl]
      walk_at "pv"
      rw [show q_isX xa ad (none) ⟨"BadNumber", []⟩ [.exn ad (none) "BadNumber" [], .ty "ValueError"] = some (.bl true) from isx exn_bn nty cb_BadNumber_ve]
      walk_at "pv"
      simp only [idx1]
      walk_at "pv"
      try rw [show f_ix (.lst [.str "label", .str "amount", .str "room"]) (.int 0) = some (.str "label") from rfl]
      walk_at "pv"
      simp only [eq_lab]
      walk_at "pv"
  · simp only [c, decide_false]
    walk_at "pv"
    rw [hl]
    walk_at "pv"
    simp only [rb_exc]
    simp only [hsGo, sx_BadNumber_RoomError]
    rw [coll_eq (r := .ok .nx [.par t1, .par s.T, .bor l, .bor a, .own (.lst [.str "label"]), .no, .own (.lst [.bl true, .bl false, .bl false])]) fun ad dd => ?_]
    · walk_at "pv"
      exact ⟨_, rfl, h1⟩
    · simp only [suiteS, bindNm, clrNm]
      walk_at "pv"
      rw [show exD ⟨"BadNumber", []⟩ dd = none from rfl]
      walk_at "pv"
      rw [show q_isX xa ad (none) ⟨"BadNumber", []⟩ [.exn ad (none) "BadNumber" [], .glo "BadNumber"] = some (.bl true) from isx exn_bn ng cb_BadNumber_BadNumber]
      walk_at "pv"
      rw [show q_isX xa ad (none) ⟨"BadNumber", []⟩ [.exn ad (none) "BadNumber" [], .glo "BadFields"] = some (.bl false) from isx exn_bn ng cb_BadNumber_BadFields]
      walk_at "pv"
      rw [show q_isX xa ad (none) ⟨"BadNumber", []⟩ [.exn ad (none) "BadNumber" [], .glo "NoRoom"] = some (.bl false) from isx exn_bn ng cb_BadNumber_NoRoom]
      walk_at "pv"
      simp only [cnt1]
      walk_at "pv"
      rw [show q_isX xa ad (none) ⟨"BadNumber", []⟩ [.exn ad (none) "BadNumber" [], .tup [.glo "HeapError", .glo "StoreError"]] = some (.bl true) from isxT exn_bn cb_BadNumber_hs rfl]
      walk_at "pv"
      rw [show q_isX xa ad (none) ⟨"BadNumber", []⟩ [.exn ad (none) "BadNumber" [], .ty "ValueError"] = some (.bl true) from isx exn_bn nty cb_BadNumber_ve]
      walk_at "pv"
      simp only [idx1]
      walk_at "pv"
      try rw [show f_ix (.lst [.str "label", .str "amount", .str "room"]) (.int 0) = some (.str "label") from rfl]
      walk_at "pv"
      simp only [eq_lab]
      walk_at "pv"
theorem asked_amount {t : T} (hp : PotOk t) {l a : T} {w L : Int} (il : l.im = true) (ia : a.im = true) (hl : p_lay [s.T, l, a] = .exc ⟨"BadFields", []⟩ [s.T, .any, .any]) : ∃ t', p__law_asked [t, s.T, l, a] = .ok (.lst [.str "amount"]) [t', s.T, .any, .any] ∧ PotOk t' := by
  obtain ⟨d1, t1, e1, a1, b1, h1⟩ := draw_ok hp (k := 2) (by omega) (by omega)
  rw [q__law_asked]
  unfold S__law_asked
  walk_at "pv"
  simp only [tryS]
  walk_at "pv"
  rw [e1]
  walk_at "pv"
  by_cases c : d1 = 0
  · simp only [c, decide_true]
    walk_at "pv"
    rw [hl]
    walk_at "pv"
    simp only [rb_exc]
    simp only [hsGo, sx_BadFields_RoomError]
    rw [coll_eq (r := .ok .nx [.par t1, .par s.T, .bor l, .bor a, .own (.lst [.str "amount"]), .no, .own (.lst [.bl false, .bl true, .bl false])]) fun ad dd => ?_]
    · walk_at "pv"
      exact ⟨_, rfl, h1⟩
    · simp only [suiteS, bindNm, clrNm]
      walk_at "pv"
      rw [show exD ⟨"BadFields", []⟩ dd = none from rfl]
      walk_at "pv"
      rw [show q_isX xa ad (none) ⟨"BadFields", []⟩ [.exn ad (none) "BadFields" [], .glo "BadNumber"] = some (.bl false) from isx exn_bf ng cb_BadFields_BadNumber]
      walk_at "pv"
      rw [show q_isX xa ad (none) ⟨"BadFields", []⟩ [.exn ad (none) "BadFields" [], .glo "BadFields"] = some (.bl true) from isx exn_bf ng cb_BadFields_BadFields]
      walk_at "pv"
      rw [show q_isX xa ad (none) ⟨"BadFields", []⟩ [.exn ad (none) "BadFields" [], .glo "NoRoom"] = some (.bl false) from isx exn_bf ng cb_BadFields_NoRoom]
      walk_at "pv"
      simp only [cnt2]
      walk_at "pv"
      rw [show q_isX xa ad (none) ⟨"BadFields", []⟩ [.exn ad (none) "BadFields" [], .tup [.glo "HeapError", .glo "StoreError"]] = some (.bl true) from isxT exn_bf cb_BadFields_hs rfl]
      walk_at "pv"
      rw [show q_isX xa ad (none) ⟨"BadFields", []⟩ [.exn ad (none) "BadFields" [], .ty "ValueError"] = some (.bl true) from isx exn_bf nty cb_BadFields_ve]
      walk_at "pv"
      simp only [idx2]
      walk_at "pv"
      try rw [show f_ix (.lst [.str "label", .str "amount", .str "room"]) (.int 1) = some (.str "amount") from rfl]
      walk_at "pv"
      simp only [eq_amt]
      walk_at "pv"
  · simp only [c, decide_false]
    walk_at "pv"
    rw [hl]
    walk_at "pv"
    simp only [rb_exc]
    simp only [hsGo, sx_BadFields_RoomError]
    rw [coll_eq (r := .ok .nx [.par t1, .par s.T, .bor l, .bor a, .own (.lst [.str "amount"]), .no, .own (.lst [.bl false, .bl true, .bl false])]) fun ad dd => ?_]
    · walk_at "pv"
      exact ⟨_, rfl, h1⟩
    · simp only [suiteS, bindNm, clrNm]
      walk_at "pv"
      rw [show exD ⟨"BadFields", []⟩ dd = none from rfl]
      walk_at "pv"
      rw [show q_isX xa ad (none) ⟨"BadFields", []⟩ [.exn ad (none) "BadFields" [], .glo "BadNumber"] = some (.bl false) from isx exn_bf ng cb_BadFields_BadNumber]
      walk_at "pv"
      rw [show q_isX xa ad (none) ⟨"BadFields", []⟩ [.exn ad (none) "BadFields" [], .glo "BadFields"] = some (.bl true) from isx exn_bf ng cb_BadFields_BadFields]
      walk_at "pv"
      rw [show q_isX xa ad (none) ⟨"BadFields", []⟩ [.exn ad (none) "BadFields" [], .glo "NoRoom"] = some (.bl false) from isx exn_bf ng cb_BadFields_NoRoom]
      walk_at "pv"
      simp only [cnt2]
      walk_at "pv"
      rw [show q_isX xa ad (none) ⟨"BadFields", []⟩ [.exn ad (none) "BadFields" [], .tup [.glo "HeapError", .glo "StoreError"]] = some (.bl true) from isxT exn_bf cb_BadFields_hs rfl]
      walk_at "pv"
      rw [show q_isX xa ad (none) ⟨"BadFields", []⟩ [.exn ad (none) "BadFields" [], .ty "ValueError"] = some (.bl true) from isx exn_bf nty cb_BadFields_ve]
      walk_at "pv"
      simp only [idx2]
      walk_at "pv"
      try rw [show f_ix (.lst [.str "label", .str "amount", .str "room"]) (.int 1) = some (.str "amount") from rfl]
      walk_at "pv"
      simp only [eq_amt]
      walk_at "pv"
end Hd

namespace Hd
open PySem PySem.Spec PyProof.Rows L2 Rw
variable {s : SS}
theorem good_ok (h : SOk s) {l : Int} {n : Nat} (l0 : 0 < l) (l1 : l ≤ 999999999999) (hn : n ≤ 30) (hf : fits s ((2 : Int) + (n : Int))) : p__law_good [s.T, .int l, .int (n : Int)] = .ok (.lst [.str "laid", .int (begN s n : Int)]) [(laidS s l n).T, .any, .any] := by
  obtain ⟨w, ew, w1, w2, eb, hN, hrs, hin, ok1, ok2, ok3⟩ := laid_facts h l0 l1 hn hf
  have et := take_sp h (m := (2 : Int) + (n : Int)) (by omega) (by omega) hf
  rw [eb] at et
  rw [q__law_good]
  unfold S__law_good
  walk_at "pv"
  rw [Int.add_comm (n : Int) 2]
  simp only [roF_ok (law_wide_eq (m := (2 : Int) + (n : Int)) (by omega))]
  walk_at "pv"
  simp only [roF_ok (longest_sp h)]
  walk_at "pv"
  have hlt : ¬ maxI (0 :: (gapsS s).map (·.2)) < wideOf ((2 : Int) + (n : Int)) := fun z => (long_lt h (by omega)).mp z hf
  simp only [hlt, decide_false]
  walk_at "pv"
  try rw [Int.add_comm (n : Int) 2]
  rw [et]
  walk_at "pv"
  rw [put_sp ok1 (p := begN s n) (t := .tup [.str "thing", .int l, .int (n : Int)]) (hin 0 (by omega)) (.thing l0 l1 (by omega) (by omega))]
  walk_at "pv"
  rw [show (begN s n : Int) + 1 = ((begN s n + 1 : Nat) : Int) by omega, put_sp ok2 (hin 1 (by omega)) (.int (by decide) (by decide))]
  walk_at "pv"
  try rfl
theorem good_no (h : SOk s) {l : Int} {n : Nat} (hn : n ≤ 30) (hf : ¬ fits s ((2 : Int) + (n : Int))) : p__law_good [s.T, .int l, .int (n : Int)] = .ok (.lst [.str "room", .int (wideOf ((2 : Int) + (n : Int))), .int (longS s)]) [s.T, .any, .any] := by
  rw [q__law_good]
  unfold S__law_good
  walk_at "pv"
  rw [Int.add_comm (n : Int) 2]
  simp only [roF_ok (law_wide_eq (m := (2 : Int) + (n : Int)) (by omega))]
  walk_at "pv"
  simp only [roF_ok (longest_sp h)]
  walk_at "pv"
  have hlt : maxI (0 :: (gapsS s).map (·.2)) < wideOf ((2 : Int) + (n : Int)) := (long_lt h (by omega)).mpr hf
  simp only [hlt, decide_true]
  walk_at "pv"
  simp only [tryS]
  walk_at "pv"
  try rw [Int.add_comm (n : Int) 2]
  rw [take_no h (m := (2 : Int) + (n : Int)) (by omega) (by omega) hf]
  walk_at "pv"
  simp only [rb_exc]
  simp only [hsGo, sx_NoRoom_NoRoom]
  rw [coll_eq (r := .ok .nx [.par s.T, .bor (.int l), .bor (.int (n : Int)), .own (.int (wideOf ((2 : Int) + (n : Int)))), .own (.lst [.str "room", .int (wideOf ((2 : Int) + (n : Int))), .int (longS s)]), .no, .no]) fun ad dd => ?_]
  · walk_at "pv"
    try rfl
  · simp only [suiteS, bindNm, clrNm]
    walk_at "pv"
    rw [show exD ⟨"NoRoom", [("longest", .int (longS s)), ("wanted", .int (wideOf ((2 : Int) + (n : Int))))]⟩ dd = some dd from rfl]
    simp only [xfP, exn_nr, no_w, no_l, and_self, if_true]
    walk_at "pv"
    try simp only [exn_nr, no_w, no_l, and_self, if_true, lk_w, lk_l]
    walk_at "pv"
    try rfl
end Hd

namespace Hd
open PySem PySem.Spec PyProof.Rows L2 Rw
variable {s : SS}
theorem NoLab.ok10 : NoLab (.int (10 ^ 12)) := .int (by omega)
theorem p12 : f_pow (.int 10) (.int 12) = some (.int 1000000000000) := by
  unfold f_pow f_ii
  simp
theorem p30 : f_pow (.int 10) (.int 30) = some (.int 1000000000000000000000000000000) := by
  unfold f_pow f_ii
  simp
theorem p40 : f_pow (.int 10) (.int 40) = some (.int 10000000000000000000000000000000000000000) := by
  unfold f_pow f_ii
  simp
theorem p50 : f_pow (.int 10) (.int 50) = some (.int 100000000000000000000000000000000000000000000000000) := by
  unfold f_pow f_ii
  simp
theorem frz1 {τ : Ev} : frzP (consP (cP (T.int 1)) nilP) τ = .ok (.frz [.int 1]) := rfl
theorem frz0 {τ : Ev} : frzP (consP (cP (T.int 0)) nilP) τ = .ok (.frz [.int 0]) := rfl
theorem leS11' : (11 ≤ sizeLine) = True := by rw [sizeLine_eq]; decide
theorem leS12' : (12 ≤ sizeLine) = True := by rw [sizeLine_eq]; decide
def labL : List T := [.int 0, .int (-1), .int 1000000000000, .bl true, .bl false, .non, .str "1", .frz [.int 1], .tup [.int 1], .fzd, .int (-10000000000000000000000000000000000000000), .int 100000000000000000000000000000000000000000000000000]
def amtL : List T := [.int (-1), .int 31, .int 32, .bl true, .bl false, .non, .str "3", .frz [.int 0], .tup [.int 2], .fzd, .int 1000000000000000000000000000000]
theorem lab_no : ∀ t ∈ labL, NoLab t ∧ t.im = true := fun t h => by
  simp only [labL, List.mem_cons, List.not_mem_nil, or_false] at h
  rcases h with rfl | rfl | rfl | rfl | rfl | rfl | rfl | rfl | rfl | rfl | rfl | rfl
  · exact ⟨.int (by omega), rfl⟩
  · exact ⟨.int (by omega), rfl⟩
  · exact ⟨.int (by omega), rfl⟩
  · exact ⟨.bl, rfl⟩
  · exact ⟨.bl, rfl⟩
  · exact ⟨.non, rfl⟩
  · exact ⟨.str, rfl⟩
  · exact ⟨.frz, rfl⟩
  · exact ⟨.tup, rfl⟩
  · exact ⟨.fzd, rfl⟩
  · exact ⟨.int (by omega), rfl⟩
  · exact ⟨.int (by omega), rfl⟩
theorem amt_no : ∀ t ∈ amtL, NoAmt t ∧ t.im = true := fun t h => by
  simp only [amtL, List.mem_cons, List.not_mem_nil, or_false] at h
  rcases h with rfl | rfl | rfl | rfl | rfl | rfl | rfl | rfl | rfl | rfl | rfl
  · exact ⟨.int (by omega), rfl⟩
  · exact ⟨.int (by omega), rfl⟩
  · exact ⟨.int (by omega), rfl⟩
  · exact ⟨.bl, rfl⟩
  · exact ⟨.bl, rfl⟩
  · exact ⟨.non, rfl⟩
  · exact ⟨.str, rfl⟩
  · exact ⟨.frz, rfl⟩
  · exact ⟨.tup, rfl⟩
  · exact ⟨.fzd, rfl⟩
  · exact ⟨.int (by omega), rfl⟩
theorem no_label_sp {t : T} (h : PotOk t) : ∃ g t', p__law_no_label [t] = .ok g [t'] ∧ NoLab g ∧ g.im = true ∧ PotOk t' := by
  obtain ⟨d2, t2, e2, a2, b2, h2⟩ := draw_ok h (k := 12) (by omega) (by omega)
  rw [q__law_no_label]
  unfold S__law_no_label
  walk_at "pv"
  simp only [frz1, p12, p40, p50]
  walk_at "pv"
  simp only [leS12']
  walk_at "pv"
  rw [e2]
  walk_at "pv"
  obtain ⟨u, hu, eu⟩ := ix_mem (xs := labL) a2 (by simpa [labL] using b2)
  obtain ⟨g1, g2⟩ := lab_no u hu
  simp only [labL] at eu
  rw [eu]
  walk_at "pv"
  simp only [g2]
  walk_at "pv"
  exact ⟨_, _, rfl, g1, g2, h2⟩
theorem no_amount_sp {t : T} (h : PotOk t) : ∃ g t', p__law_no_amount [t] = .ok g [t'] ∧ NoAmt g ∧ g.im = true ∧ PotOk t' := by
  obtain ⟨d2, t2, e2, a2, b2, h2⟩ := draw_ok h (k := 11) (by omega) (by omega)
  rw [q__law_no_amount]
  unfold S__law_no_amount
  walk_at "pv"
  simp only [frz0, p30]
  walk_at "pv"
  simp only [leS11']
  walk_at "pv"
  rw [e2]
  walk_at "pv"
  obtain ⟨u, hu, eu⟩ := ix_mem (xs := amtL) a2 (by simpa [amtL] using b2)
  obtain ⟨g1, g2⟩ := amt_no u hu
  simp only [amtL] at eu
  rw [eu]
  walk_at "pv"
  simp only [g2]
  walk_at "pv"
  exact ⟨_, _, rfl, g1, g2, h2⟩
end Hd

namespace Hd
open PySem PySem.Spec PyProof.Rows L2 Rw
variable {s : SS}
theorem in1 {b : Bool} : f_in (.bl true) (.lst [.bl true, .bl b]) = some (.bl true) := by cases b <;> rfl
theorem in2 : f_in (.bl true) (.lst [.bl false, .bl true]) = some (.bl true) := rfl
theorem in3 : f_in (.bl true) (.lst [.bl false, .bl false]) = some (.bl false) := rfl
theorem ixA {b : Bool} : q_index (.lst [.bl true, .bl b]) [.bl true] = some (.int 0) := by cases b <;> rfl
theorem ixB : q_index (.lst [.bl false, .bl true]) [.bl true] = some (.int 1) := rfl
theorem la0 : f_ix (.lst [.str "label", .str "amount"]) (.int 0) = some (.str "label") := rfl
theorem la1 : f_ix (.lst [.str "label", .str "amount"]) (.int 1) = some (.str "amount") := rfl
theorem sh_lab : ShT (.str "label") 30 0 := .str (by decide +kernel) (by decide +kernel) (by decide +kernel)
theorem sh_amt : ShT (.str "amount") 30 0 := .str (by decide +kernel) (by decide +kernel) (by decide +kernel)
theorem sh_room : ShT (.str "room") 30 0 := .str (by decide +kernel) (by decide +kernel) (by decide +kernel)
theorem sh_laid : ShT (.str "laid") 30 0 := .str (by decide +kernel) (by decide +kernel) (by decide +kernel)
theorem d_lab : decide (("label" : Str) = "laid") = false := by decide
theorem d_amt : decide (("amount" : Str) = "laid") = false := by decide
theorem d_room : decide (("room" : Str) = "laid") = false := by decide
theorem right_lab {t : T} (hp : PotOk t) (G : SG s) {g a : T} {b : Bool} (hg : NoLab g) (ig : g.im = true) (ia : a.im = true) : ∃ t', p__law_right [t, s.T, g, a, .lst [.bl true, .bl b]] = .ok (.bl true) [t', s.T, .any, .any, .any] ∧ PotOk t' := by
  obtain ⟨z, ez⟩ := shown_sp G.ok G.n1
  obtain ⟨t1, ea, h1⟩ := asked_label (w := 0) (L := 0) hp ig ia (lay_no_lab (s := s) (a := a) hg)
  obtain ⟨zr, ezr⟩ := ((ShL.cons sh_lab .nil).lst).repr (by omega) (by omega)
  rw [q__law_right]
  unfold S__law_right
  walk_at "pv"
  simp only [roF_ok (copied_sp G.ok ⟨G.n0, G.n1⟩)]
  walk_at "pv"
  simp only [roF_ok ez]
  walk_at "pv"
  rw [in1]
  walk_at "pv"
  rw [ixA]
  walk_at "pv"
  rw [la0]
  walk_at "pv"
  rw [ea]
  walk_at "pv"
  rw [ezr]
  walk_at "pv"
  rw [ezr]
  walk_at "pv"
  simp only [f_ne_str, decide_eq_true rfl]
  walk_at "pv"
  try rw [lx0]
  walk_at "pv"
  simp only [f_ne_str, d_lab]
  walk_at "pv"
  simp only [roF_ok ez]
  walk_at "pv"
  try simp only [decide_eq_true rfl]
  walk_at "pv"
  exact ⟨_, rfl, h1⟩
theorem right_amt {t : T} (hp : PotOk t) (G : SG s) {l : Int} {a : T} (l0 : 0 < l) (l1 : l ≤ 999999999999) (ha : NoAmt a) (ia : a.im = true) : ∃ t', p__law_right [t, s.T, .int l, a, .lst [.bl false, .bl true]] = .ok (.bl true) [t', s.T, .any, .any, .any] ∧ PotOk t' := by
  obtain ⟨z, ez⟩ := shown_sp G.ok G.n1
  obtain ⟨t1, ea, h1⟩ := asked_amount (w := 0) (L := 0) hp rfl ia (lay_no_amt (s := s) l0 l1 ha)
  obtain ⟨zr, ezr⟩ := ((ShL.cons sh_amt .nil).lst).repr (by omega) (by omega)
  rw [q__law_right]
  unfold S__law_right
  walk_at "pv"
  simp only [roF_ok (copied_sp G.ok ⟨G.n0, G.n1⟩)]
  walk_at "pv"
  simp only [roF_ok ez]
  walk_at "pv"
  rw [in2]
  walk_at "pv"
  rw [ixB]
  walk_at "pv"
  rw [la1]
  walk_at "pv"
  rw [ea]
  walk_at "pv"
  rw [ezr]
  walk_at "pv"
  rw [ezr]
  walk_at "pv"
  simp only [f_ne_str, decide_eq_true rfl]
  walk_at "pv"
  try rw [lx0]
  walk_at "pv"
  simp only [f_ne_str, d_amt]
  walk_at "pv"
  simp only [roF_ok ez]
  walk_at "pv"
  try simp only [decide_eq_true rfl]
  walk_at "pv"
  exact ⟨_, rfl, h1⟩
theorem right_no {t : T} (hp : PotOk t) (G : SG s) {l : Int} {n : Nat} (l0 : 0 < l) (l1 : l ≤ 999999999999) (hn : n ≤ 30) (hf : ¬ fits s ((2 : Int) + (n : Int))) : ∃ t', p__law_right [t, s.T, .int l, .int (n : Int), .lst [.bl false, .bl false]] = .ok (.bl true) [t', s.T, .any, .any, .any] ∧ PotOk t' := by
  obtain ⟨z, ez⟩ := shown_sp G.ok G.n1
  obtain ⟨t1, ea, h1⟩ := asked_room hp (l := .int l) (a := .int (n : Int)) rfl rfl (lay_room_no G.ok l0 l1 hn hf)
  have hw := wideOf_mem (m := (2 : Int) + (n : Int)) (by omega)
  have hw2 := wides_pos hw.1
  have hL : 0 ≤ longS s ∧ longS s ≤ 512 := by
    have h3 := (long_lt G.ok (m := (2 : Int) + (n : Int)) (by omega)).mpr hf
    have h4 := maxI_ge (ns := 0 :: (gapsS s).map (·.2)) (y := 0) List.mem_cons_self
    unfold longS at *
    omega
  obtain ⟨zr, ezr⟩ := ((ShL.cons sh_room (.cons ((ShT.int' (i := wideOf ((2 : Int) + (n : Int))) (by omega) (by omega))) (.cons (ShT.int' (i := longS s) (by omega) (by omega)) .nil))).lst).repr (by omega) (by omega)
  rw [q__law_right]
  unfold S__law_right
  walk_at "pv"
  simp only [roF_ok (copied_sp G.ok ⟨G.n0, G.n1⟩)]
  walk_at "pv"
  simp only [roF_ok ez]
  walk_at "pv"
  rw [in3]
  walk_at "pv"
  rw [good_no G.ok hn hf]
  walk_at "pv"
  rw [ea]
  walk_at "pv"
  rw [ezr]
  walk_at "pv"
  rw [ezr]
  walk_at "pv"
  simp only [f_ne_str, decide_eq_true rfl]
  walk_at "pv"
  try rw [lx0]
  walk_at "pv"
  simp only [f_ne_str, d_room]
  walk_at "pv"
  simp only [roF_ok ez]
  walk_at "pv"
  try simp only [decide_eq_true rfl]
  walk_at "pv"
  exact ⟨_, rfl, h1⟩
end Hd

namespace Hd
open PySem PySem.Spec PyProof.Rows L2 Rw
variable {s : SS}
def rowD (L : Rms) : List PyData := L.map fun r => .tuple [.int r.1, .int r.2]
theorem dat_rows : ∀ L : Rms, T.datL (rowsT L) = some (rowD L)
  | [] => rfl
  | r :: L => by
    show (match (T.tup [.int r.1, .int r.2]).dat, T.datL (rowsT L) with | some d, some ds => some (d :: ds) | _, _ => none) = _
    rw [dat_rows L]
    rfl
theorem nin_row {L : Rms} {p : Int × Int} (hp : p ∈ L) : f_nin (.tup [.int p.1, .int p.2]) (.lst (rowsT L)) = some (.bl false) := by
  have hd : (T.lst (rowsT L)).dat = some (.list (rowD L)) := by
    show (T.datL (rowsT L)).map PyData.list = _
    rw [dat_rows]
    rfl
  have hx : (T.tup [.int p.1, .int p.2]).dat = some (.tuple [.int p.1, .int p.2]) := rfl
  have hany : ((rowD L).any fun z => PyData.eqv z (.tuple [.int p.1, .int p.2])) = true := by
    refine List.any_eq_true.mpr ⟨.tuple [.int p.1, .int p.2], List.mem_map_of_mem (f := fun r : Int × Int => PyData.tuple [.int r.1, .int r.2]) hp, ?_⟩
    simp [PyData.eqv, PyData.eqvAll]
  obtain ⟨ds, e, h1, h2, h3⟩ := flat_all (flat_rows (L := L))
  rw [dat_rows] at e
  cases e
  have sh : SeqAt.shaped (.tuple [.int p.1, .int p.2]) = true ∧ SeqAt.shaped (.list (rowD L)) = true := by
    unfold SeqAt.shaped
    rw [Bool.and_eq_true, Bool.and_eq_true]
    refine ⟨⟨by simp only [PyData.canLay0, PyData.canLayAll0, Bool.and_true], decide_eq_true (by simp [PyData.depth, PyData.depthAll])⟩, h1, decide_eq_true ?_⟩
    simp only [PyData.depth]
    omega
  unfold f_nin inF
  simp only [T.items, T.sv, hd, hx]
  rw [if_pos sh, hany]
  rfl
end Hd

namespace Hd
open PySem PySem.Spec PyProof.Rows L2 Rw
variable {s : SS}
theorem mul_non {n : Nat} (h : n ≤ 30) : f_mul (.lst [.non]) (.int (n : Int)) = some (.lst (List.replicate n .non)) := by
  rw [mul_row (by omega)]
  unfold rowT
  congr 2
  refine List.ext_getElem (by simp) fun i h1 h2 => by simp
theorem laid_cells (h : SOk s) {l : Int} {n : Nat} (hn : n ≤ 30) (hf : fits s ((2 : Int) + (n : Int))) {w : Nat} (ew : wideOf ((2 : Int) + (n : Int)) = (w : Int)) : (List.range w).map (fun k => (laidS s l n).gc (begN s n + k)) = [.tup [.str "thing", .int l, .int (n : Int)], .int 0] ++ List.replicate (w - 2) .non := by
  obtain ⟨t, w', e1, e2, w1, w2, hN, sep⟩ := takeS_at h (by omega) hf
  have hb : begN s n = t := by unfold begN; rw [e1]; omega
  have hw : w' = w := by omega
  subst hw
  refine List.ext_getElem (by simp; omega) fun k h1 h2 => ?_
  have hk : k < w' := by simpa using h1
  rw [List.getElem_map, List.getElem_range]
  show putR (putR s.gc (begN s n) _) (begN s n + 1) (.int 0) (begN s n + k) = _
  unfold putR
  rcases k with _ | _ | k
  · rw [if_neg (by omega), if_pos (by omega)]
    rfl
  · rw [if_pos (by omega)]
    rfl
  · rw [if_neg (by omega), if_neg (by omega), h.out _ fun r hr hi => by
      have := sep r hr
      unfold inR at hi
      omega]
    simp
def gAt (s : SS) (b : Nat) : T → T
  | .int k => s.gc (b + k.toNat)
  | _ => .any
theorem at_rng {b w : Nat} : List.map (gAt s b) (rngT 0 w) = (List.range w).map fun k => s.gc (b + k) := by
  unfold rngT
  rw [List.map_map]
  refine List.map_congr_left fun k hk => ?_
  show s.gc (b + (0 + (k : Int)).toNat) = _
  rw [show (0 + (k : Int)).toNat = k by omega]
theorem right_ok {t : T} (hp : PotOk t) (G : SG s) {l : Int} {n : Nat} (l0 : 0 < l) (l1 : l ≤ 999999999999) (hn : n ≤ 30) (hf : fits s ((2 : Int) + (n : Int))) : ∃ t' s', p__law_right [t, s.T, .int l, .int (n : Int), .lst [.bl false, .bl false]] = .ok (.bl true) [t', s'.T, .any, .any, .any] ∧ PotOk t' ∧ SG s' := by
  obtain ⟨w, ew, w1, w2, eb, hN, hrs, hin, ok1, ok2, ok3⟩ := laid_facts G.ok l0 l1 hn hf
  have G3 : SG (laidS s l n) := ⟨ok3, G.n0, G.n1⟩
  have hN3 : (laidS s l n).N = s.N := rfl
  have hn1 := G.n1
  obtain ⟨z, ez⟩ := shown_sp G.ok G.n1
  obtain ⟨z3, ez3⟩ := shown_sp G3.ok G3.n1
  obtain ⟨t1, ea, h1⟩ := asked_ok hp (lay_in G.ok l0 l1 hn hf)
  obtain ⟨zr, ezr⟩ := ((ShL.cons sh_laid (.cons (ShT.int' (i := (begN s n : Int)) (by omega) (by omega)) .nil)).lst).repr (by omega) (by omega)
  have hc := laid_cells (l := l) G.ok hn hf ew
  have hsh : ∀ x ∈ (List.range w).map (fun k => (laidS s l n).gc (begN s n + k)), ShT x 200 1 := fun x hx => by
    obtain ⟨k, _, rfl⟩ := List.mem_map.mp hx
    exact (ok3.cell _).sh
  have hle : (200 + 1) * ((List.range w).map (fun k => (laidS s l n).gc (begN s n + k))).length ≤ 201 * 32 := by
    rw [List.length_map, List.length_range]
    exact Nat.mul_le_mul_left _ w2
  obtain ⟨zc, ezc⟩ := ((ShL.all hsh).lst).repr (by omega) (by omega)
  rw [q__law_right]
  unfold S__law_right
  walk_at "pv"
  simp only [roF_ok (copied_sp G.ok ⟨G.n0, G.n1⟩)]
  walk_at "pv"
  simp only [roF_ok ez]
  walk_at "pv"
  rw [in3]
  walk_at "pv"
  rw [good_ok G.ok l0 l1 hn hf]
  walk_at "pv"
  rw [ea]
  walk_at "pv"
  rw [ezr]
  walk_at "pv"
  rw [ezr]
  walk_at "pv"
  simp only [f_ne_str, decide_eq_true rfl]
  walk_at "pv"
  try rw [lx0]
  walk_at "pv"
  simp only [f_ne_str, decide_eq_true rfl]
  walk_at "pv"
  rw [Int.add_comm (n : Int) 2]
  simp only [roF_ok (law_wide_eq (m := (2 : Int) + (n : Int)) (by omega)), ew]
  walk_at "pv"
  rw [rng1_ok (by omega) (by omega)]
  walk_at "pv"
  rw [show ((w : Nat) : Int).toNat = w by omega, lcGo_map (g := gAt (laidS s l n) (begN s n))]
  · walk_at "pv"
    rw [if_pos (by rw [rngT_len]; exact sizeLine_big (by omega)), at_rng]
    walk_at "pv"
    rw [ezc]
    walk_at "pv"
    rw [show (w : Int) - 2 = ((w - 2 : Nat) : Int) by omega, mul_non (by omega)]
    walk_at "pv"
    rw [f_add_lst rfl (imL_all fun x hx => by rw [List.eq_of_mem_replicate hx]; rfl) (by rw [List.length_replicate]; exact len_S' (by simp; omega)), ← hc]
    walk_at "pv"
    rw [ezc]
    walk_at "pv"
    simp only [f_ne_str, decide_eq_true rfl]
    walk_at "pv"
    try rw [lx1]
    walk_at "pv"
    simp only [roF_ok (rooms_sp ok3)]
    walk_at "pv"
    rw [nin_row (p := ((begN s n : Int), (w : Int))) ((srt_perm ok3.nd).mem_iff.mpr (by show _ ∈ (takeS s ((2 : Int) + (n : Int))).rs; rw [hrs]; exact List.mem_append_right _ (List.mem_singleton.mpr rfl)))]
    walk_at "pv"
    simp only [roF_ok ez3]
    walk_at "pv"
    try simp only [decide_eq_true rfl]
    walk_at "pv"
    exact ⟨_, _, rfl, h1, G3⟩
  · intro x hx
    obtain ⟨k, hk, rfl⟩ := List.mem_map.mp hx
    have hk : k < w := by simpa using hk
    unfold lcStep
    simp only [PX, wipeE, List.set, List.length_cons, List.length_nil]
    walk_at "pv"
    try rw [lx1]
    walk_at "pv"
    rw [show (begN s n : Int) + (0 + (k : Int)) = ((begN s n + k : Nat) : Int) by omega]
    simp only [roF_ok (told_sp ok3 (p := begN s n + k) (by rw [hN3]; omega))]
    walk_at "pv"
    try (rw [show gAt (laidS s l n) (begN s n) (.int (0 + (k : Int))) = (laidS s l n).gc (begN s n + (0 + (k : Int)).toNat) from rfl, show (0 + (k : Int)).toNat = k by omega])
end Hd

namespace Hd
open PySem PySem.Spec PyProof.Rows L2 Rw
variable {s : SS}
theorem law_sp {ns : List Int} (hl : ns.length ≤ 63) : p_law [.frz (ns.map T.int)] = .ok (.bl true) [.any] := by
  rw [q_law]
  unfold S_law
  walk_at "pv"
  rw [len_frz (by simp; omega)]
  walk_at "pv"
  rw [List.length_map, show q_min2 [.int 6, .int (ns.length : Int)] = some (.int (if (ns.length : Int) < 6 then (ns.length : Int) else 6)) from rfl]
  walk_at "pv"
  rw [show ∀ x : Int, q_max2 [.int 1, .int x] = some (.int (if x > 1 then x else 1)) from fun x => rfl]
  walk_at "pv"
  generalize hm : (if (if (ns.length : Int) < 6 then (ns.length : Int) else 6) > 1 then (if (ns.length : Int) < 6 then (ns.length : Int) else 6) else 1) = m
  have hm : 1 ≤ m ∧ m ≤ 6 := by
    subst hm
    split <;> (try split) <;> omega
  rw [rng1_ok (by omega) (by omega)]
  walk_at "pv"
  rw [if_pos (rngT_im _ _)]
  generalize hz : forGo _ _ _ _ = z
  obtain ⟨τ', rfl, x1, x2, x3, x4, x5, x6, x7, rfl, p1, p2, p3, p4, p5, p6, p7⟩ := for_res hz (fun k τ => ∃ (x1 x2 x3 x4 x5 x6 x7 : Sl), τ = [Sl.bor (.frz (ns.map T.int)), x1, x2, x3, x4, x5, x6, x7] ∧ x1.isPar = false ∧ x2.isPar = false ∧ x3.isPar = false ∧ x4.isPar = false ∧ x5.isPar = false ∧ x6.isPar = false ∧ x7.isPar = false)
    ⟨_, _, _, _, _, _, _, rfl, rfl, rfl, rfl, rfl, rfl, rfl, rfl⟩ fun k t τ hk hI => by
    obtain ⟨x1, x2, x3, x4, x5, x6, x7, rfl, p1, p2, p3, p4, p5, p6, p7⟩ := hI
    obtain ⟨hk, rfl⟩ := rngT_at hk
    obtain ⟨i, ei⟩ := cell_sp (ns := ns) (k := k) hl
    obtain ⟨a, b, ep, q1, q2, q3⟩ := pot_eq (i := i)
    have hp : PotOk (potT a b) := ⟨a, b, rfl, q1, q2, q3⟩
    obtain ⟨s, t1, eb, F, h1⟩ := filled_sp hp
    obtain ⟨d2, t2, e2, a2, b2, h2⟩ := draw_ok h1 (k := 13) (by omega) (by omega)
    walk_at "pv"
    try simp only [p1]
    walk_at "pv"
    rw [show (0 : Int) + (k : Int) = (k : Int) by omega]
    simp only [roF_ok ei]
    walk_at "pv"
    simp only [roF_ok ep]
    walk_at "pv"
    try simp only [p2]
    walk_at "pv"
    rw [eb]
    walk_at "pv"
    try simp only [p3]
    walk_at "pv"
    rw [e2]
    walk_at "pv"
    rw [rng1_ok (by omega) (by omega)]
    walk_at "pv"
    rw [if_pos (rngT_im _ _)]
    generalize hz2 : forGo _ _ _ _ = z2
    obtain ⟨τ2, rfl, t', s', y4, y5, y6, y7, rfl, r4, r5, r6, r7, F', hp'⟩ := for_res hz2 (fun k2 τ => ∃ (t' : T) (s' : SS) (y4 y5 y6 y7 : Sl), τ = [Sl.bor (.frz (ns.map T.int)), .own (.int (k : Int)), .own t', .own s'.T, y4, y5, y6, y7] ∧ y4.isPar = false ∧ y5.isPar = false ∧ y6.isPar = false ∧ y7.isPar = false ∧ SG s' ∧ PotOk t')
      ⟨_, _, _, _, _, _, rfl, p4, p5, p6, p7, F, h2⟩ fun k2 t τ hk hI => by
      obtain ⟨t', s', y4, y5, y6, y7, rfl, r4, r5, r6, r7, F', hp'⟩ := hI
      obtain ⟨hk2, rfl⟩ := rngT_at hk
      obtain ⟨d3, t3, e3, a3, b3, h3⟩ := draw_ok hp' (k := 50) (by omega) (by omega)
      obtain ⟨d4, t4, e4, a4, b4, h4⟩ := draw_ok h3 (k := 3) (by omega) (by omega)
      obtain ⟨d5, t5, e5, a5, b5, h5⟩ := draw_ok h4 (k := 31) (by omega) (by omega)
      obtain ⟨d6, t6, e6, a6, b6, h6⟩ := draw_ok h5 (k := 6) (by omega) (by omega)
      obtain ⟨d7, t7, e7, a7, b7, h7⟩ := draw_ok h6 (k := 6) (by omega) (by omega)
      obtain ⟨d8, t8, e8, a8, b8, h8⟩ := draw_ok h7 (k := 8) (by omega) (by omega)
      obtain ⟨d9, t9, e9, a9, b9, h9⟩ := draw_ok h8 (k := 8) (by omega) (by omega)
      walk_at "pv"
      try simp only [r4]
      walk_at "pv"
      rw [e3]
      walk_at "pv"
      rw [e4]
      walk_at "pv"
      obtain ⟨l, hl', el⟩ := pick_int (ns := [1, 1 + d3, 999999999999]) a4 (by simpa using b4)
      simp only [List.map] at el
      rw [el]
      have hl' : 0 < l ∧ l ≤ 999999999999 := by
        simp only [List.mem_cons, List.not_mem_nil, or_false] at hl'
        omega
      walk_at "pv"
      try simp only [r5]
      walk_at "pv"
      rw [e5]
      walk_at "pv"
      rw [e6]
      walk_at "pv"
      rw [e7]
      walk_at "pv"
      obtain ⟨n, hn', en⟩ := pick_int (ns := [0, 1, 2, 30, d5, d6]) a7 (by simpa using b7)
      simp only [List.map] at en
      rw [en]
      obtain ⟨n, rfl, hn⟩ : ∃ m : Nat, n = (m : Int) ∧ m ≤ 30 := by
        simp only [List.mem_cons, List.not_mem_nil, or_false] at hn'
        exact ⟨n.toNat, by omega, by omega⟩
      walk_at "pv"
      try simp only [r6]
      walk_at "pv"
      rw [e8]
      walk_at "pv"
      rw [e9]
      walk_at "pv"
      try simp only [r7]
      walk_at "pv"
      generalize decide (d8 = 0) = c8
      generalize decide (d9 = 0) = c9
      rw [lx0]
      walk_at "pv"
      cases c8 with
      | true =>
        walk_at "pv"
        obtain ⟨g, t10, eg, hg, ig, h10⟩ := no_label_sp h9
        rw [eg]
        walk_at "pv"
        rw [lx1]
        walk_at "pv"
        cases c9 with
        | true =>
          walk_at "pv"
          obtain ⟨g2, t11, eg2, hg2, ig2, h11⟩ := no_amount_sp h10
          rw [eg2]
          walk_at "pv"
          obtain ⟨t12, er, h12⟩ := right_lab h11 F' (b := true) hg ig ig2
          rw [er]
          walk_at "pv"
          exact ⟨_, rfl, _, _, _, _, _, _, rfl, rfl, rfl, rfl, rfl, F', h12⟩
        | false =>
          walk_at "pv"
          obtain ⟨t12, er, h12⟩ := right_lab h10 F' (b := false) (a := .int (n : Int)) hg ig rfl
          rw [er]
          walk_at "pv"
          exact ⟨_, rfl, _, _, _, _, _, _, rfl, rfl, rfl, rfl, rfl, F', h12⟩
      | false =>
        walk_at "pv"
        rw [lx1]
        walk_at "pv"
        cases c9 with
        | true =>
          walk_at "pv"
          obtain ⟨g2, t11, eg2, hg2, ig2, h11⟩ := no_amount_sp h9
          rw [eg2]
          walk_at "pv"
          obtain ⟨t12, er, h12⟩ := right_amt h11 F' (l := l) hl'.1 hl'.2 hg2 ig2
          rw [er]
          walk_at "pv"
          exact ⟨_, rfl, _, _, _, _, _, _, rfl, rfl, rfl, rfl, rfl, F', h12⟩
        | false =>
          walk_at "pv"
          by_cases hf : fits s' ((2 : Int) + (n : Int))
          · obtain ⟨t12, s12, er, h12, F12⟩ := right_ok h9 F' (l := l) hl'.1 hl'.2 hn hf
            rw [er]
            walk_at "pv"
            exact ⟨_, rfl, _, _, _, _, _, _, rfl, rfl, rfl, rfl, rfl, F12, h12⟩
          · obtain ⟨t12, er, h12⟩ := right_no h9 F' (l := l) hl'.1 hl'.2 hn hf
            rw [er]
            walk_at "pv"
            exact ⟨_, rfl, _, _, _, _, _, _, rfl, rfl, rfl, rfl, rfl, F', h12⟩
    walk_at "pv"
    exact ⟨_, rfl, _, _, _, _, _, _, _, rfl, rfl, rfl, rfl, r4, r5, r6, r7⟩
  walk_at "pv"
end Hd

namespace Hd
open PySem PySem.Spec PyProof.Rows L2 Rw
theorem pure_law (K : PySem.W.Frag) (H : Hp) (a : Addr) (ns : List Int) (hf : ∀ f ∈ fa, f.ok K = true) (hx : ∀ f ∈ xa, f.ok K = true) (hn : ns.length ≤ 63) (h2 : Only H) (hs : SqL K H a (ns.map V.int)) : lev K es (20 + 1) ("law", none) [.ref a] H (fun v _ => v = .bl true) fun _ _ _ => False :=
  law_end ((sp_law (tab_ok (hx (.tup "WIDES" [.int 2, .int 3, .int 4, .int 6, .int 8, .int 12, .int 16, .int 24, .int 32]) (by simp [xa]))) (20 + 1) (by decide)).ro rfl) (law_sp hn) h2 hs
end Hd
open PySem PySem.W PySem.Calls PyProof.Rows
theorem PySem.Challenge.cw_roomwhole_k21_laid_holds : PySem.Challenge.rw_roomwhole_k21_laid.Holds := by
  w_on; o_law
  refine HandSHeadRun.head_any (r := OpenLaw.row PySem.Challenge.rw_roomwhole_k21_laid) (q := view (OpenLaw.row PySem.Challenge.rw_roomwhole_k21_laid).prog [44]) (H := Hd.hk) (ob := Hd.ob) (M := 20000) (loose := Hd.lo) (d := HandSHeadRun.topDef (OpenLaw.row PySem.Challenge.rw_roomwhole_k21_laid).prog 44) (kwd := []) Hd.ob_eq
    (by kernel_rfl) (fun s => by kernel_rfl) Hd.run (by kernel_rfl) (by kernel_rfl) (by kernel_rfl) (by rfl) (by first | assumption | decide +kernel) (by decide +kernel) ⟨rfl, rfl, rfl, rfl, rfl, by decide +kernel⟩ ?hw ?hc
  case hw => w_witness2
  case hc =>
    exact Rw.walk_es (l := PySem.Challenge.rw_roomwhole_k21_laid) (m := 63) (n := 20) (enL := Hd.e_law) rfl (by decide) (by kernel_rfl) (by kernel_rfl) (by decide) rfl Hd.es_ok Hd.sc_ok Hd.sh_ok rfl rfl rfl (fun _ _ _ _ _ _ _ => rfl) rfl Hd.pure_law

