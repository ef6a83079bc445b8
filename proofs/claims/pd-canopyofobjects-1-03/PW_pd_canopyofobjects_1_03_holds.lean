import PyProof.Rows.All
import Wide.All
import OpenK.AllK
import Wide.FinOn
import PySem.Challenge.RW_pd_canopyofobjects_1_03
set_option Elab.async false
set_option maxRecDepth 1000000
set_option genSizeOf false
set_option genSizeOfSpec false
set_option genInjectivity false

namespace Mine
open PySem PySem.W PySem.Calls PyProof.Rows

abbrev Ps := PySem.Pos
inductive BOp where | add | sub | mul | mod | fdiv
def BOp.py : BOp → Operator
  | .add => .Add | .sub => .Sub | .mul => .Mult | .mod => .Mod | .fdiv => .FloorDiv
inductive COp where | lt | le | gt | ge | eq | ne | is | isnot | notin
def COp.py : COp → CmpOp
  | .lt => .Lt | .le => .LtE | .gt => .Gt | .ge => .GtE | .eq => .Eq | .ne => .NotEq | .is => .Is | .isnot => .IsNot | .notin => .NotIn
inductive Cal where | fn (k : Nat) | cls (k : Nat) | len | sum | max | list | tuple | range

inductive E where
  | none (p : Ps)
  | int (i : Int) (p : Ps)
  | neg (i : Int) (q p : Ps)
  | bool (b : Bool) (p : Ps)
  | loc (i : Nat) (x : Str) (p : Ps)
  | glob (g : Nat) (x : Str) (p : Ps)
  | bin (op : BOp) (a b : E) (p : Ps)
  | cmp (op : COp) (a b : E) (p : Ps)
  | attr (e : E) (f : Nat) (x : Str) (p : Ps)
  | idx (a b : E) (p : Ps)
  | slice (a : E) (lo hi : Option E) (q p : Ps)
  | list (es : List E) (p : Ps)
  | tup (es : List E) (k : Nat) (p : Ps)
  | call (f : Cal) (x : Str) (q : Ps) (es : List E) (p : Ps)
  | meth (o : E) (f : Nat) (x : Str) (q : Ps) (es : List E) (p : Ps)
  | comp (elt : E) (caps : List Nat) (x : Str) (q : Ps) (it : E) (sc : Scope) (p : Ps)
mutual
def E.py : E → PySem.Expr
  | .none p => .Constant .none 0 p
  | .int i p => .Constant (.int i) 0 p
  | .neg i q p => .UnaryOp .USub (.Constant (.int i) 0 q) p
  | .bool b p => .Constant (.bool b) 0 p
  | .loc _ x p => .Name x p
  | .glob _ x p => .Name x p
  | .bin op a b p => .BinOp a.py op.py b.py p
  | .cmp op a b p => .Compare a.py [op.py] [b.py] p
  | .attr e _ x p => .Attribute e.py x p
  | .idx a b p => .Subscript a.py b.py p
  | .slice a lo hi q p => .Subscript a.py (.Slice (Eo.py lo) (Eo.py hi) Option.none q) p
  | .list es p => .List (Es.py es) p
  | .tup es k p => .Tuple (Es.py es) k p
  | .call _ x q es p => .Call (.Name x q) (Es.py es) [] p
  | .meth o _ x q es p => .Call (.Attribute o.py x q) (Es.py es) [] p
  | .comp elt _ x q it sc p => .ListComp elt.py [⟨.Name x q, it.py, [], 0⟩] sc p
def Es.py : List E → List PySem.Expr
  | [] => []
  | e :: es => e.py :: Es.py es
def Eo.py : Option E → Option PySem.Expr
  | Option.none => Option.none
  | some e => some e.py
end

inductive C where
  | e (x : E)
  | cmp (op : COp) (a b : E) (p : Ps)
  | not (c : C) (p : Ps)
  | and (cs : List C) (p : Ps)
  | or (cs : List C) (p : Ps)
mutual
def C.py : C → PySem.Expr
  | .e x => x.py
  | .cmp op a b p => .Compare a.py [op.py] [b.py] p
  | .not c p => .UnaryOp .Not c.py p
  | .and cs p => .BoolOp .And (Cs.py cs) p
  | .or cs p => .BoolOp .Or (Cs.py cs) p
def Cs.py : List C → List PySem.Expr
  | [] => []
  | e :: es => e.py :: Cs.py es
end

inductive S where
  | assign (i : Nat) (x : Str) (q : Ps) (e : E) (p : Ps)
  | own (i : Nat) (x : Str) (q : Ps) (es : List E) (lp p : Ps)
  | setattr (o : E) (f : Nat) (x : Str) (q : Ps) (e : E) (p : Ps)
  | unpack (is : List (Nat × Str × Ps)) (k : Nat) (q : Ps) (e : E) (p : Ps)
  | ite (c : C) (a b : List S) (p : Ps)
  | for (i : Nat) (x : Str) (q : Ps) (it : E) (body : List S) (p : Ps)
  | while (c : C) (body : List S) (p : Ps)
  | ret (e : E) (p : Ps)
  | expr (e : E) (p : Ps)
  | append (i : Nat) (x : Str) (xp ap : Ps) (e : E) (cp p : Ps)
  | del (i : Nat) (x : Str) (xp : Ps) (e : E) (sp p : Ps)
  | freeze (i : Nat)
  | raw (t : PySem.Stmt)
mutual
def S.py : S → List PySem.Stmt
  | .assign _ x q e p => [.Assign [.Name x q] e.py p]
  | .own _ x q es lp p => [.Assign [.Name x q] (.List (Es.py es) lp) p]
  | .setattr o _ x q e p => [.Assign [.Attribute o.py x q] e.py p]
  | .unpack is k q e p => [.Assign [.Tuple (is.map fun y => .Name y.2.1 y.2.2) k q] e.py p]
  | .ite c a b p => [.If c.py (Ss.py a) (Ss.py b) p]
  | .for _ x q it body p => [.For (.Name x q) it.py (Ss.py body) [] p]
  | .while c body p => [.While c.py (Ss.py body) [] p]
  | .ret e p => [.Return (some e.py) p]
  | .expr e p => [.Expr e.py p]
  | .append _ x xp ap e cp p => [.Expr (.Call (.Attribute (.Name x xp) "append" ap) [e.py] [] cp) p]
  | .del _ x xp e sp p => [.Delete [.Subscript (.Name x xp) e.py sp] p]
  | .freeze _ => []
  | .raw t => [t]
def Ss.py : List S → List PySem.Stmt
  | [] => []
  | s :: ss => s.py ++ Ss.py ss
end

/-- the data -/
inductive V where
  | scr | none | bool (b : Bool) | int (i : Int) | key (n : Nat) | val (n : Nat)
  | list (xs : List V) | tup (xs : List V) | obj (k : Nat)
inductive LV where
  | unset | v (x : V) | own (xs : List V) | dct (f : Int → Option V) (n : Nat)
structure Inst where
  cls : Nat
  fs : List V

structure Cn where
  prog : Program
  w : World
  hb : Heap
  K : Frag
  p : Program
  loose : List Str
  mg : Str → Option Value
  mb : Str → Option Value
  X : K.In hb
  T : TopRead p loose mg mb hb
  kv : Nat → Int
  vv : Nat → Int
  kv_lt : ∀ i j, i < j → kv i < kv j
  cls : Nat → Addr
  fld : Nat → List Str
  scr : Addr
  sws : List Value
  sns : List Int
  hscr : hb.IsList scr sws.toArray
  hsns : IntsAre sws sns

structure Gh where
  ρ : List Addr
  δ : List Addr
  M : Addr → Prop

mutual
inductive RV (c : Cn) (g : Gh) (h : Heap) : V → Value → Prop where
  | scr : RV c g h .scr (.ref c.scr)
  | none : RV c g h .none .none
  | bool (b : Bool) : RV c g h (.bool b) (.bool b)
  | int (i : Int) (t : Tok) : RV c g h (.int i) (.int i t)
  | key (n : Nat) (t : Tok) : RV c g h (.key n) (.int (c.kv n) t)
  | val (n : Nat) (t : Tok) : RV c g h (.val n) (.int (c.vv n) t)
  | obj {k : Nat} {a : Addr} : g.ρ[k]? = some a → RV c g h (.obj k) (.ref a)
  | list {xs : List V} {a : Addr} {ws : List Value} {n : Nat} : h.get? a = some { cls := .type "list", data := .seq ws.toArray n } → ¬ g.M a → RVs c g h xs ws → RV c g h (.list xs) (.ref a)
  | tup {xs : List V} {a : Addr} {ws : List Value} {n : Nat} : h.get? a = some { cls := .type "tuple", data := .seq ws.toArray n } → ¬ g.M a → RVs c g h xs ws → RV c g h (.tup xs) (.ref a)
inductive RVs (c : Cn) (g : Gh) (h : Heap) : List V → List Value → Prop where
  | nil : RVs c g h [] []
  | cons {x : V} {w : Value} {xs : List V} {ws : List Value} : RV c g h x w → RVs c g h xs ws → RVs c g h (x :: xs) (w :: ws)
end

structure Gro (g : Gh) (h : Heap) (g' : Gh) (h' : Heap) : Prop where
  ρ : g.ρ <+: g'.ρ
  δ : g.δ <+: g'.δ
  keep : ∀ b o, h.get? b = some o → b ∉ g.δ → h'.get? b = some o
  dom : ∀ b o, h.get? b = some o → ∃ o', h'.get? b = some o'
  M : ∀ b o, h.get? b = some o → (g'.M b ↔ g.M b)
  new : ∀ b o, h.get? b = some o → b ∈ g'.δ → b ∈ g.δ
theorem Gro.refl (g : Gh) (h : Heap) : Gro g h g h := ⟨List.prefix_refl _, List.prefix_refl _, fun _ _ e _ => e, fun _ o e => ⟨o, e⟩, fun _ _ _ => Iff.rfl, fun _ _ _ e => e⟩
theorem Gro.trans {g g' g'' : Gh} {h h' h'' : Heap} (x : Gro g h g' h') (y : Gro g' h' g'' h'') : Gro g h g'' h'' := by
  refine ⟨x.ρ.trans y.ρ, x.δ.trans y.δ, fun b o e n => y.keep b o (x.keep b o e n) fun q => n (x.new b o e q), fun b o e => ?_, fun b o e => ?_, fun b o e q => ?_⟩
  · obtain ⟨o', e'⟩ := x.dom b o e; exact y.dom b o' e'
  · obtain ⟨o', e'⟩ := x.dom b o e; exact (y.M b o' e').trans (x.M b o e)
  · obtain ⟨o', e'⟩ := x.dom b o e; exact x.new b o e (y.new b o' e' q)

inductive FR (c : Cn) (g : Gh) (h : Heap) : List Str → List DictEntry → List V → Prop where
  | nil {ns : List Str} : FR c g h ns [] []
  | cons {n : Str} {hs : Int} {t : Tok} {w : Value} {x : V} {ns : List Str} {es : List DictEntry} {xs : List V} : RV c g h x w → FR c g h ns es xs → FR c g h (n :: ns) (⟨hs, .str n t, w⟩ :: es) (x :: xs)

structure Wd (c : Cn) (g : Gh) (st : List Inst) (h : Heap) : Prop where
  lenρ : g.ρ.length = st.length
  lenδ : g.δ.length = st.length
  inst : ∀ (k : Nat) (i : Inst) (a d : Addr), st[k]? = some i → g.ρ[k]? = some a → g.δ[k]? = some d → h.get? a = some (instObj (c.cls i.cls) d) ∧ ∃ es n, h.get? d = some (dictOf es n) ∧ FR c g h (c.fld i.cls) es i.fs
  ndδ : g.δ.Nodup
  ndρ : g.ρ.Nodup
  Mδ : ∀ d ∈ g.δ, g.M d
  Mρ : ∀ a ∈ g.ρ, ¬ g.M a
  Mdom : ∀ b, g.M b → ∃ o, h.get? b = some o
  base : ∀ b o, c.hb.get? b = some o → h.get? b = some o ∧ ¬ g.M b

theorem pre_get {α : Type} {l l' : List α} (p : l <+: l') {i : Nat} {a : α} (e : l[i]? = some a) : l'[i]? = some a := by
  obtain ⟨t, rfl⟩ := p
  rw [List.getElem?_append_left (List.getElem?_eq_some_iff.mp e).1]; exact e
section
variable {c : Cn} {g g' : Gh} {h h' : Heap}
mutual
theorem RV.mono {v : V} {w : Value} (x : RV c g h v w) (hr : g.ρ <+: g'.ρ) (k : ∀ b o, h.get? b = some o → ¬ g.M b → h'.get? b = some o ∧ ¬ g'.M b) : RV c g' h' v w := by
  cases x with
  | scr => exact .scr
  | none => exact .none
  | bool b => exact .bool b
  | int i t => exact .int i t
  | key n t => exact .key n t
  | val n t => exact .val n t
  | obj e => exact .obj (pre_get hr e)
  | list e m r => exact .list (k _ _ e m).1 (k _ _ e m).2 (RVs.mono r hr k)
  | tup e m r => exact .tup (k _ _ e m).1 (k _ _ e m).2 (RVs.mono r hr k)
theorem RVs.mono {v : List V} {w : List Value} (x : RVs c g h v w) (hr : g.ρ <+: g'.ρ) (k : ∀ b o, h.get? b = some o → ¬ g.M b → h'.get? b = some o ∧ ¬ g'.M b) : RVs c g' h' v w := by
  cases x with
  | nil => exact .nil
  | cons a b => exact .cons (RV.mono a hr k) (RVs.mono b hr k)
end
theorem FR.mono {ns : List Str} {es : List DictEntry} {xs : List V} (x : FR c g h ns es xs) (hr : g.ρ <+: g'.ρ) (k : ∀ b o, h.get? b = some o → ¬ g.M b → h'.get? b = some o ∧ ¬ g'.M b) : FR c g' h' ns es xs := by
  induction x with
  | nil => exact .nil
  | cons a _ ih => exact .cons (a.mono hr k) ih
theorem Wd.imm {st : List Inst} (W : Wd c g st h) (G : Gro g h g' h') : ∀ b o, h.get? b = some o → ¬ g.M b → h'.get? b = some o ∧ ¬ g'.M b :=
  fun b o e m => ⟨G.keep b o e fun q => m (W.Mδ b q), fun q => m ((G.M b o e).mp q)⟩
theorem RV.gro {st : List Inst} {v : V} {w : Value} (x : RV c g h v w) (W : Wd c g st h) (G : Gro g h g' h') : RV c g' h' v w := x.mono G.ρ (W.imm G)
theorem RVs.gro {st : List Inst} {v : List V} {w : List Value} (x : RVs c g h v w) (W : Wd c g st h) (G : Gro g h g' h') : RVs c g' h' v w := x.mono G.ρ (W.imm G)
theorem RVs.length {v : List V} {w : List Value} (x : RVs c g h v w) : w.length = v.length := by
  induction v generalizing w with
  | nil => cases x; rfl
  | cons a l ih => cases x with | cons _ r => rw [List.length_cons, List.length_cons, ih r]
theorem RVs.get {v : List V} {w : List Value} (x : RVs c g h v w) {i : Nat} {a : V} (e : v[i]? = some a) : ∃ b, w[i]? = some b ∧ RV c g h a b := by
  induction v generalizing w i with
  | nil => cases e
  | cons y l ih =>
    cases x with
    | cons q r =>
      cases i with
      | zero => cases e; exact ⟨_, rfl, q⟩
      | succ i => exact ih r e
theorem RVs.get' {v : List V} {w : List Value} (x : RVs c g h v w) {i : Nat} {b : Value} (e : w[i]? = some b) : ∃ a, v[i]? = some a ∧ RV c g h a b := by
  induction v generalizing w i with
  | nil => cases x; cases e
  | cons y l ih =>
    cases x with
    | cons q r =>
      cases i with
      | zero => cases e; exact ⟨_, rfl, q⟩
      | succ i => exact ih r e
theorem RVs.append {v v' : List V} {w w' : List Value} (x : RVs c g h v w) (y : RVs c g h v' w') : RVs c g h (v ++ v') (w ++ w') := by
  induction v generalizing w with
  | nil => cases x; exact y
  | cons a l ih => cases x with | cons q r => exact .cons q (ih r)
theorem RVs.take {v : List V} {w : List Value} (x : RVs c g h v w) (n : Nat) : RVs c g h (v.take n) (w.take n) := by
  induction v generalizing w n with
  | nil => cases x; simp; exact .nil
  | cons a l ih =>
    cases x with
    | cons q r =>
      cases n with
      | zero => exact .nil
      | succ n => exact .cons q (ih r n)
theorem RVs.drop {v : List V} {w : List Value} (x : RVs c g h v w) (n : Nat) : RVs c g h (v.drop n) (w.drop n) := by
  induction v generalizing w n with
  | nil => cases x; simp; exact .nil
  | cons a l ih =>
    cases x with
    | cons q r =>
      cases n with
      | zero => exact .cons q r
      | succ n => exact ih r n
end

structure Room (n : Nat) (A : Around) : Prop where
  hd : A.handled = none
  dep : A.depth + 4 * n < 900
  uni : A.units + 100 * n < 9000
end Mine

namespace Mine
open PySem PySem.W PySem.Calls PyProof.Rows

structure Nm where
  ns : List Str
  gs : List Str
  cs : List Str
  ls : List Str
structure EnvOk (nm : Nm) (env : Env) : Prop where
  ls : ∀ x ∈ nm.ls, env.kindOf x = some .local
  cs : ∀ x ∈ nm.cs, env.kindOf x = some .cell
  gs : ∀ x ∈ nm.gs, env.kindOf x = some .globalImplicit
  kind : env.scope.kind = .function
  gl : env.globals = mainGlobals
  bl : env.builtins = builtinsNs

/-- the name's value as the frame bears it -/
inductive Reach (g : Gh) (env : Env) (h : Heap) (x : Str) (v : Value) : Prop where
  | loc (m : Str → Option Value) : env.kindOf x = some .local → h.Ns env.locals m → env.locals ∉ g.δ → m x = some v → Reach g env h x v
  | cell (a : Addr) : env.kindOf x = some .cell → env.cells.lookup x = some a → a ∉ g.δ → h.IsCell a (some v) → Reach g env h x v

/-- a dict of ints -/
inductive OR (c : Cn) (g : Gh) (h : Heap) : Option V → Option Value → Prop where
  | no : OR c g h none none
  | yes {v : V} {w : Value} : RV c g h v w → OR c g h (some v) (some w)
structure DObj (c : Cn) (g : Gh) (h : Heap) (o : Obj) (f : Int → Option V) (n : Nat) : Prop where
  ex : o.ExactDict
  dat : ∃ (es : Array DictEntry) (ep : Nat) (fw : Int → Option Value), o.data = .dict es ep ∧ KeysOf (intKind c.prog c.w) es ∧ (∀ k, findBy (intKind c.prog c.w).is es k = fw k) ∧ es.size ≤ n ∧ ∀ k, OR c g h (f k) (fw k)
theorem OR.mono {c : Cn} {g g' : Gh} {h h' : Heap} {v : Option V} {w : Option Value} (x : OR c g h v w) (hr : g.ρ <+: g'.ρ) (k : ∀ b o, h.get? b = some o → ¬ g.M b → h'.get? b = some o ∧ ¬ g'.M b) : OR c g' h' v w := by
  cases x with
  | no => exact .no
  | yes r => exact .yes (r.mono hr k)
theorem DObj.mono {c : Cn} {g g' : Gh} {h h' : Heap} {o : Obj} {f : Int → Option V} {n : Nat} (x : DObj c g h o f n) (hr : g.ρ <+: g'.ρ) (k : ∀ b o, h.get? b = some o → ¬ g.M b → h'.get? b = some o ∧ ¬ g'.M b) : DObj c g' h' o f n :=
  let ⟨es, ep, fw, a, b, c, d, e⟩ := x.dat
  ⟨x.ex, es, ep, fw, a, b, c, d, fun i => (e i).mono hr k⟩
theorem DObj.ne {c : Cn} {g : Gh} {h h1 : Heap} {o o' : Obj} {a b : Addr} {f : Int → Option V} {n : Nat} (x : DObj c g h o f n) (e : h1.get? a = some o) (e' : h1.get? b = some o') (d : ∀ es ep, o'.data ≠ .dict es ep) : a ≠ b := by
  rintro rfl
  rw [e] at e'; cases e'
  obtain ⟨es, ep, fw, q, _⟩ := x.dat
  exact d es ep q
theorem DObj.neC {c : Cn} {g : Gh} {h h1 : Heap} {o : Obj} {a b : Addr} {f : Int → Option V} {n : Nat} {v : Option Value} (x : DObj c g h o f n) (e : h1.get? a = some o) (e' : h1.IsCell b v) : a ≠ b := by
  obtain ⟨o', ho, hd⟩ := e'
  exact x.ne e ho fun es ep q => by rw [hd] at q; cases q

inductive SlotR (c : Cn) (g : Gh) (env : Env) (h : Heap) (x : Str) : LV → Prop where
  | unset : SlotR c g env h x .unset
  | v {y : V} {w : Value} : Reach g env h x w → RV c g h y w → SlotR c g env h x (.v y)
  | own {xs : List V} {ws : List Value} {a : Addr} {n : Nat} : Reach g env h x (.ref a) → h.get? a = some { cls := .type "list", data := .seq ws.toArray n } → g.M a → a ∉ g.δ → RVs c g h xs ws → SlotR c g env h x (.own xs)
  | dct {f : Int → Option V} {n : Nat} {o : Obj} {a : Addr} : Reach g env h x (.ref a) → h.get? a = some o → g.M a → a ∉ g.δ → a ≠ sysModules → DObj c g h o f n → SlotR c g env h x (.dct f n)

def Le (c : Cn) (env : Env) (ns : List Str) (g : Gh) (h : Heap) (loc : List LV) : Prop :=
  ∀ (i : Nat) (x : Str) (lv : LV), ns[i]? = some x → loc[i]? = some lv → SlotR c g env h x lv

theorem ns_at {h h' : Heap} {a : Addr} {m : Str → Option Value} (x : h.Ns a m) (e : ∀ o, h.get? a = some o → h'.get? a = some o) : h'.Ns a m := by
  obtain ⟨o, es, ep, ho, r⟩ := x; exact ⟨o, es, ep, e _ ho, r⟩
theorem cell_at {h h' : Heap} {a : Addr} {m : Option Value} (x : h.IsCell a m) (e : ∀ o, h.get? a = some o → h'.get? a = some o) : h'.IsCell a m := by
  obtain ⟨o, ho, r⟩ := x; exact ⟨o, e _ ho, r⟩
section
variable {c : Cn} {g g' : Gh} {h h' : Heap} {env : Env} {ns : List Str} {loc : List LV} {st : List Inst}
theorem Reach.gro {x : Str} {v : Value} (R : Reach g env h x v) (G : Gro g h g' h') : Reach g' env h' x v := by
  cases R with
  | loc m k n d e =>
    obtain ⟨o, es, ep, ho, r⟩ := id n
    exact .loc m k (ns_at n fun o ho => G.keep _ _ ho d) (fun q => d (G.new _ _ ho q)) e
  | cell a k l d e =>
    obtain ⟨o, ho, r⟩ := id e
    exact .cell a k l (fun q => d (G.new _ _ ho q)) (cell_at e fun o ho => G.keep _ _ ho d)
theorem SlotR.gro {x : Str} {lv : LV} (R : SlotR c g env h x lv) (W : Wd c g st h) (G : Gro g h g' h') : SlotR c g' env h' x lv := by
  cases R with
  | unset => exact .unset
  | v r y => exact .v (r.gro G) (y.gro W G)
  | own r e m d y => exact .own (r.gro G) (G.keep _ _ e d) ((G.M _ _ e).mpr m) (fun q => d (G.new _ _ e q)) (y.gro W G)
  | dct r e m d z y => exact .dct (r.gro G) (G.keep _ _ e d) ((G.M _ _ e).mpr m) (fun q => d (G.new _ _ e q)) z (y.mono G.ρ (W.imm G))
theorem Le.gro (L : Le c env ns g h loc) (W : Wd c g st h) (G : Gro g h g' h') : Le c env ns g' h' loc := fun i x lv a b => (L i x lv a b).gro W G
end

abbrev Cn.M (c : Cn) : Model := model c.prog c.w

def Pst (c : Cn) (g : Gh) (s : Shared) (st' : List Inst) (v : V) (Q : Value → Shared → Prop) : Prop :=
  ∀ val h' tk' g', Gro g s.heap g' h' → Wd c g' st' h' → RV c g' h' v val → Q val { s with heap := h', toks := tk' }
def PstB (c : Cn) (g : Gh) (s : Shared) (st' : List Inst) (b : Bool) (Q : Bool → Shared → Prop) : Prop :=
  ∀ h' tk' g', Gro g s.heap g' h' → Wd c g' st' h' → Q b { s with heap := h', toks := tk' }
def PstL (c : Cn) (g : Gh) (s : Shared) (st' : List Inst) (vs : List V) (Q : List Value → Shared → Prop) : Prop :=
  ∀ vals h' tk' g', Gro g s.heap g' h' → Wd c g' st' h' → RVs c g' h' vs vals → Q vals { s with heap := h', toks := tk' }

/-- an expression's value -/
def SE (c : Cn) (nm : Nm) (n : Nat) (e : E) (loc : List LV) (st : List Inst) (v : V) (st' : List Inst) : Prop :=
  ∀ (A : Around) (env : Env) (g : Gh) (s : Shared) (Q : Value → Shared → Prop) (Ex : Value → Shared → Prop),
    Room n A → EnvOk nm env → Wd c g st s.heap → Le c env nm.ns g s.heap loc → Pst c g s st' v Q → wpAny c.M A (eval e.py env) Q Ex s
/-- a test -/
def SC (c : Cn) (nm : Nm) (n : Nat) (e : C) (loc : List LV) (st : List Inst) (b : Bool) (st' : List Inst) : Prop :=
  ∀ (A : Around) (env : Env) (g : Gh) (s : Shared) (Q : Bool → Shared → Prop) (Ex : Value → Shared → Prop),
    Room n A → EnvOk nm env → Wd c g st s.heap → Le c env nm.ns g s.heap loc → PstB c g s st' b Q → wpAny c.M A (isTrue e.py env (eval e.py env)) Q Ex s
/-- several values -/
def SEs (c : Cn) (nm : Nm) (n : Nat) (es : List E) (loc : List LV) (st : List Inst) (vs : List V) (st' : List Inst) : Prop :=
  ∀ (A : Around) (env : Env) (g : Gh) (s : Shared) (Q : List Value → Shared → Prop) (Ex : Value → Shared → Prop) (pos : Ps),
    Room n A → EnvOk nm env → Wd c g st s.heap → Le c env nm.ns g s.heap loc → PstL c g s st' vs Q → wpAny c.M A (spliced (backTo pos (starEach (Es.py es) env))) Q Ex s

theorem Pst.trans {c : Cn} {g g' : Gh} {s : Shared} {h' : Heap} {tk : Nat} {st' : List Inst} {v : V} {Q : Value → Shared → Prop} (P : Pst c g s st' v Q) (G : Gro g s.heap g' h') : Pst c g' { s with heap := h', toks := tk } st' v Q :=
  fun val h'' tk'' g'' G' W' R' => P val h'' tk'' g'' (G.trans G') W' R'
theorem PstB.trans {c : Cn} {g g' : Gh} {s : Shared} {h' : Heap} {tk : Nat} {st' : List Inst} {v : Bool} {Q : Bool → Shared → Prop} (P : PstB c g s st' v Q) (G : Gro g s.heap g' h') : PstB c g' { s with heap := h', toks := tk } st' v Q :=
  fun h'' tk'' g'' G' W' => P h'' tk'' g'' (G.trans G') W'
theorem PstL.trans {c : Cn} {g g' : Gh} {s : Shared} {h' : Heap} {tk : Nat} {st' : List Inst} {v : List V} {Q : List Value → Shared → Prop} (P : PstL c g s st' v Q) (G : Gro g s.heap g' h') : PstL c g' { s with heap := h', toks := tk } st' v Q :=
  fun val h'' tk'' g'' G' W' R' => P val h'' tk'' g'' (G.trans G') W' R'
theorem Pst.here {c : Cn} {g : Gh} {s : Shared} {tk : Nat} {st : List Inst} {v : V} {w : Value} {Q : Value → Shared → Prop} (P : Pst c g s st v Q) (W : Wd c g st s.heap) (R : RV c g s.heap v w) : Q w { s with toks := tk } :=
  P w s.heap tk g (Gro.refl _ _) W R
theorem PstB.here {c : Cn} {g : Gh} {s : Shared} {tk : Nat} {st : List Inst} {v : Bool} {Q : Bool → Shared → Prop} (P : PstB c g s st v Q) (W : Wd c g st s.heap) : Q v { s with toks := tk } :=
  P s.heap tk g (Gro.refl _ _) W

section
variable {c : Cn} {nm : Nm} {n : Nat} {loc : List LV} {st st₁ st₂ : List Inst}

theorem sE_none {p : Ps} : SE c nm n (.none p) loc st .none st := fun A env g s Q Ex _ _ W _ P => by
  show wpAny _ _ (eval (.Constant .none 0 p) env) Q Ex s
  exact wpAny_Constant_none (P.here W .none)
theorem sE_bool {b : Bool} {p : Ps} : SE c nm n (.bool b p) loc st (.bool b) st := fun A env g s Q Ex _ _ W _ P => by
  show wpAny _ _ (eval (.Constant (.bool b) 0 p) env) Q Ex s
  exact wpAny_Constant_bool (P.here W (.bool b))
theorem sE_int {i : Int} {p : Ps} : SE c nm n (.int i p) loc st (.int i) st := fun A env g s Q Ex _ _ W _ P => by
  show wpAny _ _ (eval (.Constant (.int i) 0 p) env) Q Ex s
  exact wpAny_Constant_int (P.here W (.int i _))

theorem reach_load {nm : Nm} {env : Env} {g : Gh} {s : Shared} {x : Str} {v : Value} {M : Model} {A : Around} {Q : Value → Shared → Prop} {Ex : Value → Shared → Prop} (eo : EnvOk nm env) (R : Reach g env s.heap x v) (h : Q v s) : wpAny M A (loadName env x) Q Ex s := by
  cases R with
  | loc m k n d e => exact wpAny_loadName_local eo.kind k n e h
  | cell a k l d e => exact wpAny_loadName_cell eo.kind k l e h
theorem sE_loc {i : Nat} {x : Str} {p : Ps} {v : V} (hx : nm.ns[i]? = some x) (hl : loc[i]? = some (.v v)) (hd : (x == ("__debug__" : Str)) = false) : SE c nm n (.loc i x p) loc st v st := fun A env g s Q Ex _ eo W L P => by
  show wpAny _ _ (eval (.Name x p) env) Q Ex s
  cases L i x _ hx hl with
  | v R y => exact wpAny_Name (reach_load eo R (P.here (tk := s.toks) W y)) hd

/-- what an operator gives -/
def BinOk (c : Cn) (n : Nat) (op : BOp) (a b v : V) : Prop :=
  ∀ (A : Around) (g : Gh) (s : Shared) (st : List Inst) (x y : Value) (Q : Value → Shared → Prop) (Ex : Value → Shared → Prop),
    Room n A → Wd c g st s.heap → RV c g s.heap a x → RV c g s.heap b y → Pst c g s st v Q → wpAny c.M A (binaryOp op.py x y) Q Ex s
def CmpOk (c : Cn) (n : Nat) (op : COp) (a b : V) (v : Bool) : Prop :=
  ∀ (A : Around) (g : Gh) (s : Shared) (st : List Inst) (x y : Value) (Q : Value → Shared → Prop) (Ex : Value → Shared → Prop),
    Room n A → Wd c g st s.heap → RV c g s.heap a x → RV c g s.heap b y → Pst c g s st (.bool v) Q → wpAny c.M A (compareOp op.py x y) Q Ex s

theorem sE_bin {op : BOp} {a b : E} {p : Ps} {x y v : V} (ha : SE c nm n a loc st x st₁) (hb : SE c nm n b loc st₁ y st₂) (ho : BinOk c n op x y v) : SE c nm n (.bin op a b p) loc st v st₂ := fun A env g s Q Ex r eo W L P => by
  show wpAny _ _ (eval (.BinOp a.py op.py b.py p) env) Q Ex s
  refine wpAny_BinOp (ha A env g s _ Ex r eo W L fun wa h₁ t₁ g₁ G₁ W₁ R₁ => ?_)
  refine hb A env g₁ _ _ Ex r eo W₁ (L.gro W G₁) fun wb h₂ t₂ g₂ G₂ W₂ R₂ => ?_
  exact ho A g₂ _ st₂ wa wb Q Ex r W₂ (R₁.gro W₁ G₂) R₂ (P.trans (G₁.trans G₂))
theorem marks_ok (op : COp) (e : PySem.Expr) : behindInMarks op.py e = false ∨ op = .notin := by
  cases op <;> first | exact .inr rfl | (left; cases e <;> first | rfl | (simp [behindInMarks, COp.py]))
end
end Mine

namespace Mine
open PySem PySem.W PySem.Calls PyProof.Rows

section
variable {c : Cn} {g : Gh} {st : List Inst} {h : Heap}
theorem Gro.push (g : Gh) (h : Heap) (o : Obj) : Gro g h g (h.push o) :=
  ⟨List.prefix_refl _, List.prefix_refl _, fun _ _ e _ => Heap.get?_push_of_some _ e, fun _ o' e => ⟨o', Heap.get?_push_of_some _ e⟩, fun _ _ _ => Iff.rfl, fun _ _ _ e => e⟩
theorem Wd.push (W : Wd c g st h) (o : Obj) : Wd c g st (h.push o) := by
  refine ⟨W.lenρ, W.lenδ, fun k i a d h1 h2 h3 => ?_, W.ndδ, W.ndρ, W.Mδ, W.Mρ, fun b m => ?_, fun b o' e => ⟨Heap.get?_push_of_some _ (W.base b o' e).1, (W.base b o' e).2⟩⟩
  · obtain ⟨e1, es, n, e2, r⟩ := W.inst k i a d h1 h2 h3
    exact ⟨Heap.get?_push_of_some _ e1, es, n, Heap.get?_push_of_some _ e2, r.mono (List.prefix_refl _) fun b o' e m => ⟨Heap.get?_push_of_some _ e, m⟩⟩
  · obtain ⟨o', e⟩ := W.Mdom b m; exact ⟨o', Heap.get?_push_of_some _ e⟩
theorem Wd.fresh (W : Wd c g st h) : ¬ g.M h.objs.size := fun m => let ⟨_, e⟩ := W.Mdom _ m; Nat.lt_irrefl _ (Heap.lt_size e)
theorem RV.newList (W : Wd c g st h) {xs : List V} {ws : List Value} (r : RVs c g h xs ws) : RV c g (h.push { cls := .type "list", data := .seq ws.toArray }) (.list xs) (.ref h.objs.size) :=
  .list (Heap.get?_push_size _ rfl) W.fresh (r.gro W (Gro.push g h _))
theorem RV.newTup (W : Wd c g st h) {xs : List V} {ws : List Value} (r : RVs c g h xs ws) : RV c g (h.push { cls := .type "tuple", data := .seq ws.toArray }) (.tup xs) (.ref h.objs.size) :=
  .tup (Heap.get?_push_size _ rfl) W.fresh (r.gro W (Gro.push g h _))
theorem Pst.new {s : Shared} {st' : List Inst} {v : V} {Q : Value → Shared → Prop} {o : Obj} {w : Value} {tk : Nat} (P : Pst c g s st' v Q) (W : Wd c g st' s.heap) (R : RV c g (s.heap.push o) v w) : Q w { s with heap := s.heap.push o, toks := tk } :=
  P w _ tk g (Gro.push g _ o) (W.push o) R
end

/-- the int a datum stands for -/
def V.iv (c : Cn) : V → Option Int
  | .int i => some i
  | .key n => some (c.kv n)
  | .val n => some (c.vv n)
  | _ => Option.none
theorem RV.iv {c : Cn} {g : Gh} {h : Heap} {v : V} {w : Value} {i : Int} (R : RV c g h v w) (e : v.iv c = some i) : ∃ t, w = .int i t := by
  cases R with
  | int i t => cases e; exact ⟨t, rfl⟩
  | key n t => cases e; exact ⟨t, rfl⟩
  | val n t => cases e; exact ⟨t, rfl⟩
  | _ => cases e

section
variable {c : Cn} {n : Nat} {a b : V} {i j : Int}
theorem bin_add (ha : a.iv c = some i) (hb : b.iv c = some j) : BinOk c n .add a b (.int (i + j)) := fun A g s st x y Q Ex r W R S P => by
  obtain ⟨t, rfl⟩ := R.iv ha; obtain ⟨u, rfl⟩ := S.iv hb
  exact add_int (P.here W (.int _ _))
theorem bin_sub (ha : a.iv c = some i) (hb : b.iv c = some j) : BinOk c n .sub a b (.int (i - j)) := fun A g s st x y Q Ex r W R S P => by
  obtain ⟨t, rfl⟩ := R.iv ha; obtain ⟨u, rfl⟩ := S.iv hb
  exact sub_int (P.here W (.int _ _))
theorem bin_mul (ha : a.iv c = some i) (hb : b.iv c = some j) (hm : IntMulOk i j) : BinOk c n .mul a b (.int (i * j)) := fun A g s st x y Q Ex r W R S P => by
  obtain ⟨t, rfl⟩ := R.iv ha; obtain ⟨u, rfl⟩ := S.iv hb
  exact mul_int (P.here W (.int _ _)) hm
theorem bin_mod (ha : a.iv c = some i) (hb : b.iv c = some j) (h0 : j ≠ 0) : BinOk c n .mod a b (.int (i.fmod j)) := fun A g s st x y Q Ex r W R S P => by
  obtain ⟨t, rfl⟩ := R.iv ha; obtain ⟨u, rfl⟩ := S.iv hb
  exact mod_int h0 (P.here W (.int _ _))
theorem bin_fdiv2 (ha : a.iv c = some i) (hi : i.natAbs < 1000000) : BinOk c n .fdiv a (.int 2) (.int (i.fdiv 2)) := fun A g s st x y Q Ex r W R S P => by
  obtain ⟨t, rfl⟩ := R.iv ha
  cases S with
  | int k u => exact floordiv_int (by decide) (P.here W (.int _ _)) (Or.inl (PyProof.noPylong_small (by omega)))
theorem bin_cat {xs ys : List V} (hz : xs.length + ys.length ≤ 1000000) : BinOk c n .add (.list xs) (.list ys) (.list (xs ++ ys)) := fun A g s st x y Q Ex r W R S P => by
  cases R with
  | list e1 m1 r1 =>
    cases S with
    | list e2 m2 r2 =>
      rename_i l ws n1 l2 ws2 n2
      refine concat_meets ⟨_, e1, rfl⟩ ⟨_, e2, rfl⟩ noFill_list_add seq_list_add PySem.F.slot_list_add PySem.F.entry_list_add (PySem.F.args_list_add_2 _ _) (list_addW l l2 ws.toArray ws2.toArray n1 n2 none none #[] #[] ?_) ⟨e1, e2, ?_⟩
      · rw [List.size_toArray, List.size_toArray, r1.length, r2.length]; exact Nat.le_trans hz (by decide)
      · have e : ws.toArray ++ ws2.toArray = (ws ++ ws2).toArray := by simp
        rw [e]
        exact P.new (st' := st) W (RV.newList W (r1.append r2))
theorem cmp_lt (ha : a.iv c = some i) (hb : b.iv c = some j) : CmpOk c n .lt a b (decide (i < j)) := fun A g s st x y Q Ex r W R S P => by
  obtain ⟨t, rfl⟩ := R.iv ha; obtain ⟨u, rfl⟩ := S.iv hb
  exact lt_int (P.here (tk := s.toks) W (.bool _))
theorem cmp_gt (ha : a.iv c = some i) (hb : b.iv c = some j) : CmpOk c n .gt a b (decide (j < i)) := fun A g s st x y Q Ex r W R S P => by
  obtain ⟨t, rfl⟩ := R.iv ha; obtain ⟨u, rfl⟩ := S.iv hb
  exact gt_int (P.here (tk := s.toks) W (.bool _))
theorem cmp_le (ha : a.iv c = some i) (hb : b.iv c = some j) : CmpOk c n .le a b (decide (i ≤ j)) := fun A g s st x y Q Ex r W R S P => by
  obtain ⟨t, rfl⟩ := R.iv ha; obtain ⟨u, rfl⟩ := S.iv hb
  exact le_int (P.here (tk := s.toks) W (.bool _))
theorem cmp_ge (ha : a.iv c = some i) (hb : b.iv c = some j) : CmpOk c n .ge a b (decide (j ≤ i)) := fun A g s st x y Q Ex r W R S P => by
  obtain ⟨t, rfl⟩ := R.iv ha; obtain ⟨u, rfl⟩ := S.iv hb
  exact ge_int (P.here (tk := s.toks) W (.bool _))
theorem cmp_eqi (ha : a.iv c = some i) (hb : b.iv c = some j) : CmpOk c n .eq a b (i == j) := fun A g s st x y Q Ex r W R S P => by
  obtain ⟨t, rfl⟩ := R.iv ha; obtain ⟨u, rfl⟩ := S.iv hb
  exact eq_int (P.here (tk := s.toks) W (.bool _))
theorem cmp_nei (ha : a.iv c = some i) (hb : b.iv c = some j) : CmpOk c n .ne a b (i != j) := fun A g s st x y Q Ex r W R S P => by
  obtain ⟨t, rfl⟩ := R.iv ha; obtain ⟨u, rfl⟩ := S.iv hb
  exact ne_int (P.here (tk := s.toks) W (.bool _))
end

section
variable {c : Cn} {nm : Nm} {n : Nat} {loc : List LV} {st st₁ st₂ st₃ : List Inst}

theorem py_marks (op : COp) (e : E) : behindInMarks op.py e.py = false := by
  cases e <;> rfl
theorem sE_cmp {op : COp} {a b : E} {p : Ps} {x y : V} {v : Bool} (ha : SE c nm n a loc st x st₁) (hb : SE c nm n b loc st₁ y st₂) (ho : CmpOk c n op x y v) : SE c nm n (.cmp op a b p) loc st (.bool v) st₂ := fun A env g s Q Ex r eo W L P => by
  show wpAny _ _ (eval (.Compare a.py [op.py] [b.py] p) env) Q Ex s
  refine wpAny_Compare1 (ha A env g s _ Ex r eo W L fun wa h₁ t₁ g₁ G₁ W₁ R₁ => ?_) (py_marks op b)
  refine hb A env g₁ _ _ Ex r eo W₁ (L.gro W G₁) fun wb h₂ t₂ g₂ G₂ W₂ R₂ => ?_
  exact ho A g₂ _ st₂ wa wb Q Ex r W₂ (R₁.gro W₁ G₂) R₂ (P.trans (G₁.trans G₂))
theorem sC_cmp {op : COp} {a b : E} {p : Ps} {x y : V} {v : Bool} (ha : SE c nm n a loc st x st₁) (hb : SE c nm n b loc st₁ y st₂) (ho : CmpOk c n op x y v) : SC c nm n (.cmp op a b p) loc st v st₂ := fun A env g s Q Ex r eo W L P => by
  show wpAny _ _ (isTrue (.Compare a.py [op.py] [b.py] p) env _) Q Ex s
  refine wpAny_isTrue_Compare1 (ha A env g s _ Ex r eo W L fun wa h₁ t₁ g₁ G₁ W₁ R₁ => ?_) (py_marks op b)
  refine hb A env g₁ _ _ Ex r eo W₁ (L.gro W G₁) fun wb h₂ t₂ g₂ G₂ W₂ R₂ => ?_
  refine ho A g₂ _ st₂ wa wb _ Ex r W₂ (R₁.gro W₁ G₂) R₂ fun val h' tk' g' G' W' R' => ?_
  cases R' with
  | bool b => exact wpAny_truthy_bool (P h' tk' g' ((G₁.trans G₂).trans G') W')

theorem py_sub (e : E) (o i : Value) : subscripted e.py false o i = operate [o, i] (getItem o i) := by
  cases e <;> rfl
theorem sE_idx {a b : E} {p : Ps} {xs : List V} {k : Nat} {y v : V} (ha : SE c nm n a loc st (.list xs) st₁) (hb : SE c nm n b loc st₁ y st₂) (hy : y.iv c = some (k : Int)) (hx : xs[k]? = some v) (hz : xs.length ≤ 1000000) : SE c nm n (.idx a b p) loc st v st₂ := fun A env g s Q Ex r eo W L P => by
  show wpAny _ _ (eval (.Subscript a.py b.py p) env) Q Ex s
  refine Subscript_ (ha A env g s _ Ex r eo W L fun wa h₁ t₁ g₁ G₁ W₁ R₁ => ?_)
  refine hb A env g₁ _ _ Ex r eo W₁ (L.gro W G₁) fun wb h₂ t₂ g₂ G₂ W₂ R₂ => ?_
  obtain ⟨t, rfl⟩ := R₂.iv hy
  have R₁' := R₁.gro W₁ G₂
  cases R₁' with
  | list e m q =>
    obtain ⟨w, hw, R⟩ := q.get hx
    have hk := (List.getElem?_eq_some_iff.mp hx).1
    have hl : Heap.IsList h₂ _ _ := ⟨_, e, rfl, _, rfl⟩
    exact tail_any (s := { s with heap := h₂, toks := t₂ }) hl.typeIs slot_list_getitem.lookup (wpAny_getItem_list hl (by omega) (by omega) (by rw [Int.toNat_natCast, List.getElem?_toArray]; exact hw) (P w h₂ t₂ g₂ (G₁.trans G₂) W₂ R)) (py_sub b _ _)
theorem sE_idxT {a b : E} {p : Ps} {xs : List V} {k : Nat} {y v : V} (ha : SE c nm n a loc st (.tup xs) st₁) (hb : SE c nm n b loc st₁ y st₂) (hy : y.iv c = some (k : Int)) (hx : xs[k]? = some v) (hz : xs.length ≤ 1000000) : SE c nm n (.idx a b p) loc st v st₂ := fun A env g s Q Ex r eo W L P => by
  show wpAny _ _ (eval (.Subscript a.py b.py p) env) Q Ex s
  refine Subscript_ (ha A env g s _ Ex r eo W L fun wa h₁ t₁ g₁ G₁ W₁ R₁ => ?_)
  refine hb A env g₁ _ _ Ex r eo W₁ (L.gro W G₁) fun wb h₂ t₂ g₂ G₂ W₂ R₂ => ?_
  obtain ⟨t, rfl⟩ := R₂.iv hy
  have R₁' := R₁.gro W₁ G₂
  cases R₁' with
  | tup e m q =>
    rename_i ta ws nn
    obtain ⟨w, hw, R⟩ := q.get hx
    have hk := (List.getElem?_eq_some_iff.mp hx).1
    have hl : IsTup h₂ ta ws.toArray := ⟨_, e, rfl, _, rfl⟩
    refine tail_any (s := { s with heap := h₂, toks := t₂ }) hl.typeIs slot_tuple_getitem.lookup (getItem_tuple (s := { s with heap := h₂, toks := t₂ }) (j := k) hl (by omega) (by omega) ?_ (by rw [List.getElem?_toArray]; exact hw) (P w h₂ t₂ g₂ (G₁.trans G₂) W₂ R)) (py_sub b _ _)
    have := q.length
    unfold seqIndex?
    simp only [List.size_toArray]
    rw [this]
    simp
    omega
end
end Mine

namespace Mine
open PySem PySem.W PySem.Calls PyProof.Rows

section
variable {c : Cn} {nm : Nm} {n : Nat} {loc : List LV} {st st₁ st₂ st₃ : List Inst}

theorem sE_neg {i : Int} {q p : Ps} : SE c nm n (.neg i q p) loc st (.int (-i)) st := fun A env g s Q Ex _ _ W _ P => by
  show wpAny _ _ (eval (.UnaryOp .USub (.Constant (.int i) 0 q) p) env) Q Ex s
  exact wpAny_UnaryOp (wpAny_Constant_int (neg_int (P.here W (.int _ _))))

theorem star_py (e : E) (rest : List PySem.Expr) (env : Env) : starEach (e.py :: rest) env = (false, eval e.py env) :: starEach rest env := by
  cases e <;> rfl
theorem sEs_nil : SEs c nm n [] loc st [] st := fun A env g s Q Ex pos _ _ W _ P => by
  exact wpAny_items_nil (P [] s.heap s.toks g (Gro.refl _ _) W .nil)
theorem sEs_cons {e : E} {es : List E} {v : V} {vs : List V} (he : SE c nm n e loc st v st₁) (hs : SEs c nm n es loc st₁ vs st₂) : SEs c nm n (e :: es) loc st (v :: vs) st₂ := fun A env g s Q Ex pos r eo W L P => by
  show wpAny _ _ (spliced (backTo pos (starEach (e.py :: Es.py es) env))) Q Ex s
  refine wpAny_items_cons (he A env g s _ Ex r eo W L fun wa h₁ t₁ g₁ G₁ W₁ R₁ => ?_) (star_py e _ env)
  refine hs A env g₁ _ _ Ex pos r eo W₁ (L.gro W G₁) fun wb h₂ t₂ g₂ G₂ W₂ R₂ => ?_
  exact P _ h₂ t₂ g₂ (G₁.trans G₂) W₂ (.cons (R₁.gro W₁ G₂) R₂)
theorem sE_list {es : List E} {p : Ps} {vs : List V} (hs : SEs c nm n es loc st vs st₁) (hz : vs.length ≤ 1000000) : SE c nm n (.list es p) loc st (.list vs) st₁ := fun A env g s Q Ex r eo W L P => by
  show wpAny _ _ (eval (.List (Es.py es) p) env) Q Ex s
  refine List_ (hs A env g s _ Ex p r eo W L fun ws h₁ t₁ g₁ G₁ W₁ R₁ => ?_)
  refine wpAny_newObj_type ?_ (by show ws.toArray.size ≤ sizeLine; rw [List.size_toArray, R₁.length]; exact Nat.le_trans hz (by decide))
  exact Pst.new (P.trans (tk := t₁) G₁) W₁ (RV.newList W₁ R₁)
theorem sE_tup {es : List E} {k : Nat} {p : Ps} {vs : List V} (hs : SEs c nm n es loc st vs st₁) (hz : vs.length ≤ 1000000) : SE c nm n (.tup es k p) loc st (.tup vs) st₁ := fun A env g s Q Ex r eo W L P => by
  show wpAny _ _ (eval (.Tuple (Es.py es) k p) env) Q Ex s
  refine Tuple_ (hs A env g s _ Ex p r eo W L fun ws h₁ t₁ g₁ G₁ W₁ R₁ => ?_)
  refine wpAny_newObj_type ?_ (by show ws.toArray.size ≤ sizeLine; rw [List.size_toArray, R₁.length]; exact Nat.le_trans hz (by decide))
  exact Pst.new (P.trans (tk := t₁) G₁) W₁ (RV.newTup W₁ R₁)

/-- tests -/
theorem sC_not {x : C} {p : Ps} {b : Bool} (h : SC c nm n x loc st b st₁) : SC c nm n (.not x p) loc st (!b) st₁ := fun A env g s Q Ex r eo W L P => by
  show wpAny _ _ (isTrue (.UnaryOp .Not x.py p) env _) Q Ex s
  exact wpAny_isTrue_Not (h A env g s _ Ex r eo W L fun h₁ t₁ g₁ G₁ W₁ => P h₁ t₁ g₁ G₁ W₁)
def SAnd (c : Cn) (nm : Nm) (n : Nat) (es : List C) (loc : List LV) (st : List Inst) (b : Bool) (st' : List Inst) : Prop :=
  ∀ (A : Around) (env : Env) (g : Gh) (s : Shared) (Q : Bool → Shared → Prop) (Ex : Value → Shared → Prop),
    Room n A → EnvOk nm env → Wd c g st s.heap → Le c env nm.ns g s.heap loc → PstB c g s st' b Q → wpAny c.M A (allTrue .And (Cs.py es) env) Q Ex s
def SOr (c : Cn) (nm : Nm) (n : Nat) (es : List C) (loc : List LV) (st : List Inst) (b : Bool) (st' : List Inst) : Prop :=
  ∀ (A : Around) (env : Env) (g : Gh) (s : Shared) (Q : Bool → Shared → Prop) (Ex : Value → Shared → Prop),
    Room n A → EnvOk nm env → Wd c g st s.heap → Le c env nm.ns g s.heap loc → PstB c g s st' b Q → wpAny c.M A (allTrue .Or (Cs.py es) env) Q Ex s
theorem sAnd_nil : SAnd c nm n [] loc st true st := fun A env g s Q Ex _ _ W _ P => by
  exact wpAny_allTrue_And_nil (P.here (tk := s.toks) W)
theorem sOr_nil : SOr c nm n [] loc st false st := fun A env g s Q Ex _ _ W _ P => by
  exact wpAny_allTrue_Or_nil (P.here (tk := s.toks) W)
theorem sAnd_f {x : C} {xs : List C} (h : SC c nm n x loc st false st₁) : SAnd c nm n (x :: xs) loc st false st₁ := fun A env g s Q Ex r eo W L P => by
  show wpAny _ _ (allTrue .And (x.py :: Cs.py xs) env) Q Ex s
  exact wpAny_allTrue_And_cons (h A env g s _ Ex r eo W L fun h₁ t₁ g₁ G₁ W₁ => P h₁ t₁ g₁ G₁ W₁)
theorem sAnd_t {x : C} {xs : List C} {b : Bool} (h : SC c nm n x loc st true st₁) (hs : SAnd c nm n xs loc st₁ b st₂) : SAnd c nm n (x :: xs) loc st b st₂ := fun A env g s Q Ex r eo W L P => by
  show wpAny _ _ (allTrue .And (x.py :: Cs.py xs) env) Q Ex s
  exact wpAny_allTrue_And_cons (h A env g s _ Ex r eo W L fun h₁ t₁ g₁ G₁ W₁ => hs A env g₁ _ Q Ex r eo W₁ (L.gro W G₁) (P.trans G₁))
theorem sOr_t {x : C} {xs : List C} (h : SC c nm n x loc st true st₁) : SOr c nm n (x :: xs) loc st true st₁ := fun A env g s Q Ex r eo W L P => by
  show wpAny _ _ (allTrue .Or (x.py :: Cs.py xs) env) Q Ex s
  exact wpAny_allTrue_Or_cons (h A env g s _ Ex r eo W L fun h₁ t₁ g₁ G₁ W₁ => P h₁ t₁ g₁ G₁ W₁)
theorem sOr_f {x : C} {xs : List C} {b : Bool} (h : SC c nm n x loc st false st₁) (hs : SOr c nm n xs loc st₁ b st₂) : SOr c nm n (x :: xs) loc st b st₂ := fun A env g s Q Ex r eo W L P => by
  show wpAny _ _ (allTrue .Or (x.py :: Cs.py xs) env) Q Ex s
  exact wpAny_allTrue_Or_cons (h A env g s _ Ex r eo W L fun h₁ t₁ g₁ G₁ W₁ => hs A env g₁ _ Q Ex r eo W₁ (L.gro W G₁) (P.trans G₁))
theorem sC_and {xs : List C} {p : Ps} {b : Bool} (h : SAnd c nm n xs loc st b st₁) : SC c nm n (.and xs p) loc st b st₁ := fun A env g s Q Ex r eo W L P => by
  show wpAny _ _ (isTrue (.BoolOp .And (Cs.py xs) p) env _) Q Ex s
  exact wpAny_isTrue_BoolOp (h A env g s Q Ex r eo W L P)
theorem sC_or {xs : List C} {p : Ps} {b : Bool} (h : SOr c nm n xs loc st b st₁) : SC c nm n (.or xs p) loc st b st₁ := fun A env g s Q Ex r eo W L P => by
  show wpAny _ _ (isTrue (.BoolOp .Or (Cs.py xs) p) env _) Q Ex s
  exact wpAny_isTrue_BoolOp (h A env g s Q Ex r eo W L P)
def E.plain : E → Bool
  | .cmp .. => false
  | .neg .. => false
  | _ => true
theorem py_true (e : E) (env : Env) (whole : Sem Value) (h : e.plain = true) : isTrue e.py env whole = (do let v ← whole; standAt e.py.pos; holding [v] (truthy v)) := by
  cases e <;> first | rfl | cases h
theorem sC_bool {e : E} {b : Bool} (h : SE c nm n e loc st (.bool b) st₁) (hp : e.plain = true) : SC c nm n (.e e) loc st b st₁ := fun A env g s Q Ex r eo W L P => by
  show wpAny _ _ (isTrue e.py env (eval e.py env)) Q Ex s
  refine wpAny_isTrue_value (h A env g s _ Ex r eo W L fun wa h₁ t₁ g₁ G₁ W₁ R₁ => ?_) (py_true e env _ hp)
  cases R₁ with
  | bool b => exact wpAny_truthy_bool (P h₁ t₁ g₁ G₁ W₁)

/-- attributes -/
structure AttrOk (c : Cn) (k : Nat) (x : Str) : Prop where
  get : plainGet c.K (c.cls k) x = true
  dict : hasDictIn c.K (c.cls k) = true
  none : findIn c.K (.ref (c.cls k)) x = some none
theorem Wd.X (W : Wd c g st h) : c.K.In h := c.X.keeps fun b o e => (W.base b o e).1
theorem FR.getL {c : Cn} {g : Gh} {h : Heap} : ∀ {ns : List Str} {es : List DictEntry} {fs : List V}, FR c g h ns es fs → ns.Nodup → ∀ {f : Nat} {x : Str} {v : V}, ns[f]? = some x → fs[f]? = some v → ∃ w, getL x es = some (some w) ∧ RV c g h v w
  | _, _, _, .nil, _, f, x, v, _, hv => by cases hv
  | _, _, _, .cons (n := n) (t := t) (w := w) (es := es) r rs, nd, f, x, v, hx, hv => by
    cases f with
    | zero =>
      cases hx; cases hv
      refine ⟨w, ?_, r⟩
      unfold PySem.W.getL
      rw [List.find?_cons_of_pos (by simp [Value.isStr])]
    | succ f =>
      obtain ⟨w', e, r'⟩ := FR.getL rs (List.nodup_cons.mp nd).2 hx hv
      refine ⟨w', ?_, r'⟩
      have hne : n ≠ x := fun q => (List.nodup_cons.mp nd).1 (by rw [q]; exact List.mem_of_getElem? hx)
      unfold PySem.W.getL at e ⊢
      rw [List.find?_cons_of_neg (by simpa [Value.isStr] using hne)]
      cases q : List.find? (fun x_1 => x_1.key.isStr x) es with
      | some y => rw [q] at e; exact e
      | none => rw [q] at e; dsimp only at e; split at e <;> cases e
def E.nocall : E → Bool
  | .call .. => false
  | _ => true
theorem py_attr (e : E) (x : Str) (p : Ps) (env : Env) (h : e.nocall = true) : eval (.Attribute e.py x p) env = (do
      let o ← eval e.py env
      standAt p.atName
      let r ← holding [o] (getAttr o x true)
      letTemporaryGo e.py o r
      pure r) := by
  cases e <;> first | rfl | cases h
theorem rv_handed {c : Cn} {g : Gh} {h : Heap} {v : V} {w : Value} (R : RV c g h v w) : handedIn w = true := by cases R <;> rfl
theorem inst_get {c : Cn} {g : Gh} {st : List Inst} {s : Shared} {k : Nat} {i : Inst} {a : Addr} {f : Nat} {x : Str} {v : V} {A : Around} {Q : Value → Shared → Prop} {Ex : Value → Shared → Prop}
    (W : Wd c g st s.heap) (hi : st[k]? = some i) (ha : g.ρ[k]? = some a) (ok : AttrOk c i.cls x) (nd : (c.fld i.cls).Nodup) (hx : (c.fld i.cls)[f]? = some x) (hf : i.fs[f]? = some v)
    (h : ∀ w, RV c g s.heap v w → Q w { s with toks := s.toks + 1 }) : wpAny c.M A (getAttr (.ref a) x true) Q Ex s := by
  have hk : k < g.δ.length := by rw [W.lenδ]; exact (List.getElem?_eq_some_iff.mp hi).1
  obtain ⟨e1, es, n, e2, r⟩ := W.inst k i a _ hi ha (List.getElem?_eq_getElem hk)
  obtain ⟨w, hg, R⟩ := r.getL nd hx hf
  exact get_value W.X ⟨e1, rfl, rfl, e2⟩ (plainGet_of ok.get).1 (findObj_own (od := dictOf es n) ok.dict ok.none (by rfl) hg) (rv_handed R) (h w R)
theorem sE_attr {e : E} {k f : Nat} {x : Str} {p : Ps} {i : Inst} {v : V} (he : SE c nm n e loc st (.obj k) st₁) (hi : st₁[k]? = some i) (ok : AttrOk c i.cls x) (nd : (c.fld i.cls).Nodup) (hx : (c.fld i.cls)[f]? = some x) (hf : i.fs[f]? = some v) (hc : e.nocall = true) :
    SE c nm n (.attr e f x p) loc st v st₁ := fun A env g s Q Ex r eo W L P => by
  show wpAny _ _ (eval (.Attribute e.py x p) env) Q Ex s
  refine Attribute_any_ (he A env g s _ Ex r eo W L fun wa h₁ t₁ g₁ G₁ W₁ R₁ => ?_) (py_attr e x p env hc)
  cases R₁ with
  | obj ea => exact inst_get W₁ hi ea ok nd hx hf fun w R => P w h₁ (t₁ + 1) g₁ G₁ W₁ R
end
end Mine

namespace Mine
open PySem PySem.W PySem.Calls PyProof.Rows

/-- a call of the object at a -/
def SCall (c : Cn) (n : Nat) (a : Addr) (vs : List V) (st : List Inst) (v : V) (st' : List Inst) : Prop :=
  ∀ (A : Around) (g : Gh) (s : Shared) (ws : List Value) (Q : Value → Shared → Prop) (Ex : Value → Shared → Prop),
    Room n A → Wd c g st s.heap → RVs c g s.heap vs ws → Pst c g s st' v Q → wpAny c.M A (call (.ref a) ws) Q Ex s
/-- a call of a built-in function or type -/
def SBlt (c : Cn) (n : Nat) (f : Value) (vs : List V) (st : List Inst) (v : V) (st' : List Inst) : Prop :=
  ∀ (A : Around) (g : Gh) (s : Shared) (ws : List Value) (Q : Value → Shared → Prop) (Ex : Value → Shared → Prop),
    Room n A → Wd c g st s.heap → RVs c g s.heap vs ws → Pst c g s st' v Q → wpAny c.M A (call f ws) Q Ex s

structure FnOk (c : Cn) (nm : Nm) (x : Str) (a : Addr) : Prop where
  gl : x ∈ nm.gs
  at_ : nsIn c.K mainGlobals x = some (some (.ref a))
  keep : keepIn c.K (.ref a) = true
  dbg : (x == ("__debug__" : Str)) = false
structure BtOk (c : Cn) (nm : Nm) (x : Str) (f : Value) : Prop where
  gl : x ∈ nm.gs
  at_ : nsIn c.K mainGlobals x = some none
  boot : bootBuiltins x = some f
  nn : x ≠ "__name__"
  dbg : (x == ("__debug__" : Str)) = false

section
variable {c : Cn} {nm : Nm} {n : Nat} {loc : List LV} {st st₁ st₂ st₃ : List Inst}

theorem glob_load {g : Gh} {s : Shared} {env : Env} {A : Around} {x : Str} {p : Ps} {v : Value} {Q : Value → Shared → Prop} {Ex : Value → Shared → Prop} (eo : EnvOk nm env) (W : Wd c g st s.heap) (gl : x ∈ nm.gs) (e : nsIn c.K mainGlobals x = some (some v)) (hd : (x == ("__debug__" : Str)) = false) (h : Q v s) :
    wpAny c.M A (eval (.Name x p) env) Q Ex s := by
  refine Name_function_global eo.kind (eo.gs x gl) (loadGlobal_global (mg := c.mg) ?_ (mg_of c.X c.T.g e) h) hd
  rw [eo.gl]; exact c.T.g.keeps fun b o e => (W.base b o e).1
theorem blt_load {g : Gh} {s : Shared} {env : Env} {A : Around} {x : Str} {p : Ps} {v : Value} {Q : Value → Shared → Prop} {Ex : Value → Shared → Prop} (eo : EnvOk nm env) (W : Wd c g st s.heap) (ok : BtOk c nm x v) (h : Q v s) :
    wpAny c.M A (eval (.Name x p) env) Q Ex s := by
  refine Name_function_global eo.kind (eo.gs x ok.gl) (loadGlobal_builtin (mg := c.mg) (mb := c.mb) ?_ (mg_none_of c.X c.T.g ok.at_) ?_ ((c.T.builtins x ok.nn).trans ok.boot) h) ok.dbg
  · rw [eo.gl]; exact c.T.g.keeps fun b o e => (W.base b o e).1
  · rw [eo.bl]; exact c.T.b.keeps fun b o e => (W.base b o e).1

theorem plain_args (es : List E) (pos : Ps) (env : Env) : (backTo pos (starEach (Es.py es) env)).any (·.1) = false := by
  induction es with
  | nil => rfl
  | cons e es ih =>
    show (backTo pos (starEach (e.py :: Es.py es) env)).any (·.1) = false
    rw [star_py]
    show (false || (backTo pos (starEach (Es.py es) env)).any (·.1)) = false
    rw [ih]; rfl
theorem args_eval {A : Around} {env : Env} {s : Shared} {f : Value} {es : List E} {pos : Ps} {Q : Args → Shared → Prop} {Ex : Value → Shared → Prop}
    (h : wpAny c.M A (spliced (backTo pos (starEach (Es.py es) env))) (fun vs s' => Q ⟨vs, []⟩ s') Ex s) : wpAny c.M A (evalArgs f true (backTo pos (starEach (Es.py es) env)) []) Q Ex s := by
  cases es with
  | nil =>
    unfold evalArgs
    show wpAny _ _ (spliced [] >>= _) Q Ex s
    refine wpAny_bind (wpAny_mono h (fun vs s' h' => ?_) fun _ _ x => x)
    refine wpAny_holding ?_
    exact wpAny_bind (wpAny_pure (wpAny_bind (wpAny_pure (wpAny_pure h'))))
  | cons e es =>
    have he : backTo pos (starEach (Es.py (e :: es)) env) = (false, eval e.py env) :: backTo pos (starEach (Es.py es) env) := by
      show backTo pos (starEach (e.py :: Es.py es) env) = _
      rw [star_py]; rfl
    rw [he] at h ⊢
    exact evalArgs_plain h

theorem sE_call {k : Nat} {x : Str} {q p : Ps} {es : List E} {a : Addr} {vs : List V} {v : V} (ok : FnOk c nm x a) (hs : SEs c nm n es loc st vs st₁) (hc : SCall c n a vs st₁ v st₂) : SE c nm n (.call (.fn k) x q es p) loc st v st₂ := fun A env g s Q Ex r eo W L P => by
  show wpAny _ _ (eval (.Call (.Name x q) (Es.py es) [] p) env) Q Ex s
  refine Call_Name rfl (glob_load eo W ok.gl ok.at_ ok.dbg ?_)
  refine callWith_of (P := c.K.In) (by rw [plain_args]; rfl) (keeps_K ok.keep) (args_eval (hs A env g s _ Ex p r eo W L fun ws h₁ t₁ g₁ G₁ W₁ R₁ => ?_))
  exact ⟨W₁.X, hc A g₁ _ ws Q Ex r W₁ R₁ (P.trans G₁)⟩
theorem sE_new {k : Nat} {x : Str} {q p : Ps} {es : List E} {a : Addr} {vs : List V} {v : V} (ok : FnOk c nm x a) (hs : SEs c nm n es loc st vs st₁) (hc : SCall c n a vs st₁ v st₂) : SE c nm n (.call (.cls k) x q es p) loc st v st₂ := fun A env g s Q Ex r eo W L P => by
  show wpAny _ _ (eval (.Call (.Name x q) (Es.py es) [] p) env) Q Ex s
  refine Call_Name rfl (glob_load eo W ok.gl ok.at_ ok.dbg ?_)
  refine callWith_of (P := c.K.In) (by rw [plain_args]; rfl) (keeps_K ok.keep) (args_eval (hs A env g s _ Ex p r eo W L fun ws h₁ t₁ g₁ G₁ W₁ R₁ => ?_))
  exact ⟨W₁.X, hc A g₁ _ ws Q Ex r W₁ R₁ (P.trans G₁)⟩
theorem sE_bltF {f : Cal} {x : Str} {q p : Ps} {es : List E} {id : String} {vs : List V} {v : V} (ok : BtOk c nm x (.builtin id)) (hs : SEs c nm n es loc st vs st₁) (hc : SBlt c n (.builtin id) vs st₁ v st₂) : SE c nm n (.call f x q es p) loc st v st₂ := fun A env g s Q Ex r eo W L P => by
  show wpAny _ _ (eval (.Call (.Name x q) (Es.py es) [] p) env) Q Ex s
  refine Call_Name rfl (blt_load eo W ok ?_)
  refine callWith_builtin (plain_args ..) (args_eval (hs A env g s _ Ex p r eo W L fun ws h₁ t₁ g₁ G₁ W₁ R₁ => ?_))
  exact hc A g₁ _ ws Q Ex r W₁ R₁ (P.trans G₁)
theorem sE_bltT {f : Cal} {x : Str} {q p : Ps} {es : List E} {T : String} {vs : List V} {v : V} (ok : BtOk c nm x (.type T)) (hs : SEs c nm n es loc st vs st₁) (hc : SBlt c n (.type T) vs st₁ v st₂) : SE c nm n (.call f x q es p) loc st v st₂ := fun A env g s Q Ex r eo W L P => by
  show wpAny _ _ (eval (.Call (.Name x q) (Es.py es) [] p) env) Q Ex s
  refine Call_Name rfl (blt_load eo W ok ?_)
  refine PyProof.Rows.callWith_type (plain_args ..) (args_eval (hs A env g s _ Ex p r eo W L fun ws h₁ t₁ g₁ G₁ W₁ R₁ => ?_))
  exact hc A g₁ _ ws Q Ex r W₁ R₁ (P.trans G₁)

theorem blt_len {xs : List V} (hz : xs.length ≤ 1000000) : SBlt c n (.builtin "len") [.list xs] st (.int xs.length) st := fun A g s ws Q Ex r W R P => by
  cases R with
  | cons R1 R0 =>
    cases R0
    cases R1 with
    | list e m q =>
      rename_i l ws nn
      have hl : s.heap.IsList l ws.toArray := ⟨_, e, rfl, _, rfl⟩
      refine len_list hl (by rw [List.size_toArray, q.length]; omega) ?_
      rw [List.size_toArray, q.length]
      exact P.here W (.int _ _)
theorem blt_lenT {xs : List V} (hz : xs.length ≤ 1000000) : SBlt c n (.builtin "len") [.tup xs] st (.int xs.length) st := fun A g s ws Q Ex r W R P => by
  cases R with
  | cons R1 R0 =>
    cases R0
    cases R1 with
    | tup e m q =>
      rename_i l ws nn
      have hl : IsTup s.heap l ws.toArray := ⟨_, e, rfl, _, rfl⟩
      refine PyProof.Rows.len_tuple hl (by rw [List.size_toArray, q.length]; omega) ?_
      rw [List.size_toArray, q.length]
      exact P.here W (.int _ _)
/-- an owned list's length -/
theorem sE_lenO {x y : Str} {q p p' : Ps} {i : Nat} {xs : List V} (ok : BtOk c nm x (.builtin "len")) (hx : nm.ns[i]? = some y) (hl : loc[i]? = some (.own xs)) (hd : (y == ("__debug__" : Str)) = false) (hz : xs.length ≤ 1000000) : SE c nm n (.call .len x q [.loc i y p'] p) loc st (.int xs.length) st := fun A env g s Q Ex r eo W L P => by
  show wpAny _ _ (eval (.Call (.Name x q) [.Name y p'] [] p) env) Q Ex s
  cases L i y _ hx hl with
  | own R e m d rs =>
    rename_i ws a nn
    refine Call_Name1 (blt_load eo W ok ?_)
    refine callWith_builtin rfl (evalArgs_plain (spliced_cons (wpAny_Name (reach_load eo R (spliced_nil ?_)) hd)))
    have hl : s.heap.IsList a ws.toArray := ⟨_, e, rfl, _, rfl⟩
    refine len_list hl (by rw [List.size_toArray, rs.length]; omega) ?_
    rw [List.size_toArray, rs.length]
    exact P.here W (.int _ _)
theorem sE_idxO {y : Str} {b : E} {p p' : Ps} {i k : Nat} {xs : List V} {v z : V} (hx : nm.ns[i]? = some y) (hl : loc[i]? = some (.own xs)) (hd : (y == ("__debug__" : Str)) = false) (hb : SE c nm n b loc st z st₁) (hy : z.iv c = some (k : Int)) (hv : xs[k]? = some v) (hz : xs.length ≤ 1000000) :
    SE c nm n (.idx (.loc i y p') b p) loc st v st₁ := fun A env g s Q Ex r eo W L P => by
  show wpAny _ _ (eval (.Subscript (.Name y p') b.py p) env) Q Ex s
  cases L i y _ hx hl with
  | own R e m d rs =>
    rename_i ws a nn
    refine Subscript_ (wpAny_Name (reach_load eo R ?_) hd)
    refine hb A env g s _ Ex r eo W L fun wb h₂ t₂ g₂ G₂ W₂ R₂ => ?_
    obtain ⟨t, rfl⟩ := R₂.iv hy
    obtain ⟨w, hw, R'⟩ := rs.get hv
    have hk := (List.getElem?_eq_some_iff.mp hv).1
    have hl : Heap.IsList h₂ a ws.toArray := ⟨_, G₂.keep _ _ e d, rfl, _, rfl⟩
    exact tail_any (s := { s with heap := h₂, toks := t₂ }) hl.typeIs slot_list_getitem.lookup (wpAny_getItem_list hl (by omega) (by omega) (by rw [Int.toNat_natCast, List.getElem?_toArray]; exact hw) (P w h₂ t₂ g₂ G₂ W₂ (R'.gro W G₂))) (py_sub b _ _)
end
end Mine

namespace Mine
open PySem PySem.W PySem.Calls PyProof.Rows

section
variable {c : Cn} {g g₀ : Gh} {h h' h₀ : Heap} {st : List Inst} {a : Addr}
theorem imm_ext (m : g.M a) (S : Heap.ExtBut a h h') : ∀ b o, h.get? b = some o → ¬ g.M b → h'.get? b = some o ∧ ¬ g.M b :=
  fun b o e k => ⟨S b o (fun q => k (q ▸ m)) e, k⟩
theorem Wd.ext (W : Wd c g st h) (m : g.M a) (d : a ∉ g.δ) (S : Heap.ExtBut a h h') (da : ∃ o, h'.get? a = some o) : Wd c g st h' := by
  refine ⟨W.lenρ, W.lenδ, fun k i x dx h1 h2 h3 => ?_, W.ndδ, W.ndρ, W.Mδ, W.Mρ, fun b q => ?_, fun b o e => ?_⟩
  · obtain ⟨e1, es, n, e2, r⟩ := W.inst k i x dx h1 h2 h3
    have hx : x ≠ a := fun q => W.Mρ x (List.mem_of_getElem? h2) (q ▸ m)
    have hd : dx ≠ a := fun q => d (q ▸ List.mem_of_getElem? h3)
    exact ⟨S x _ hx e1, es, n, S dx _ hd e2, r.mono (List.prefix_refl _) (imm_ext m S)⟩
  · by_cases hb : b = a
    · subst hb; exact da
    · obtain ⟨o, e⟩ := W.Mdom b q; exact ⟨o, S b o hb e⟩
  · obtain ⟨e1, e2⟩ := W.base b o e
    exact ⟨S b o (fun q => e2 (q ▸ m)) e1, e2⟩
theorem RV.ext {v : V} {w : Value} (R : RV c g h v w) (m : g.M a) (S : Heap.ExtBut a h h') : RV c g h' v w := R.mono (List.prefix_refl _) (imm_ext m S)
theorem DObj.ext {o : Obj} {f : Int → Option V} {n : Nat} (R : DObj c g h o f n) (m : g.M a) (S : Heap.ExtBut a h h') : DObj c g h' o f n := R.mono (List.prefix_refl _) (imm_ext m S)
theorem RVs.ext {v : List V} {w : List Value} (R : RVs c g h v w) (m : g.M a) (S : Heap.ExtBut a h h') : RVs c g h' v w := R.mono (List.prefix_refl _) (imm_ext m S)
theorem Gro.ext (G : Gro g₀ h₀ g h) (n : h₀.get? a = none) (S : Heap.ExtBut a h h') : Gro g₀ h₀ g h' := by
  have ne : ∀ b o, h₀.get? b = some o → b ≠ a := fun b o e q => by rw [q, n] at e; cases e
  refine ⟨G.ρ, G.δ, fun b o e k => S b o (ne b o e) (G.keep b o e k), fun b o e => ?_, G.M, G.new⟩
  obtain ⟨o', e'⟩ := G.dom b o e
  exact ⟨o', S b o' (ne b o e) e'⟩
end

theorem ns_fun {h : Heap} {a : Addr} {m m' : Str → Option Value} (x : h.Ns a m) (y : h.Ns a m') : m = m' := by
  obtain ⟨o, es, ep, ho, hd, _, f⟩ := x
  obtain ⟨o', es', ep', ho', hd', _, f'⟩ := y
  rw [ho] at ho'; cases ho'
  rw [hd] at hd'; cases hd'
  funext z
  rw [← f, ← f']
theorem ns_ne_list {h : Heap} {a b : Addr} {m : Str → Option Value} {o : Obj} {xs : Array Value} {n : Nat} (x : h.Ns a m) (e : h.get? b = some o) (d : o.data = .seq xs n) : a ≠ b := by
  rintro rfl
  obtain ⟨o', es, ep, ho, hd, _⟩ := x
  rw [e] at ho; cases ho; rw [d] at hd; cases hd
theorem ns_ne_cell {h : Heap} {a b : Addr} {m : Str → Option Value} {v : Option Value} (x : h.Ns a m) (e : h.IsCell b v) : a ≠ b := by
  rintro rfl
  obtain ⟨o', es, ep, ho, hd, _⟩ := x
  obtain ⟨o, e, d⟩ := e
  rw [e] at ho; cases ho; rw [d] at hd; cases hd
theorem cell_ne_list {h : Heap} {a b : Addr} {o : Obj} {xs : Array Value} {n : Nat} {v : Option Value} (x : h.IsCell a v) (e : h.get? b = some o) (d : o.data = .seq xs n) : a ≠ b := by
  rintro rfl
  obtain ⟨o', ho, hd⟩ := x
  rw [e] at ho; cases ho; rw [d] at hd; cases hd

inductive SlotF (c : Cn) (g : Gh) (env : Env) (h₀ h : Heap) (x : Str) (a : Addr) : LV → Prop where
  | unset : SlotF c g env h₀ h x a .unset
  | v {y : V} {w : Value} : Reach g env h x w → RV c g h y w → SlotF c g env h₀ h x a (.v y)
  | own {xs : List V} {ws : List Value} {n : Nat} : Reach g env h x (.ref a) → h.get? a = some { cls := .type "list", data := .seq ws.toArray n } → g.M a → a ∉ g.δ → h₀.get? a = none → RVs c g h xs ws → SlotF c g env h₀ h x a (.own xs)
  | dct {f : Int → Option V} {n : Nat} {o : Obj} : Reach g env h x (.ref a) → h.get? a = some o → g.M a → a ∉ g.δ → h₀.get? a = none → a ≠ sysModules → a ≠ env.locals → DObj c g h o f n → SlotF c g env h₀ h x a (.dct f n)
def isOwn : LV → Bool
  | .own _ => true
  | .dct .. => true
  | _ => false
structure Fs (c : Cn) (nm : Nm) (env : Env) (h₀ : Heap) (oa : Nat → Addr) (g : Gh) (h : Heap) (loc : List LV) : Prop where
  eo : EnvOk nm env
  nd : nm.ns.Nodup
  len : loc.length = nm.ns.length
  slots : ∀ (i : Nat) (x : Str) (lv : LV), nm.ns[i]? = some x → loc[i]? = some lv → SlotF c g env h₀ h x (oa i) lv
  ns : ∃ m, h.Ns env.locals m
  LM : g.M env.locals
  Lδ : env.locals ∉ g.δ
  L0 : h₀.get? env.locals = none
  kinds : ∀ x ∈ nm.ns, env.kindOf x = some .local ∨ (env.kindOf x = some .cell ∧ ∃ a v, env.cells.lookup x = some a ∧ h.IsCell a v ∧ g.M a ∧ a ∉ g.δ ∧ h₀.get? a = none)
  cinj : ∀ (x y : Str) (a : Addr), x ∈ nm.ns → y ∈ nm.ns → env.cells.lookup x = some a → env.cells.lookup y = some a → x = y
  oinj : ∀ (i j : Nat) (x y : LV), loc[i]? = some x → loc[j]? = some y → isOwn x = true → isOwn y = true → oa i = oa j → i = j

section
variable {c : Cn} {nm : Nm} {env : Env} {h₀ : Heap} {oa : Nat → Addr} {g g' : Gh} {h h' : Heap} {loc : List LV} {st : List Inst}
theorem Fs.le (F : Fs c nm env h₀ oa g h loc) : Le c env nm.ns g h loc := fun i x lv hx hl => by
  cases F.slots i x lv hx hl with
  | unset => exact .unset
  | v r y => exact .v r y
  | own r e m d _ y => exact .own r e m d y
  | dct r e m d _ z _ y => exact .dct r e m d z y
theorem Fs.gro (F : Fs c nm env h₀ oa g h loc) (W : Wd c g st h) (G : Gro g h g' h') : Fs c nm env h₀ oa g' h' loc := by
  obtain ⟨m, hm⟩ := F.ns
  obtain ⟨oL, es, ep, hL, r⟩ := id hm
  refine ⟨F.eo, F.nd, F.len, fun i x lv hx hl => ?_, ⟨m, ns_at hm fun o ho => G.keep _ _ ho F.Lδ⟩, (G.M _ _ hL).mpr F.LM, fun q => F.Lδ (G.new _ _ hL q), F.L0, fun x hx => ?_, F.cinj, F.oinj⟩
  · cases F.slots i x lv hx hl with
    | unset => exact .unset
    | v r y => exact .v (r.gro G) (y.gro W G)
    | own r e m d n y => exact .own (r.gro G) (G.keep _ _ e d) ((G.M _ _ e).mpr m) (fun q => d (G.new _ _ e q)) n (y.gro W G)
    | dct r e m d n z l y => exact .dct (r.gro G) (G.keep _ _ e d) ((G.M _ _ e).mpr m) (fun q => d (G.new _ _ e q)) n z l (y.mono G.ρ (W.imm G))
  · rcases F.kinds x hx with k | ⟨k, a, v, l, ce, m, d, n⟩
    · exact .inl k
    · obtain ⟨oc, hc, hd⟩ := id ce
      exact .inr ⟨k, a, v, l, cell_at ce fun o ho => G.keep _ _ ho d, (G.M _ _ hc).mpr m, fun q => d (G.new _ _ hc q), n⟩
theorem nd_ne {l : List Str} (nd : l.Nodup) {i j : Nat} {x y : Str} (hx : l[i]? = some x) (hy : l[j]? = some y) (h : j ≠ i) : y ≠ x := by
  rintro rfl
  obtain ⟨h1, e1⟩ := List.getElem?_eq_some_iff.mp hx
  obtain ⟨h2, e2⟩ := List.getElem?_eq_some_iff.mp hy
  exact h ((List.getElem_inj nd).mp (e2.trans e1.symm))

/-- storing a value into a slot -/
theorem Fs.store {s : Shared} {A : Around} {i : Nat} {x : Str} {y : V} {w : Value} {g₀ : Gh} {Q : Unit → Shared → Prop} {Ex : Value → Shared → Prop} (F : Fs c nm env h₀ oa g s.heap loc) (W : Wd c g st s.heap) (G : Gro g₀ h₀ g s.heap)
    (hx : nm.ns[i]? = some x) (R : RV c g s.heap y w)
    (h : ∀ h' tk', Gro g₀ h₀ g h' → Wd c g st h' → Fs c nm env h₀ oa g h' (loc.set i (.v y)) → Q () { s with heap := h', toks := tk' }) : wpAny c.M A (storeName env x w) Q Ex s := by
  have hi : i < loc.length := by rw [F.len]; exact (List.getElem?_eq_some_iff.mp hx).1
  obtain ⟨m, hm⟩ := F.ns
  have own' : ∀ (j k : Nat) (x y' : LV), (loc.set i (.v y))[j]? = some x → (loc.set i (.v y))[k]? = some y' → isOwn x = true → isOwn y' = true → oa j = oa k → j = k := by
    intro j k x' y' h1 h2 o1 o2 e
    by_cases hj : j = i
    · subst hj; rw [List.getElem?_set_self hi] at h1; cases h1; cases o1
    · by_cases hk : k = i
      · subst hk; rw [List.getElem?_set_self hi] at h2; cases h2; cases o2
      · rw [List.getElem?_set_ne (Ne.symm hj)] at h1; rw [List.getElem?_set_ne (Ne.symm hk)] at h2
        exact F.oinj j k x' y' h1 h2 o1 o2 e
  rcases F.kinds x (List.mem_of_getElem? hx) with k | ⟨k, a, v, l, ce, Ma, da, na⟩
  · refine wpAny_storeName_local k hm (fun h' hn S => h h' _ (G.ext F.L0 S.extBut) (W.ext F.LM F.Lδ S.extBut (let ⟨o, _, _, e, _⟩ := hn; ⟨o, e⟩)) ?_) (by rw [F.eo.kind]; rfl)
    refine ⟨F.eo, F.nd, by rw [List.length_set]; exact F.len, fun j z lv hz hl => ?_, ⟨_, hn⟩, F.LM, F.Lδ, F.L0, fun z hz => ?_, F.cinj, own'⟩
    · by_cases hj : j = i
      · subst hj
        rw [hx] at hz; cases hz
        rw [List.getElem?_set_self hi] at hl; cases hl
        exact .v (.loc _ k hn F.Lδ (by simp)) (R.ext F.LM S.extBut)
      · rw [List.getElem?_set_ne (Ne.symm hj)] at hl
        have hne := nd_ne F.nd hx hz hj
        have reach : ∀ u, Reach g env s.heap z u → Reach g env h' z u := fun u r => by
          cases r with
          | loc m2 k2 n2 d2 e2 =>
            rw [ns_fun n2 hm] at e2
            exact .loc _ k2 hn F.Lδ (by simp [hne, e2])
          | cell a k2 l2 d2 e2 => exact .cell a k2 l2 d2 (cell_at e2 fun o ho => (S.2 _ (Ne.symm (ns_ne_cell hm e2))).trans ho)
        cases F.slots j z lv hz hl with
        | unset => exact .unset
        | v r q => exact .v (reach _ r) (q.ext F.LM S.extBut)
        | own r e m' d n q => exact .own (reach _ r) ((S.2 _ (Ne.symm (ns_ne_list hm e rfl))).trans e) m' d n (q.ext F.LM S.extBut)
        | dct r e m' d n z l q => exact .dct (reach _ r) ((S.2 _ l).trans e) m' d n z l (q.ext F.LM S.extBut)
    · rcases F.kinds z hz with k2 | ⟨k2, a, v, l, ce, Ma, da, na⟩
      · exact .inl k2
      · exact .inr ⟨k2, a, v, l, cell_at ce fun o ho => (S.2 _ (Ne.symm (ns_ne_cell hm ce))).trans ho, Ma, da, na⟩
  · refine wpAny_storeName_cell F.eo.kind k l ce fun h' hn S => h h' s.toks (G.ext na S.extBut) (W.ext Ma da S.extBut (let ⟨o, e, _⟩ := hn; ⟨o, e⟩)) ?_
    refine ⟨F.eo, F.nd, by rw [List.length_set]; exact F.len, fun j z lv hz hl => ?_, ⟨m, ns_at hm fun o ho => (S.2 _ (ns_ne_cell hm ce)).trans ho⟩, F.LM, F.Lδ, F.L0, fun z hz => ?_, F.cinj, own'⟩
    · by_cases hj : j = i
      · subst hj
        rw [hx] at hz; cases hz
        rw [List.getElem?_set_self hi] at hl; cases hl
        exact .v (.cell a k l da hn) (R.ext Ma S.extBut)
      · rw [List.getElem?_set_ne (Ne.symm hj)] at hl
        have hne := nd_ne F.nd hx hz hj
        have reach : ∀ u, Reach g env s.heap z u → Reach g env h' z u := fun u r => by
          cases r with
          | loc m2 k2 n2 d2 e2 => exact .loc m2 k2 (ns_at n2 fun o ho => (S.2 _ (ns_ne_cell n2 ce)).trans ho) d2 e2
          | cell b k2 l2 d2 e2 =>
            have hb : b ≠ a := fun q => hne (F.cinj z x a (List.mem_of_getElem? hz) (List.mem_of_getElem? hx) (q ▸ l2) l)
            exact .cell b k2 l2 d2 (cell_at e2 fun o ho => (S.2 _ hb).trans ho)
        cases F.slots j z lv hz hl with
        | unset => exact .unset
        | v r q => exact .v (reach _ r) (q.ext Ma S.extBut)
        | own r e m' d n q => exact .own (reach _ r) ((S.2 _ (Ne.symm (cell_ne_list ce e rfl))).trans e) m' d n (q.ext Ma S.extBut)
        | dct r e m' d n z l q => exact .dct (reach _ r) ((S.2 _ (q.neC e ce)).trans e) m' d n z l (q.ext Ma S.extBut)
    · rcases F.kinds z hz with k2 | ⟨k2, b, v2, l2, ce2, Mb, db, nb⟩
      · exact .inl k2
      · by_cases hb : b = a
        · subst hb
          exact .inr ⟨k2, b, _, l2, hn, Mb, db, nb⟩
        · exact .inr ⟨k2, b, v2, l2, cell_at ce2 fun o ho => (S.2 _ hb).trans ho, Mb, db, nb⟩
end
end Mine

namespace Mine
open PySem PySem.W PySem.Calls PyProof.Rows

inductive Fl where
  | next
  | ret (v : V)
inductive FlowR (c : Cn) (g : Gh) (h : Heap) : Fl → Flow → Prop where
  | next : FlowR c g h .next .next
  | ret {v : V} {w : Value} : RV c g h v w → FlowR c g h (.ret v) (.ret w)
def PstS (c : Cn) (nm : Nm) (env : Env) (g₀ : Gh) (h₀ : Heap) (s : Shared) (fl : Fl) (loc' : List LV) (st' : List Inst) (Q : Flow → Shared → Prop) : Prop :=
  ∀ f h' tk' g' oa', Gro g₀ h₀ g' h' → Wd c g' st' h' → Fs c nm env h₀ oa' g' h' loc' → FlowR c g' h' fl f → Q f { s with heap := h', toks := tk' }
/-- one statement -/
def SX (c : Cn) (nm : Nm) (n : Nat) (t : PySem.Stmt) (loc : List LV) (st : List Inst) (fl : Fl) (loc' : List LV) (st' : List Inst) : Prop :=
  ∀ (A : Around) (env : Env) (g₀ : Gh) (h₀ : Heap) (oa : Nat → Addr) (g : Gh) (s : Shared) (Q : Flow → Shared → Prop) (Ex : Value → Shared → Prop),
    Room n A → Gro g₀ h₀ g s.heap → Wd c g st s.heap → Fs c nm env h₀ oa g s.heap loc → PstS c nm env g₀ h₀ s fl loc' st' Q → wpAny c.M A (exec t env) Q Ex s
/-- a row of statements -/
def SS (c : Cn) (nm : Nm) (n : Nat) (ts : List S) (loc : List LV) (st : List Inst) (fl : Fl) (loc' : List LV) (st' : List Inst) : Prop :=
  ∀ (A : Around) (env : Env) (g₀ : Gh) (h₀ : Heap) (oa : Nat → Addr) (g : Gh) (s : Shared) (Q : Flow → Shared → Prop) (Ex : Value → Shared → Prop),
    Room n A → Gro g₀ h₀ g s.heap → Wd c g st s.heap → Fs c nm env h₀ oa g s.heap loc → PstS c nm env g₀ h₀ s fl loc' st' Q → wpAny c.M A (execs (Ss.py ts) env) Q Ex s

section
variable {c : Cn} {nm : Nm} {n : Nat} {loc loc₁ loc₂ : List LV} {st st₁ st₂ st₃ : List Inst} {fl : Fl}

theorem ss_nil : SS c nm n [] loc st .next loc st := fun A env g₀ h₀ oa g s Q Ex r G W F P => by
  exact wpAny_execs_nil (P .next s.heap s.toks g oa G W F .next)
theorem ss_cons {x : S} {xs : List S} {t : PySem.Stmt} (hx : x.py = [t]) (h1 : SX c nm n t loc st .next loc₁ st₁) (h2 : SS c nm n xs loc₁ st₁ fl loc₂ st₂) : SS c nm n (x :: xs) loc st fl loc₂ st₂ := fun A env g₀ h₀ oa g s Q Ex r G W F P => by
  show wpAny _ _ (execs (x.py ++ Ss.py xs) env) Q Ex s
  rw [hx]
  refine wpAny_execs_cons (h1 A env g₀ h₀ oa g s _ Ex r G W F fun f h' tk' g' oa' G' W' F' fr => ?_)
  cases fr with
  | next => exact h2 A env g₀ h₀ oa' g' _ Q Ex r G' W' F' fun f h'' tk'' g'' oa'' G'' W'' F'' fr'' => P f h'' tk'' g'' oa'' G'' W'' F'' fr''
theorem ss_ret {x : S} {xs : List S} {t : PySem.Stmt} {v : V} (hx : x.py = [t]) (h1 : SX c nm n t loc st (.ret v) loc₁ st₁) : SS c nm n (x :: xs) loc st (.ret v) loc₁ st₁ := fun A env g₀ h₀ oa g s Q Ex r G W F P => by
  show wpAny _ _ (execs (x.py ++ Ss.py xs) env) Q Ex s
  rw [hx]
  refine wpAny_execs_cons (h1 A env g₀ h₀ oa g s _ Ex r G W F fun f h' tk' g' oa' G' W' F' fr => ?_)
  cases fr with
  | ret R => exact P _ h' tk' g' oa' G' W' F' (.ret R)

def E.nocomp : E → Bool
  | .comp .. => false
  | _ => true
theorem py_swaps (e : E) (t : Option PySem.Expr) (line : Nat) (env : Env) (h : e.nocomp = true) : swapsWith e.py t line env = pure false := by
  cases e <;> first | rfl | cases h
theorem sx_assign {i : Nat} {x : Str} {q p : Ps} {e : E} {v : V} (hx : nm.ns[i]? = some x) (he : SE c nm n e loc st v st₁) (hc : e.nocomp = true) : SX c nm n (.Assign [.Name x q] e.py p) loc st .next (loc.set i (.v v)) st₁ := fun A env g₀ h₀ oa g s Q Ex r G W F P => by
  refine wpAny_Assign_Name (he A env g s _ Ex r F.eo W F.le fun w h₁ t₁ g₁ G₁ W₁ R₁ => ?_) (py_swaps e _ _ env hc)
  exact (F.gro W G₁).store (s := { s with heap := h₁, toks := t₁ }) W₁ (G.trans G₁) hx R₁ fun h' tk' G' W' F' => P .next h' tk' g₁ oa G' W' F' .next
theorem sx_ret {e : E} {p : Ps} {v : V} (he : SE c nm n e loc st v st₁) : SX c nm n (.Return (some e.py) p) loc st (.ret v) loc st₁ := fun A env g₀ h₀ oa g s Q Ex r G W F P => by
  exact wpAny_Return_some (he A env g s _ Ex r F.eo W F.le fun w h₁ t₁ g₁ G₁ W₁ R₁ => P _ h₁ t₁ g₁ oa (G.trans G₁) W₁ (F.gro W G₁) (.ret R₁))
theorem fs_inter {env : Env} {h₀ h : Heap} {oa : Nat → Addr} {g : Gh} (F : Fs c nm env h₀ oa g h loc) : interactive env = false := by
  unfold interactive; rw [F.eo.kind]; rfl
theorem sx_expr {e : E} {p : Ps} {v : V} (he : SE c nm n e loc st v st₁) (hc : e.nocomp = true) : SX c nm n (.Expr e.py p) loc st .next loc st₁ := fun A env g₀ h₀ oa g s Q Ex r G W F P => by
  exact wpAny_Expr_any (he A env g s _ Ex r F.eo W F.le fun w h₁ t₁ g₁ G₁ W₁ R₁ => P _ h₁ t₁ g₁ oa (G.trans G₁) W₁ (F.gro W G₁) .next) (fs_inter F) (py_swaps e _ _ env hc)
theorem sx_if_t {x : C} {a b : List S} {p : Ps} (hc : SC c nm n x loc st true st₁) (ha : SS c nm n a loc st₁ fl loc₂ st₂) : SX c nm n (.If x.py (Ss.py a) (Ss.py b) p) loc st fl loc₂ st₂ := fun A env g₀ h₀ oa g s Q Ex r G W F P => by
  refine wpAny_If (hc A env g s _ Ex r F.eo W F.le fun h₁ t₁ g₁ G₁ W₁ => ?_)
  exact ha A env g₀ h₀ oa g₁ _ Q Ex r (G.trans G₁) W₁ (F.gro W G₁) P
theorem sx_if_f {x : C} {a b : List S} {p : Ps} (hc : SC c nm n x loc st false st₁) (hb : SS c nm n b loc st₁ fl loc₂ st₂) : SX c nm n (.If x.py (Ss.py a) (Ss.py b) p) loc st fl loc₂ st₂ := fun A env g₀ h₀ oa g s Q Ex r G W F P => by
  refine wpAny_If (hc A env g s _ Ex r F.eo W F.le fun h₁ t₁ g₁ G₁ W₁ => ?_)
  exact hb A env g₀ h₀ oa g₁ _ Q Ex r (G.trans G₁) W₁ (F.gro W G₁) P

/-- while -/
inductive WEv (c : Cn) (nm : Nm) (n : Nat) (x : C) (body : List S) : Nat → List LV → List Inst → Fl → List LV → List Inst → Prop where
  | stop {k : Nat} {loc : List LV} {st st₁ : List Inst} : SC c nm n x loc st false st₁ → WEv c nm n x body k loc st .next loc st₁
  | turn {k : Nat} {loc loc₁ loc₂ : List LV} {st st₁ st₂ st₃ : List Inst} {fl : Fl} : SC c nm n x loc st true st₁ → SS c nm n body loc st₁ .next loc₁ st₂ → WEv c nm n x body k loc₁ st₂ fl loc₂ st₃ → WEv c nm n x body (k + 1) loc st fl loc₂ st₃
  | ret {k : Nat} {loc loc₁ : List LV} {st st₁ st₂ : List Inst} {v : V} : SC c nm n x loc st true st₁ → SS c nm n body loc st₁ (.ret v) loc₁ st₂ → WEv c nm n x body k loc st (.ret v) loc₁ st₂
theorem sx_while {x : C} {body : List S} {p : Ps} {k : Nat} (h : WEv c nm n x body k loc st fl loc₂ st₂) : SX c nm n (.While x.py (Ss.py body) [] p) loc st fl loc₂ st₂ := fun A env g₀ h₀ oa g s Q Ex r G W F P => by
  refine wpAny_While ?_
  refine codeAny_whileLoop (fun k s' => ∃ loc st h' tk' g' oa', s' = { s with heap := h', toks := tk' } ∧ WEv c nm n x body k loc st fl loc₂ st₂ ∧ Gro g₀ h₀ g' h' ∧ Wd c g' st h' ∧ Fs c nm env h₀ oa' g' h' loc) (fun k s' I => ?_) k ⟨loc, st, s.heap, s.toks, g, oa, rfl, h, G, W, F⟩
  obtain ⟨loc, st, h', tk', g', oa', rfl, ev, G, W, F⟩ := I
  have r' : Room n (A.mark none) := ⟨r.hd, r.dep, r.uni⟩
  cases ev with
  | stop hc =>
    refine hc _ env g' _ _ _ r' F.eo W F.le fun h₁ t₁ g₁ G₁ W₁ => ?_
    exact wpAny_execs_nil (P .next h₁ t₁ g₁ oa' (G.trans G₁) W₁ (F.gro W G₁) .next)
  | turn hc hb ev =>
    refine hc _ env g' _ _ _ r' F.eo W F.le fun h₁ t₁ g₁ G₁ W₁ => ?_
    refine hb _ env g₀ h₀ oa' g₁ _ _ _ r' (G.trans G₁) W₁ (F.gro W G₁) fun f h'' tk'' g'' oa'' G'' W'' F'' fr'' => ?_
    cases fr'' with
    | next => exact ⟨_, Nat.lt_succ_self _, _, _, h'', tk'', g'', oa'', rfl, ev, G'', W'', F''⟩
  | ret hc hb =>
    refine hc _ env g' _ _ _ r' F.eo W F.le fun h₁ t₁ g₁ G₁ W₁ => ?_
    refine hb _ env g₀ h₀ oa' g₁ _ _ _ r' (G.trans G₁) W₁ (F.gro W G₁) fun f h'' tk'' g'' oa'' G'' W'' F'' fr'' => ?_
    cases fr'' with
    | ret R => exact P _ h'' tk'' g'' oa'' G'' W'' F'' (.ret R)
end
end Mine

namespace Mine
open PySem PySem.W PySem.Calls PyProof.Rows

def Gh.add (g : Gh) (a : Addr) : Gh := { g with M := fun b => g.M b ∨ b = a }
def Gh.sub (g : Gh) (a : Addr) : Gh := { g with M := fun b => g.M b ∧ b ≠ a }
section
variable {c : Cn} {g g₀ : Gh} {h h' h₀ : Heap} {st : List Inst} {a : Addr}
/-- a fresh object, marked -/
theorem Gro.mark (g : Gh) (ha : h.get? a = none) (k : ∀ b o, h.get? b = some o → h'.get? b = some o) : Gro g h (g.add a) h' :=
  ⟨List.prefix_refl _, List.prefix_refl _, fun b o e _ => k b o e, fun b o e => ⟨o, k b o e⟩, fun b o e => ⟨fun q => q.elim id fun q => (by rw [q, ha] at e; cases e), .inl⟩, fun _ _ _ q => q⟩
theorem Wd.mark (W : Wd c g st h) (ha : h.get? a = none) (k : ∀ b o, h.get? b = some o → h'.get? b = some o) (da : ∃ o, h'.get? a = some o) : Wd c (g.add a) st h' := by
  have ne : ∀ b o, h.get? b = some o → b ≠ a := fun b o e q => by rw [q, ha] at e; cases e
  refine ⟨W.lenρ, W.lenδ, fun k' i x dx h1 h2 h3 => ?_, W.ndδ, W.ndρ, fun d hd => .inl (W.Mδ d hd), fun x hx q => ?_, fun b q => ?_, fun b o e => ?_⟩
  · obtain ⟨e1, es, n, e2, r⟩ := W.inst k' i x dx h1 h2 h3
    exact ⟨k _ _ e1, es, n, k _ _ e2, r.mono (List.prefix_refl _) fun b o e m => ⟨k b o e, fun q => q.elim m (ne b o e)⟩⟩
  · rcases q with q | q
    · exact W.Mρ x hx q
    · obtain ⟨j, hj⟩ := List.getElem?_of_mem hx
      have hj' : j < st.length := by rw [← W.lenρ]; exact (List.getElem?_eq_some_iff.mp hj).1
      obtain ⟨e1, _⟩ := W.inst j _ x _ (List.getElem?_eq_getElem hj') hj (List.getElem?_eq_getElem (by rw [W.lenδ]; exact hj'))
      exact ne x _ e1 q
  · rcases q with q | q
    · obtain ⟨o, e⟩ := W.Mdom b q; exact ⟨o, k b o e⟩
    · subst q; exact da
  · obtain ⟨e1, e2⟩ := W.base b o e
    exact ⟨k b o e1, fun q => q.elim e2 (ne b o e1)⟩
theorem Wd.unmark (W : Wd c g st h) (d : a ∉ g.δ) : Wd c (g.sub a) st h := by
  refine ⟨W.lenρ, W.lenδ, fun k' i x dx h1 h2 h3 => ?_, W.ndδ, W.ndρ, fun x hd => ⟨W.Mδ x hd, fun q => d (q ▸ hd)⟩, fun x hx q => W.Mρ x hx q.1, fun b q => W.Mdom b q.1, fun b o e => ⟨(W.base b o e).1, fun q => (W.base b o e).2 q.1⟩⟩
  obtain ⟨e1, es, n, e2, r⟩ := W.inst k' i x dx h1 h2 h3
  exact ⟨e1, es, n, e2, r.mono (List.prefix_refl _) fun b o e m => ⟨e, fun q => m q.1⟩⟩
theorem Gro.unmark (G : Gro g₀ h₀ g h) (n : h₀.get? a = none) : Gro g₀ h₀ (g.sub a) h :=
  ⟨G.ρ, G.δ, G.keep, G.dom, fun b o e => ⟨fun q => (G.M b o e).mp q.1, fun q => ⟨(G.M b o e).mpr q, fun z => by rw [z, n] at e; cases e⟩⟩, G.new⟩
theorem RV.unmark {v : V} {w : Value} (R : RV c g h v w) : RV c (g.sub a) h v w := R.mono (List.prefix_refl _) fun _ _ e m => ⟨e, fun q => m q.1⟩
theorem DObj.unmark {o : Obj} {f : Int → Option V} {n : Nat} (R : DObj c g h o f n) : DObj c (g.sub a) h o f n := R.mono (List.prefix_refl _) fun _ _ e m => ⟨e, fun q => m q.1⟩
theorem RVs.unmark {v : List V} {w : List Value} (R : RVs c g h v w) : RVs c (g.sub a) h v w := R.mono (List.prefix_refl _) fun _ _ e m => ⟨e, fun q => m q.1⟩
end

section
variable {c : Cn} {nm : Nm} {env : Env} {h₀ : Heap} {oa : Nat → Addr} {g g₀ : Gh} {h h' : Heap} {loc : List LV} {st : List Inst}

def plainD (o : Obj) : Bool := match o.data with
  | .seq .. => true
  | .fields .. => true
  | _ => false
theorem ns_ne_plain {h : Heap} {a b : Addr} {m : Str → Option Value} {o : Obj} (x : h.Ns a m) (e : h.get? b = some o) (d : plainD o = true) : a ≠ b := by
  rintro rfl
  obtain ⟨o', es, ep, ho, hd, _⟩ := x
  rw [e] at ho; cases ho; unfold plainD at d; rw [hd] at d; cases d
theorem cell_ne_plain {h : Heap} {a b : Addr} {o : Obj} {v : Option Value} (x : h.IsCell a v) (e : h.get? b = some o) (d : plainD o = true) : a ≠ b := by
  rintro rfl
  obtain ⟨o', ho, hd⟩ := x
  rw [e] at ho; cases ho; unfold plainD at d; rw [hd] at d; cases d
def lput (i : Nat) (a : Addr) (oa : Nat → Addr) : Nat → Addr := fun j => if j = i then a else oa j
/-- a slot is given its kind anew; what the frame bears stays -/
theorem Fs.slot (F : Fs c nm env h₀ oa g h loc) {i : Nat} {x : Str} {lv : LV} {a : Addr} (hx : nm.ns[i]? = some x) (hs : SlotF c g env h₀ h x a lv)
    (ho : isOwn lv = true → ∀ (j : Nat) (y : LV), loc[j]? = some y → isOwn y = true → oa j = a → j = i) : Fs c nm env h₀ (lput i a oa) g h (loc.set i lv) := by
  have hi : i < loc.length := by rw [F.len]; exact (List.getElem?_eq_some_iff.mp hx).1
  refine ⟨F.eo, F.nd, by rw [List.length_set]; exact F.len, fun j z l hz hl => ?_, F.ns, F.LM, F.Lδ, F.L0, F.kinds, F.cinj, fun j k y z h1 h2 o1 o2 e => ?_⟩
  · by_cases hj : j = i
    · subst hj
      rw [hx] at hz; cases hz
      rw [List.getElem?_set_self hi] at hl; cases hl
      simpa [lput] using hs
    · rw [List.getElem?_set_ne (Ne.symm hj)] at hl
      have := F.slots j z l hz hl
      simpa [lput, hj] using this
  · by_cases hj : j = i
    · by_cases hk : k = i
      · rw [hj, hk]
      · subst hj
        rw [List.getElem?_set_self hi] at h1; cases h1
        rw [List.getElem?_set_ne (Ne.symm hk)] at h2
        simp only [lput, if_pos, if_neg hk] at e
        exact (ho o1 k z h2 o2 e.symm).symm
    · by_cases hk : k = i
      · subst hk
        rw [List.getElem?_set_self hi] at h2; cases h2
        rw [List.getElem?_set_ne (Ne.symm hj)] at h1
        simp only [lput, if_pos, if_neg hj] at e
        exact ho o2 j y h1 o1 e
      · rw [List.getElem?_set_ne (Ne.symm hj)] at h1; rw [List.getElem?_set_ne (Ne.symm hk)] at h2
        simp only [lput, if_neg hj, if_neg hk] at e
        exact F.oinj j k y z h1 h2 o1 o2 e

/-- a value is stored; what it is is told later -/
theorem Fs.storeU {s : Shared} {A : Around} {i : Nat} {x : Str} {w : Value} {Q : Unit → Shared → Prop} {Ex : Value → Shared → Prop} (F : Fs c nm env h₀ oa g s.heap loc) (W : Wd c g st s.heap) (G : Gro g₀ h₀ g s.heap)
    (hx : nm.ns[i]? = some x)
    (h : ∀ h' tk', Gro g₀ h₀ g h' → Wd c g st h' → Fs c nm env h₀ oa g h' (loc.set i .unset) → Reach g env h' x w → (∀ b o, s.heap.get? b = some o → plainD o = true → h'.get? b = some o) → (∀ b o, s.heap.get? b = some o → ¬ g.M b → h'.get? b = some o) → (∃ b, Heap.SameBut b s.heap h' ∧ (b = env.locals ∨ ∃ z ∈ nm.ns, env.kindOf z = some .cell ∧ env.cells.lookup z = some b)) → Q () { s with heap := h', toks := tk' }) : wpAny c.M A (storeName env x w) Q Ex s := by
  have hi : i < loc.length := by rw [F.len]; exact (List.getElem?_eq_some_iff.mp hx).1
  obtain ⟨m, hm⟩ := F.ns
  have own' : ∀ (j k : Nat) (x y' : LV), (loc.set i .unset)[j]? = some x → (loc.set i .unset)[k]? = some y' → isOwn x = true → isOwn y' = true → oa j = oa k → j = k := by
    intro j k x' y' h1 h2 o1 o2 e
    by_cases hj : j = i
    · subst hj; rw [List.getElem?_set_self hi] at h1; cases h1; cases o1
    · by_cases hk : k = i
      · subst hk; rw [List.getElem?_set_self hi] at h2; cases h2; cases o2
      · rw [List.getElem?_set_ne (Ne.symm hj)] at h1; rw [List.getElem?_set_ne (Ne.symm hk)] at h2
        exact F.oinj j k x' y' h1 h2 o1 o2 e
  rcases F.kinds x (List.mem_of_getElem? hx) with k | ⟨k, a, v, l, ce, Ma, da, na⟩
  · refine wpAny_storeName_local k hm (fun h' hn S => h h' _ (G.ext F.L0 S.extBut) (W.ext F.LM F.Lδ S.extBut (let ⟨o, _, _, e, _⟩ := hn; ⟨o, e⟩)) ?_ (.loc _ k hn F.Lδ (by simp)) (fun b o e d => (S.2 b (Ne.symm (ns_ne_plain hm e d))).trans e) (fun b o e nb => (S.2 b fun q => nb (q ▸ F.LM)).trans e) ⟨_, S, .inl rfl⟩) (by rw [F.eo.kind]; rfl)
    refine ⟨F.eo, F.nd, by rw [List.length_set]; exact F.len, fun j z lv hz hl => ?_, ⟨_, hn⟩, F.LM, F.Lδ, F.L0, fun z hz => ?_, F.cinj, own'⟩
    · by_cases hj : j = i
      · subst hj
        rw [List.getElem?_set_self hi] at hl; cases hl
        exact .unset
      · rw [List.getElem?_set_ne (Ne.symm hj)] at hl
        have hne := nd_ne F.nd hx hz hj
        have reach : ∀ u, Reach g env s.heap z u → Reach g env h' z u := fun u r => by
          cases r with
          | loc m2 k2 n2 d2 e2 =>
            rw [ns_fun n2 hm] at e2
            exact .loc _ k2 hn F.Lδ (by simp [hne, e2])
          | cell a k2 l2 d2 e2 => exact .cell a k2 l2 d2 (cell_at e2 fun o ho => (S.2 _ (Ne.symm (ns_ne_cell hm e2))).trans ho)
        cases F.slots j z lv hz hl with
        | unset => exact .unset
        | v r q => exact .v (reach _ r) (q.ext F.LM S.extBut)
        | own r e m' d n q => exact .own (reach _ r) ((S.2 _ (Ne.symm (ns_ne_list hm e rfl))).trans e) m' d n (q.ext F.LM S.extBut)
        | dct r e m' d n z l q => exact .dct (reach _ r) ((S.2 _ l).trans e) m' d n z l (q.ext F.LM S.extBut)
    · rcases F.kinds z hz with k2 | ⟨k2, a, v, l, ce, Ma, da, na⟩
      · exact .inl k2
      · exact .inr ⟨k2, a, v, l, cell_at ce fun o ho => (S.2 _ (Ne.symm (ns_ne_cell hm ce))).trans ho, Ma, da, na⟩
  · refine wpAny_storeName_cell F.eo.kind k l ce fun h' hn S => h h' s.toks (G.ext na S.extBut) (W.ext Ma da S.extBut (let ⟨o, e, _⟩ := hn; ⟨o, e⟩)) ?_ (.cell a k l da hn) (fun b o e d => (S.2 b (Ne.symm (cell_ne_plain ce e d))).trans e) (fun b o e nb => (S.2 b fun q => nb (q ▸ Ma)).trans e) ⟨_, S, .inr ⟨x, List.mem_of_getElem? hx, k, l⟩⟩
    refine ⟨F.eo, F.nd, by rw [List.length_set]; exact F.len, fun j z lv hz hl => ?_, ⟨m, ns_at hm fun o ho => (S.2 _ (ns_ne_cell hm ce)).trans ho⟩, F.LM, F.Lδ, F.L0, fun z hz => ?_, F.cinj, own'⟩
    · by_cases hj : j = i
      · subst hj
        rw [List.getElem?_set_self hi] at hl; cases hl
        exact .unset
      · rw [List.getElem?_set_ne (Ne.symm hj)] at hl
        have hne := nd_ne F.nd hx hz hj
        have reach : ∀ u, Reach g env s.heap z u → Reach g env h' z u := fun u r => by
          cases r with
          | loc m2 k2 n2 d2 e2 => exact .loc m2 k2 (ns_at n2 fun o ho => (S.2 _ (ns_ne_cell n2 ce)).trans ho) d2 e2
          | cell b k2 l2 d2 e2 =>
            have hb : b ≠ a := fun q => hne (F.cinj z x a (List.mem_of_getElem? hz) (List.mem_of_getElem? hx) (q ▸ l2) l)
            exact .cell b k2 l2 d2 (cell_at e2 fun o ho => (S.2 _ hb).trans ho)
        cases F.slots j z lv hz hl with
        | unset => exact .unset
        | v r q => exact .v (reach _ r) (q.ext Ma S.extBut)
        | own r e m' d n q => exact .own (reach _ r) ((S.2 _ (Ne.symm (cell_ne_list ce e rfl))).trans e) m' d n (q.ext Ma S.extBut)
        | dct r e m' d n z l q => exact .dct (reach _ r) ((S.2 _ (q.neC e ce)).trans e) m' d n z l (q.ext Ma S.extBut)
    · rcases F.kinds z hz with k2 | ⟨k2, b, v2, l2, ce2, Mb, db, nb⟩
      · exact .inl k2
      · by_cases hb : b = a
        · subst hb
          exact .inr ⟨k2, b, _, l2, hn, Mb, db, nb⟩
        · exact .inr ⟨k2, b, v2, l2, cell_at ce2 fun o ho => (S.2 _ hb).trans ho, Mb, db, nb⟩

/-- an owned list's object is changed -/
theorem Fs.mut (F : Fs c nm env h₀ oa g h loc) {i : Nat} {x : Str} {xs ys : List V} {ws : List Value} {k : Nat} (hx : nm.ns[i]? = some x) (hl : loc[i]? = some (.own xs)) (S : Heap.SameBut (oa i) h h')
    (e : h'.get? (oa i) = some { cls := .type "list", data := .seq ws.toArray k }) (R : RVs c g h' ys ws) (Mi : g.M (oa i)) : Fs c nm env h₀ oa g h' (loc.set i (.own ys)) := by
  have hi : i < loc.length := by rw [F.len]; exact (List.getElem?_eq_some_iff.mp hx).1
  cases F.slots i x _ hx hl with
  | own r0 e0 m0 d0 n0 q0 =>
    obtain ⟨m, hm⟩ := F.ns
    have hL : env.locals ≠ oa i := ns_ne_list hm e0 rfl
    have reach : ∀ z u, Reach g env h z u → Reach g env h' z u := fun z u r => by
      cases r with
      | loc m2 k2 n2 d2 e2 => exact .loc m2 k2 (ns_at n2 fun o ho => (S.2 _ hL).trans ho) d2 e2
      | cell b k2 l2 d2 e2 => exact .cell b k2 l2 d2 (cell_at e2 fun o ho => (S.2 _ (cell_ne_list e2 e0 rfl)).trans ho)
    refine ⟨F.eo, F.nd, by rw [List.length_set]; exact F.len, fun j z lv hz hl' => ?_, ⟨m, ns_at hm fun o ho => (S.2 _ hL).trans ho⟩, F.LM, F.Lδ, F.L0, fun z hz => ?_, F.cinj, fun j k' y z h1 h2 o1 o2 e' => ?_⟩
    · by_cases hj : j = i
      · subst hj
        rw [hx] at hz; cases hz
        rw [List.getElem?_set_self hi] at hl'; cases hl'
        exact .own (reach _ _ r0) e Mi d0 n0 R
      · rw [List.getElem?_set_ne (Ne.symm hj)] at hl'
        cases F.slots j z lv hz hl' with
        | unset => exact .unset
        | v r q => exact .v (reach _ _ r) (q.ext Mi S.extBut)
        | own r e1 m' d n q => exact .own (reach _ _ r) ((S.2 _ fun z => hj (F.oinj j i _ _ hl' hl rfl rfl z)).trans e1) m' d n (q.ext Mi S.extBut)
        | dct r e1 m' d n z l q => exact .dct (reach _ _ r) ((S.2 _ fun z => hj (F.oinj j i _ _ hl' hl rfl rfl z)).trans e1) m' d n z l (q.ext Mi S.extBut)
    · rcases F.kinds z hz with k2 | ⟨k2, b, v2, l2, ce2, Mb, db, nb⟩
      · exact .inl k2
      · exact .inr ⟨k2, b, v2, l2, cell_at ce2 fun o ho => (S.2 _ (cell_ne_list ce2 e0 rfl)).trans ho, Mb, db, nb⟩
    · have back : ∀ (j : Nat) (y : LV), (loc.set i (.own ys))[j]? = some y → isOwn y = true → ∃ y', loc[j]? = some y' ∧ isOwn y' = true := fun j y q o => by
        by_cases hj : j = i
        · subst hj; exact ⟨_, hl, rfl⟩
        · rw [List.getElem?_set_ne (Ne.symm hj)] at q; exact ⟨y, q, o⟩
      obtain ⟨y', a1, a2⟩ := back j y h1 o1
      obtain ⟨z', b1, b2⟩ := back k' z h2 o2
      exact F.oinj j k' y' z' a1 b1 a2 b2 e'
end

section
variable {c : Cn} {nm : Nm} {n : Nat} {loc loc₁ loc₂ : List LV} {st st₁ st₂ st₃ : List Inst} {fl : Fl}
theorem push_keep {h : Heap} (o : Obj) : ∀ b o', h.get? b = some o' → (h.push o).get? b = some o' := fun _ _ e => Heap.get?_push_of_some _ e
theorem get_size (h : Heap) : h.get? h.objs.size = none := by
  cases e : h.get? h.objs.size with
  | none => rfl
  | some o => exact absurd (Heap.lt_size e) (Nat.lt_irrefl _)
theorem Gro.none {g₀ g : Gh} {h₀ h : Heap} (G : Gro g₀ h₀ g h) {a : Addr} (n : h.get? a = none) : h₀.get? a = none := by
  cases e : h₀.get? a with
  | none => rfl
  | some o => obtain ⟨o', e'⟩ := G.dom a o e; rw [n] at e'; cases e'
theorem sx_own {i : Nat} {x : Str} {q lp p : Ps} {es : List E} {vs : List V} (hx : nm.ns[i]? = some x) (hs : SEs c nm n es loc st vs st₁) (hz : vs.length ≤ 1000000) : SX c nm n (.Assign [.Name x q] (.List (Es.py es) lp) p) loc st .next (loc.set i (.own vs)) st₁ := fun A env g₀ h₀ oa g s Q Ex r G W F P => by
  refine wpAny_Assign_Name (List_ (hs A env g s _ Ex lp r F.eo W F.le fun ws h₁ t₁ g₁ G₁ W₁ R₁ => ?_)) rfl
  refine wpAny_newObj_type ?_ (by show ws.toArray.size ≤ sizeLine; rw [List.size_toArray, R₁.length]; exact Nat.le_trans hz (by decide))
  have ha : h₁.get? h₁.objs.size = none := get_size h₁
  have new : (h₁.push { cls := .type "list", data := .seq ws.toArray }).get? h₁.objs.size = some { cls := .type "list", data := .seq ws.toArray } := Heap.get?_push_size _ rfl
  have G₂ := Gro.mark (a := h₁.objs.size) (h' := h₁.push { cls := .type "list", data := .seq ws.toArray }) g₁ ha (push_keep _)
  have W₂ := W₁.mark ha (push_keep _) ⟨_, new⟩
  have F₂ := (F.gro W G₁).gro W₁ G₂
  have n0 := (G.trans G₁).none ha
  have dδ : h₁.objs.size ∉ g₁.δ := fun q => by
    obtain ⟨o, e⟩ := W₁.Mdom _ (W₁.Mδ _ q); rw [ha] at e; cases e
  refine F₂.storeU (s := { s with heap := h₁.push _, toks := t₁ }) W₂ ((G.trans G₁).trans G₂) hx fun h' tk' G' W' F' rc kl ki _ => ?_
  have hi : i < loc.length := by rw [F.len]; exact (List.getElem?_eq_some_iff.mp hx).1
  have hset : (loc.set i LV.unset).set i (.own vs) = loc.set i (.own vs) := List.set_set ..
  rw [← hset] at P
  refine P .next h' tk' _ (lput i h₁.objs.size oa) G' W' (F'.slot hx (.own rc (kl _ _ new rfl) (.inr rfl) dδ n0 ((R₁.gro W₁ G₂).mono (List.prefix_refl _) fun b o e m => ⟨ki b o e m, m⟩)) fun _ j y hy oy e => ?_) .next
  exfalso
  by_cases hj : j = i
  · subst hj; rw [List.getElem?_set_self hi] at hy; cases hy; cases oy
  · rw [List.getElem?_set_ne (Ne.symm hj)] at hy
    have hjl : j < nm.ns.length := by rw [← F.len]; exact (List.getElem?_eq_some_iff.mp hy).1
    cases y with
    | own ys =>
      cases F.slots j _ _ (List.getElem?_eq_getElem hjl) hy with
      | own r1 e1 m1 d1 n1 q1 => rw [e] at e1; have := G₁.dom _ _ e1; obtain ⟨o', e'⟩ := this; rw [ha] at e'; cases e'
    | dct f n =>
      cases F.slots j _ _ (List.getElem?_eq_getElem hjl) hy with
      | dct r1 e1 m1 d1 n1 z1 l1 q1 => rw [e] at e1; have := G₁.dom _ _ e1; obtain ⟨o', e'⟩ := this; rw [ha] at e'; cases e'
    | _ => cases oy
end
end Mine

namespace Mine
open PySem PySem.W PySem.Calls PyProof.Rows

section
variable {c : Cn} {nm : Nm} {n : Nat} {loc loc₁ loc₂ : List LV} {st st₁ st₂ st₃ : List Inst} {fl : Fl}

theorem sx_append {i : Nat} {x : Str} {xp ap cp p : Ps} {e : E} {xs : List V} {v : V} (hx : nm.ns[i]? = some x) (hl : loc[i]? = some (.own xs)) (hd : (x == ("__debug__" : Str)) = false) (he : SE c nm n e loc st v st₁) (hline : (ap.endLine == cp.line) = true) (hz : xs.length ≤ 1000000) :
    SX c nm n (.Expr (.Call (.Attribute (.Name x xp) "append" ap) [e.py] [] cp) p) loc st .next (loc.set i (.own (xs ++ [v]))) st₁ := fun A env g₀ h₀ oa g s Q Ex r G W F P => by
  refine wpAny_Expr_any ?_ (fs_inter F) rfl
  have hs := star_py e [] env
  have hb : backTo cp (starEach [e.py] env) = [(false, eval e.py env)] := by rw [hs]; rfl
  refine wpAny_Call_append rfl (by rw [hb]; rfl) hline hb ?_
  cases F.slots i x _ hx hl with
  | own R e0 m0 d0 n0 q0 =>
    rename_i ws k
    refine wpAny_Name (reach_load F.eo R ?_) hd
    refine ⟨oa i, ws.toArray, rfl, ⟨_, k, e0, rfl, rfl, rfl⟩, ?_⟩
    refine he A env g s _ Ex r F.eo W F.le fun w h₁ t₁ g₁ G₁ W₁ R₁ => ?_
    have F₁ := F.gro W G₁
    refine wpAny_list_append_plain (s := { s with heap := h₁, toks := t₁ }) (hl := ⟨k, G₁.keep _ _ e0 d0⟩) (fun h' hp S => ?_) (by rw [List.size_toArray, q0.length]; exact Nat.le_trans hz (by decide))
    obtain ⟨k', hp⟩ := hp
    have e1 : ws.toArray.push w = (ws ++ [w]).toArray := by simp
    rw [e1] at hp
    have M1 := (G₁.M _ _ e0).mpr m0
    have d1 : oa i ∉ g₁.δ := fun q => d0 (G₁.new _ _ e0 q)
    exact P .next h' t₁ g₁ oa ((G.trans G₁).ext n0 S.extBut) (W₁.ext M1 d1 S.extBut ⟨_, hp⟩) (F₁.mut hx hl S hp (((q0.gro W G₁).append (.cons R₁ .nil)).ext M1 S.extBut) M1) .next

theorem erase_last {ws : List Value} {k : Nat} (h : ws.length = k + 1) : (ws.toArray.eraseIdxIfInBounds k) = (ws.take k).toArray := by
  unfold Array.eraseIdxIfInBounds
  rw [dif_pos (by rw [List.size_toArray]; omega)]
  apply Array.ext'
  simp only [List.eraseIdx_toArray]
  rw [List.eraseIdx_eq_take_drop_succ, List.drop_of_length_le (by omega), List.append_nil]
/-- del x[len(x) - 1] -/
theorem sx_del {i : Nat} {x : Str} {xp sp p : Ps} {e : E} {xs : List V} {y : V} {k : Nat} (hx : nm.ns[i]? = some x) (hl : loc[i]? = some (.own xs)) (hd : (x == ("__debug__" : Str)) = false) (he : SE c nm n e loc st y st₁) (hy : y.iv c = some (k : Int)) (hk : xs.length = k + 1) (hz : xs.length ≤ 1000000) :
    SX c nm n (.Delete [.Subscript (.Name x xp) e.py sp] p) loc st .next (loc.set i (.own (xs.take k))) st₁ := fun A env g₀ h₀ oa g s Q Ex r G W F P => by
  refine wpAny_Delete (wpAny_deleteEach_cons (wpAny_delete_Subscript ?_))
  cases F.slots i x _ hx hl with
  | own R e0 m0 d0 n0 q0 =>
    rename_i ws kk
    refine wpAny_Name (reach_load F.eo R ?_) hd
    refine he A env g s _ Ex r F.eo W F.le fun w h₁ t₁ g₁ G₁ W₁ R₁ => ?_
    obtain ⟨t, rfl⟩ := R₁.iv hy
    have F₁ := F.gro W G₁
    have hw : ws.length = k + 1 := q0.length.trans hk
    refine wpAny_delItem_plain (s := { s with heap := h₁, toks := t₁ }) (k := k) (hl := ⟨kk, G₁.keep _ _ e0 d0⟩) ?_ ?_ (fun h' hp S => ?_) (by rw [List.size_toArray, hw, ← hk]; exact Nat.le_trans hz (by decide))
    · unfold Builtin.List.listFitsIndex; simp; omega
    · unfold seqIndex?; simp only [List.size_toArray]; rw [hw]; simp; omega
    · obtain ⟨k', hp⟩ := hp
      rw [erase_last hw] at hp
      have M1 := (G₁.M _ _ e0).mpr m0
      have d1 : oa i ∉ g₁.δ := fun q => d0 (G₁.new _ _ e0 q)
      refine wpAny_deleteEach_nil ?_
      exact P .next h' t₁ g₁ oa ((G.trans G₁).ext n0 S.extBut) (W₁.ext M1 d1 S.extBut ⟨_, hp⟩) (F₁.mut hx hl S hp (((q0.gro W G₁).take k).ext M1 S.extBut) M1) .next

/-- an owned list is data from here on -/
theorem Fs.freeze {env : Env} {h₀ h : Heap} {oa : Nat → Addr} {g : Gh} (F : Fs c nm env h₀ oa g h loc) {i : Nat} {x : Str} {xs : List V} (hx : nm.ns[i]? = some x) (hl : loc[i]? = some (.own xs)) :
    oa i ∉ g.δ ∧ h₀.get? (oa i) = none ∧ Fs c nm env h₀ oa (g.sub (oa i)) h (loc.set i (.v (.list xs))) := by
  have hi : i < loc.length := by rw [F.len]; exact (List.getElem?_eq_some_iff.mp hx).1
  cases F.slots i x _ hx hl with
  | own R e0 m0 d0 n0 q0 =>
    refine ⟨d0, n0, ?_⟩
    obtain ⟨m, hm⟩ := F.ns
    have reach : ∀ z u, Reach g env h z u → Reach (g.sub (oa i)) env h z u := fun z u r => by
      cases r with
      | loc m2 k2 n2 d2 e2 => exact .loc m2 k2 n2 d2 e2
      | cell b k2 l2 d2 e2 => exact .cell b k2 l2 d2 e2
    refine ⟨F.eo, F.nd, by rw [List.length_set]; exact F.len, fun j z lv hz hl' => ?_, ⟨m, hm⟩, ⟨F.LM, ns_ne_list hm e0 rfl⟩, F.Lδ, F.L0, fun z hz => ?_, F.cinj, fun j k' y z h1 h2 o1 o2 e' => ?_⟩
    · by_cases hj : j = i
      · subst hj
        rw [hx] at hz; cases hz
        rw [List.getElem?_set_self hi] at hl'; cases hl'
        exact .v (reach _ _ R) (.list e0 (fun q => q.2 rfl) q0.unmark)
      · rw [List.getElem?_set_ne (Ne.symm hj)] at hl'
        cases F.slots j z lv hz hl' with
        | unset => exact .unset
        | v r q => exact .v (reach _ _ r) q.unmark
        | own r e1 m' d n q => exact .own (reach _ _ r) e1 ⟨m', fun z => hj (F.oinj j i _ _ hl' hl rfl rfl z)⟩ d n q.unmark
        | dct r e1 m' d n z l q => exact .dct (reach _ _ r) e1 ⟨m', fun z => hj (F.oinj j i _ _ hl' hl rfl rfl z)⟩ d n z l q.unmark
    · rcases F.kinds z hz with k2 | ⟨k2, b, v2, l2, ce2, Mb, db, nb⟩
      · exact .inl k2
      · exact .inr ⟨k2, b, v2, l2, ce2, ⟨Mb, cell_ne_list ce2 e0 rfl⟩, db, nb⟩
    · by_cases hj : j = i
      · subst hj; rw [List.getElem?_set_self hi] at h1; cases h1; cases o1
      · by_cases hk : k' = i
        · subst hk; rw [List.getElem?_set_self hi] at h2; cases h2; cases o2
        · rw [List.getElem?_set_ne (Ne.symm hj)] at h1; rw [List.getElem?_set_ne (Ne.symm hk)] at h2
          exact F.oinj j k' y z h1 h2 o1 o2 e'
theorem ss_freeze {i : Nat} {x : Str} {xs : List V} {ts : List S} (hx : nm.ns[i]? = some x) (hl : loc[i]? = some (.own xs)) (h : SS c nm n ts (loc.set i (.v (.list xs))) st fl loc₂ st₂) : SS c nm n (.freeze i :: ts) loc st fl loc₂ st₂ := fun A env g₀ h₀ oa g s Q Ex r G W F P => by
  obtain ⟨d, n0, F'⟩ := F.freeze hx hl
  show wpAny _ _ (execs (Ss.py ts) env) Q Ex s
  exact h A env g₀ h₀ oa (g.sub (oa i)) s Q Ex r (G.unmark n0) (W.unmark d) F' P

/-- a, b = t -/
theorem py_swapped (e : E) (ts : List PySem.Expr) (k : Nat) (q : Ps) (env : Env) (h : ∀ es k p, e ≠ .tup es k p) : swappedStores [.Tuple ts k q] e.py env = pure none := by
  cases e <;> first | rfl | exact absurd rfl (h _ _ _)
theorem py_sole (e : E) (t : PySem.Expr) (line : Nat) (env : Env) (h : e.nocomp = true) : swapsWithSole [t] e.py line env = pure false := py_swaps e (some t) line env h
def setMany : List Nat → List V → List LV → List LV
  | i :: is, v :: vs, loc => setMany is vs (loc.set i (.v v))
  | _, _, loc => loc
theorem stores {is : List (Nat × Str × Ps)} {env : Env} {A : Around} {g₀ : Gh} {h₀ : Heap} {oa : Nat → Addr} : ∀ {vs : List V} {ws : List Value} {loc : List LV} {g : Gh} {s : Shared} {Q : Unit → Shared → Prop} {Ex : Value → Shared → Prop},
    (∀ y ∈ is, nm.ns[y.1]? = some y.2.1) → vs.length = is.length → Gro g₀ h₀ g s.heap → Wd c g st s.heap → Fs c nm env h₀ oa g s.heap loc → RVs c g s.heap vs ws →
    (∀ h' tk', Gro g₀ h₀ g h' → Wd c g st h' → Fs c nm env h₀ oa g h' (setMany (is.map (·.1)) vs loc) → Q () { s with heap := h', toks := tk' }) →
    wpAny c.M A (assignInOrder ((assignEach (is.map fun y => .Name y.2.1 y.2.2) env).map (·.2)) ws) Q Ex s := by
  induction is with
  | nil =>
    intro vs ws loc g s Q Ex hn hlen G W F R h
    cases vs with
    | cons => cases hlen
    | nil => cases R; exact wpAny_assignInOrder_none (h s.heap s.toks G W F)
  | cons y is ih =>
    intro vs ws loc g s Q Ex hn hlen G W F R h
    cases vs with
    | nil => cases hlen
    | cons v vs =>
      cases R with
      | cons R0 R =>
        show wpAny _ _ (assignInOrder (assign (.Name y.2.1 y.2.2) env :: _) _) _ _ _
        obtain ⟨m, hm⟩ := F.ns
        refine wpAny_assignInOrder_more (wpAny_assign_Name (F.storeU W G (hn y (.head _)) fun h' tk' G' W' F' rc kl ki _ => ?_))
        have R' := R.mono (g' := g) (h' := h') (List.prefix_refl _) fun b o e m => ⟨ki b o e m, m⟩
        have R0' := R0.mono (g' := g) (h' := h') (List.prefix_refl _) fun b o e m => ⟨ki b o e m, m⟩
        have F'' := F'.slot (a := oa y.1) (hn y (.head _)) (.v rc R0') (fun q => by cases q)
        have e1 : lput y.1 (oa y.1) oa = oa := by funext j; unfold lput; split <;> simp_all
        rw [e1, List.set_set] at F''
        exact ih (s := { s with heap := h', toks := tk' }) (fun z hz => hn z (.tail _ hz)) (Nat.succ.inj hlen) G' W' F'' R' fun h'' tk'' => h h'' tk''
theorem assignEach_len (is : List (Nat × Str × Ps)) (env : Env) : (assignEach (is.map fun y => PySem.Expr.Name y.2.1 y.2.2) env).length = is.length ∧ (assignEach (is.map fun y => PySem.Expr.Name y.2.1 y.2.2) env).findIdx? (·.1) = none := by
  induction is with
  | nil => exact ⟨rfl, rfl⟩
  | cons y is ih =>
    constructor
    · show ((false, _) :: assignEach (is.map fun y => PySem.Expr.Name y.2.1 y.2.2) env).length = _
      rw [List.length_cons, ih.1, List.length_cons]
    · show ((false, _) :: assignEach (is.map fun y => PySem.Expr.Name y.2.1 y.2.2) env).findIdx? (·.1) = none
      rw [List.findIdx?_cons, ih.2]; rfl
theorem sx_unpack {is : List (Nat × Str × Ps)} {k : Nat} {q p : Ps} {e : E} {vs : List V} (hn : ∀ y ∈ is, nm.ns[y.1]? = some y.2.1) (he : SE c nm n e loc st (.tup vs) st₁) (hlen : vs.length = is.length) (hc : e.nocomp = true) (ht : ∀ es k p, e ≠ .tup es k p) :
    SX c nm n (.Assign [.Tuple (is.map fun y => .Name y.2.1 y.2.2) k q] e.py p) loc st .next (setMany (is.map (·.1)) vs loc) st₁ := fun A env g₀ h₀ oa g s Q Ex r G W F P => by
  refine Assign_Tuple (he A env g s _ Ex r F.eo W F.le fun w h₁ t₁ g₁ G₁ W₁ R₁ => ?_) (py_sole e _ _ env hc) (py_swapped e _ _ _ env ht)
  cases R₁ with
  | tup e0 m0 q0 =>
    rename_i a ws nn
    refine wpAny_assign_Tuple (s := { s with heap := h₁, toks := t₁ }) r.hd ⟨_, e0, rfl, _, rfl⟩ (by rw [(assignEach_len is env).1, List.size_toArray, q0.length, hlen]) (assignEach_len is env).2 fun h' X => ?_
    have k' : ∀ b o, h₁.get? b = some o → h'.get? b = some o := fun b o e => X b o (Nat.ne_of_lt (Heap.lt_size e)) e
    have G₂ : Gro g₁ h₁ g₁ h' := ⟨List.prefix_refl _, List.prefix_refl _, fun b o e _ => k' b o e, fun b o e => ⟨o, k' b o e⟩, fun _ _ _ => Iff.rfl, fun _ _ _ q => q⟩
    have W₂ : Wd c g₁ st₁ h' := by
      refine ⟨W₁.lenρ, W₁.lenδ, fun k'' i x dx h1 h2 h3 => ?_, W₁.ndδ, W₁.ndρ, W₁.Mδ, W₁.Mρ, fun b q => let ⟨o, e⟩ := W₁.Mdom b q; ⟨o, k' b o e⟩, fun b o e => ⟨k' b o (W₁.base b o e).1, (W₁.base b o e).2⟩⟩
      obtain ⟨e1, es, n, e2, r⟩ := W₁.inst k'' i x dx h1 h2 h3
      exact ⟨k' _ _ e1, es, n, k' _ _ e2, r.mono (List.prefix_refl _) fun b o e m => ⟨k' b o e, m⟩⟩
    exact stores (s := { s with heap := h', toks := t₁ }) hn hlen ((G.trans G₁).trans G₂) W₂ ((F.gro W G₁).gro W₁ G₂) (q0.gro W₁ G₂) fun h'' tk'' G' W' F' => P .next h'' tk'' g₁ oa G' W' F' .next
end
end Mine

namespace Mine
open PySem PySem.W PySem.Calls PyProof.Rows

/-- a call, as code -/
def SCode (c : Cn) (n : Nat) (a : Addr) (vs : List V) (st : List Inst) (v : V) (st' : List Inst) : Prop :=
  ∀ (A : Around) (g : Gh) (s : Shared) (ws : List Value) (R : Result → Shared → Prop),
    Room n A → Wd c g st s.heap → RVs c g s.heap vs ws → (∀ val h' tk' g', Gro g s.heap g' h' → Wd c g' st' h' → RV c g' h' v val → R (.ok (.ret val)) { s with heap := h', toks := tk' }) → codeAny c.M A (.call (.ref a) ⟨ws, []⟩) R s
theorem SCode.call {c : Cn} {n : Nat} {a : Addr} {vs : List V} {st : List Inst} {v : V} {st' : List Inst} (h : SCode c n a vs st v st') : SCall c n a vs st v st' := fun A g s ws Q Ex r W R P =>
  wpAny_call (h A g s ws _ r W R fun val h' tk' g' G W' R' => P val h' tk' g' G W' R')

structure FnD where
  name : Str
  qual : Str
  params : Arguments
  body : List Stmt
  scope : Scope
  dV : Value
  kV : Value
  doc : Value
  pm : Value
  an : Option Addr
  cdv : Value
  ct : Value
  oc : Value
  od : Option Addr
  osl : Array (Option Value)
def FnD.fd (d : FnD) : FuncData := fnOf d.name d.qual d.params d.body d.scope d.dV d.kV d.doc d.pm d.an d.cdv d.ct
/-- the def that stands at a: its slots' names (the first ones its parameters), its body -/
structure FnAt (c : Cn) (a : Addr) (d : FnD) (nm : Nm) (np : Nat) (body : List S) : Prop where
  look : c.K.lookup a = some ⟨d.oc, d.od, .func d.fd, d.osl⟩
  code : codeIn c.K d.cdv d.qual = true
  hco : d.scope.isCoroutine = false
  hgen : d.scope.isGenerator = false
  hk : d.scope.kind = .function
  body : d.body = Ss.py body
  binds : ∀ ws : List Value, ws.length = np → bindArgs d.fd ⟨ws, []⟩ = pure ((nm.ns.take np).zip ws)
  nd : nm.ns.Nodup
  np : np ≤ nm.ns.length
  loc : ∀ x ∈ nm.ns, d.scope.names.lookup x = some .local
  gs : ∀ x ∈ nm.gs, d.scope.names.lookup x = some .globalImplicit
  nocell : ∀ x ∈ d.scope.names, x.2 ≠ .cell
  nocs : nm.cs = []
  ls : ∀ x ∈ nm.ls, x ∈ nm.ns

def locInit (nm : Nm) (vs : List V) : List LV := vs.map .v ++ List.replicate (nm.ns.length - vs.length) .unset
theorem locInit_len {nm : Nm} {vs : List V} (h : vs.length ≤ nm.ns.length) : (locInit nm vs).length = nm.ns.length := by
  unfold locInit; rw [List.length_append, List.length_map, List.length_replicate]; omega
theorem locInit_get {nm : Nm} {vs : List V} {i : Nat} {lv : LV} (h : (locInit nm vs)[i]? = some lv) : lv = .unset ∨ ∃ v, vs[i]? = some v ∧ lv = .v v := by
  unfold locInit at h
  by_cases hi : i < vs.length
  · rw [List.getElem?_append_left (by rw [List.length_map]; exact hi), List.getElem?_map, List.getElem?_eq_getElem hi] at h
    cases h
    exact .inr ⟨_, List.getElem?_eq_getElem hi, rfl⟩
  · rw [List.getElem?_append_right (by rw [List.length_map]; omega), List.getElem?_replicate] at h
    split at h
    · cases h; exact .inl rfl
    · cases h
theorem zip_lookup : ∀ {ns : List Str} {ws : List Value} {i : Nat} {x : Str} {w : Value}, ns.Nodup → ns[i]? = some x → ws[i]? = some w → (ns.zip ws).reverse.lookup x = some w := by
  intro ns
  induction ns with
  | nil => intro ws i x w _ h _; cases h
  | cons y ns ih =>
    intro ws i x w nd hx hw
    cases ws with
    | nil => cases hw
    | cons u ws =>
      rw [List.zip_cons_cons, List.reverse_cons]
      cases i with
      | zero =>
        cases hx; cases hw
        have : ((ns.zip ws).reverse).lookup y = none := by
          rw [List.lookup_eq_none_iff]
          intro p hp
          have hm := List.of_mem_zip (List.mem_reverse.mp hp)
          have hne : ¬ y = p.1 := fun q => (List.nodup_cons.mp nd).1 (q ▸ hm.1)
          simpa using hne
        rw [List.lookup_append, this]; simp
      | succ i =>
        have := ih (List.nodup_cons.mp nd).2 hx hw
        rw [List.lookup_append, this]; rfl

section
variable {c : Cn} {nm : Nm} {n np : Nat} {a : Addr} {d : FnD} {body : List S} {st st₁ st₂ : List Inst} {vs : List V} {v : V} {loc : List LV} {fl : Fl}
theorem Room.deeper {A : Around} {env : Env} (r : Room (n + 1) A) : Room n (A.deeper env) := by
  have h1 := r.dep; have h2 := r.uni
  refine ⟨r.hd, ?_, ?_⟩
  · show A.depth + 1 + 4 * n < 900; omega
  · show A.units + 3 + 100 * n < 9000; omega
/-- the frame of a def without cells -/
theorem fs_enter {g : Gh} {s : Shared} {h₁ : Heap} {ws : List Value} (ok : FnAt c a d nm np body) (W : Wd c g st s.heap) (R : RVs c g s.heap vs ws) (hn : vs.length = np)
    (hns : h₁.Ns s.heap.objs.size (fun x => ((nm.ns.take np).zip ws).reverse.lookup x)) (hk : ∀ b o, s.heap.get? b = some o → h₁.get? b = some o) :
    Gro g s.heap (g.add s.heap.objs.size) h₁ ∧ Wd c (g.add s.heap.objs.size) st h₁ ∧ Fs c nm (callEnv d.fd s.heap.objs.size a) s.heap (fun _ => 0) (g.add s.heap.objs.size) h₁ (locInit nm vs) := by
  have h0 := get_size s.heap
  have dom : ∃ o, h₁.get? s.heap.objs.size = some o := let ⟨o, _, _, e, _⟩ := hns; ⟨o, e⟩
  have G := Gro.mark (a := s.heap.objs.size) (h' := h₁) g h0 hk
  refine ⟨G, W.mark h0 hk dom, ?_⟩
  have dδ : s.heap.objs.size ∉ g.δ := fun q => by
    obtain ⟨o, e⟩ := W.Mdom _ (W.Mδ _ q); rw [h0] at e; cases e
  refine ⟨⟨fun x hx => ok.loc x (ok.ls x hx), fun x hx => (by rw [ok.nocs] at hx; cases hx), fun x hx => ok.gs x hx, ok.hk, rfl, rfl⟩, ok.nd, locInit_len (by rw [hn]; exact ok.np), fun i x lv hx hl => ?_, ⟨_, hns⟩, .inr rfl, dδ, h0, fun x hx => .inl (ok.loc x hx), fun x y b _ _ e => (by cases e), fun i j x y h1 h2 o1 o2 _ => ?_⟩
  · rcases locInit_get hl with rfl | ⟨u, hu, rfl⟩
    · exact .unset
    · obtain ⟨w, hw, Rw⟩ := R.get hu
      have hi : i < np := by rw [← hn]; exact (List.getElem?_eq_some_iff.mp hu).1
      have hx' : (nm.ns.take np)[i]? = some x := by rw [List.getElem?_take, if_pos hi]; exact hx
      exact .v (.loc _ (ok.loc x (List.mem_of_getElem? hx)) hns dδ (zip_lookup (ok.nd.sublist (List.take_sublist ..)) hx' hw)) (Rw.gro W G)
  · rcases locInit_get h1 with rfl | ⟨u, hu, rfl⟩ <;> cases o1
inductive FlV : Fl → V → Prop where
  | next : FlV .next .none
  | ret (v : V) : FlV (.ret v) v
theorem sCode_fn (ok : FnAt c a d nm np body) (hn : vs.length = np) (h : SS c nm n body (locInit nm vs) st fl loc st₂) (hv : FlV fl v) : SCode c (n + 1) a vs st v st₂ := fun A g s ws R r W RR P => by
  have X := W.X
  refine codeAny_call_def (o := ⟨d.oc, d.od, .func d.fd, d.osl⟩) (fd := d.fd) (body := d.body) (binds := (nm.ns.take np).zip ws) ?_ (X _ _ ok.look) rfl (c.T.nolimit.keeps fun b o e => (W.base b o e).1) (codeRec_of X ok.code) rfl (BindsTo.of_eq (ok.binds ws (RR.length.trans hn))) ok.nocell (fun x hx => ?_) (fun h₁ hns hk => ?_) ok.hco ok.hgen ok.hk
  · have := r.dep; show A.depth < 1000; omega
  · exact ok.loc x.1 (List.mem_of_mem_take (List.of_mem_zip hx).1)
  · obtain ⟨G, W₁, F⟩ := fs_enter ok W RR hn hns hk
    rw [ok.body]
    refine h _ _ g s.heap _ _ { s with heap := h₁, toks := _ } _ _ r.deeper G W₁ F fun f h' tk' g' oa' G' W' F' fr => ?_
    cases fr with
    | next => cases hv; exact P _ h' tk' g' G' W' .none
    | ret R' => cases hv; exact P _ h' tk' g' G' W' R'

/-- a method's call -/
structure MethOk (c : Cn) (k : Nat) (x : Str) (a : Addr) : Prop where
  get : plainGet c.K (c.cls k) x = true
  find : findIn c.K (.ref (c.cls k)) x = some (some (.ref a))
  fn : isFn c.K (.ref a) = true
  keep : keepIn c.K (.ref a) = true
  nofld : x ∉ c.fld k
theorem FR.getL_none {c : Cn} {g : Gh} {h : Heap} {x : Str} : ∀ {ns : List Str} {es : List DictEntry} {fs : List V}, FR c g h ns es fs → x ∉ ns → PySem.W.getL x es = some none
  | _, _, _, .nil, _ => rfl
  | _, _, _, .cons (n := n) (t := t) (w := w) (es := es) r rs, hx => by
    have ih := FR.getL_none rs (fun q => hx (.tail _ q))
    have hne : n ≠ x := fun q => hx (by rw [q]; exact .head _)
    unfold PySem.W.getL at ih ⊢
    rw [List.find?_cons_of_neg (by simpa [Value.isStr] using hne)]
    cases q : List.find? (fun x_1 => x_1.key.isStr x) es with
    | some y => rw [q] at ih; cases ih
    | none =>
      rw [q] at ih
      dsimp only at ih ⊢
      rw [List.any_cons]
      split at ih
      · cases ih
      · rename_i z
        rw [if_neg]
        simp only [Bool.or_eq_true, not_or]
        exact ⟨by simp [DictEntry.refKey], z⟩
theorem py_meth (o : E) (x : Str) (q p : Ps) (es : List E) (env : Env) (ho : o.nocall = true) (hz : es.length < 29) (hline : (q.endLine == p.line) = true) : eval (.Call (.Attribute o.py x q) (Es.py es) [] p) env = (do
      let ov ← eval o.py env
      standAt q.atName
      let (f, first) ← holding [ov] (getMethod ov x (do return (← importBound o.py env).getD true))
      callWith p f first (backTo p (starEach (Es.py es) env)) (backToKw p (keywordEach [] env))) := by
  have hb : attributeBase o.py x env (eval o.py env) = eval o.py env := by cases o <;> first | rfl | cases ho
  have hl : (Es.py es).length = es.length := by
    clear hz
    induction es with
    | nil => rfl
    | cons e es ih => show (e.py :: Es.py es).length = _; rw [List.length_cons, List.length_cons, ih]
  have hall : (backTo p (starEach (Es.py es) env)).all (fun x => !x.1) = true := by
    have := plain_args es p env
    rw [List.all_eq_not_any_not, show (fun (x : Bool × Sem Value) => !!x.1) = (·.1) by funext x; simp, this]; rfl
  have hf : methodCallForm ((Es.py es).length + ([] : List Keyword).length) (backTo p (starEach (Es.py es) env)) (backToKw p (keywordEach [] env)) = true := by
    unfold methodCallForm
    rw [hall, hl]
    show (true && true && decide (es.length + 0 + 0 < 30)) = true
    simp; omega
  rw [arm_eval_Call, hb]
  unfold methodCall
  rw [hf]
  unfold calleeOf methodCallPos
  simp only [hline, Bool.not_true, Bool.false_or, if_true]
  rfl
theorem sE_meth {o : E} {k f : Nat} {x : Str} {q p : Ps} {es : List E} {i : Inst} {ma : Addr} (ho : SE c nm n o loc st (.obj k) st₁) (hi : st₁[k]? = some i) (ok : MethOk c i.cls x ma) (hs : SEs c nm n es loc st₁ vs st₂) {st₃ : List Inst} (hc : SCall c n ma (.obj k :: vs) st₂ v st₃) (hoc : o.nocall = true) (hz : es.length < 29) (hline : (q.endLine == p.line) = true) :
    SE c nm n (.meth o f x q es p) loc st v st₃ := fun A env g s Q Ex r eo W L P => by
  show wpAny _ _ (eval (.Call (.Attribute o.py x q) (Es.py es) [] p) env) Q Ex s
  refine methodCall_KW (ho A env g s _ Ex r eo W L fun wa h₁ t₁ g₁ G₁ W₁ R₁ => ?_) (py_meth o x q p es env hoc hz hline)
  cases R₁ with
  | obj ea =>
    rename_i xa
    have hk : k < g₁.δ.length := by rw [W₁.lenδ]; exact (List.getElem?_eq_some_iff.mp hi).1
    obtain ⟨e1, des, dn, e2, fr⟩ := W₁.inst k i xa _ hi ea (List.getElem?_eq_getElem hk)
    refine method_fn (od := some (dictOf des dn)) W₁.X ⟨e1, rfl, rfl, e2⟩ (plainGet_of ok.get).1 (plainGet_of ok.get).2 ok.find (beq_iff_eq.mp ok.fn) (by show (lookIn x (dictOf des dn)).map _ = _; rw [lookIn_dict, fr.getL_none ok.nofld]; rfl) ?_
    refine callWith_of (P := c.K.In) (by rw [plain_args]; rfl) (keeps_K ok.keep) (args_eval (hs A env g₁ _ _ Ex p r eo W₁ (L.gro W G₁) fun ws h₂ t₂ g₂ G₂ W₂ R₂ => ?_))
    exact ⟨W₂.X, hc A g₂ _ (.ref xa :: ws) Q Ex r W₂ (.cons (RV.gro (.obj ea) W₁ G₂) R₂) (P.trans (G₁.trans G₂))⟩

structure NewOk (c : Cn) (k : Nat) (fI : Addr) : Prop where
  makes : makesIn c.K (c.cls k) = true
  init : findIn c.K (.ref (c.cls k)) "__init__" = some (some (.ref fI))
  fn : isFn c.K (.ref fI) = true
theorem Wd.inst_new {g : Gh} {h : Heap} (W : Wd c g st h) (k : Nat) : let h' := (h.push emptyDict).push (instObj (c.cls k) h.objs.size); let g' : Gh := { ρ := g.ρ ++ [h.objs.size + 1], δ := g.δ ++ [h.objs.size], M := fun b => g.M b ∨ b = h.objs.size }; Gro g h g' h' ∧ Wd c g' (st ++ [⟨k, []⟩]) h' := by
  intro h' g'
  have h0 := get_size h
  have keep : ∀ b o, h.get? b = some o → h'.get? b = some o := fun b o e => Heap.get?_push_of_some _ (Heap.get?_push_of_some _ e)
  have ed : h'.get? h.objs.size = some emptyDict := Heap.get?_push_of_some _ (Heap.get?_push_size _ rfl)
  have ei : h'.get? (h.objs.size + 1) = some (instObj (c.cls k) h.objs.size) := by
    have := Heap.get?_push_size (h.push emptyDict) (o := instObj (c.cls k) h.objs.size) rfl
    rw [Heap.size_push] at this; exact this
  have h1 : h.get? (h.objs.size + 1) = none := by
    cases e : h.get? (h.objs.size + 1) with
    | none => rfl
    | some o => exact absurd (Heap.lt_size e) (Nat.not_lt.mpr (Nat.le_succ _))
  have ne : ∀ b o, h.get? b = some o → b ≠ h.objs.size := fun b o e q => by rw [q, h0] at e; cases e
  have dδ : h.objs.size ∉ g.δ := fun q => by obtain ⟨o, e⟩ := W.Mdom _ (W.Mδ _ q); rw [h0] at e; cases e
  have im : ∀ b o, h.get? b = some o → ¬ g.M b → h'.get? b = some o ∧ ¬ g'.M b := fun b o e m => ⟨keep b o e, fun q => q.elim m (ne b o e)⟩
  have ρin : ∀ x ∈ g.ρ, ∃ o, h.get? x = some o := fun x hx => by
    obtain ⟨j, hj⟩ := List.getElem?_of_mem hx
    have hj' : j < st.length := by rw [← W.lenρ]; exact (List.getElem?_eq_some_iff.mp hj).1
    obtain ⟨e1, _⟩ := W.inst j _ x _ (List.getElem?_eq_getElem hj') hj (List.getElem?_eq_getElem (by rw [W.lenδ]; exact hj'))
    exact ⟨_, e1⟩
  refine ⟨⟨List.prefix_append .., List.prefix_append .., fun b o e _ => keep b o e, fun b o e => ⟨o, keep b o e⟩, fun b o e => ⟨fun q => q.elim id fun q => absurd q (ne b o e), .inl⟩, fun b o e q => ?_⟩, ?_⟩
  · rcases List.mem_append.mp q with q | q
    · exact q
    · exact absurd (List.mem_singleton.mp q) (ne b o e)
  · refine ⟨by show (g.ρ ++ _).length = _; rw [List.length_append, List.length_append, W.lenρ]; rfl, by show (g.δ ++ _).length = _; rw [List.length_append, List.length_append, W.lenδ]; rfl, fun j i x dx a1 a2 a3 => ?_, ?_, ?_, fun dd hd => ?_, fun x hx q => ?_, fun b q => ?_, fun b o e => ⟨keep b o (W.base b o e).1, fun q => q.elim (W.base b o e).2 (ne b o (W.base b o e).1)⟩⟩
    · by_cases hj : j < st.length
      · rw [List.getElem?_append_left hj] at a1
        have a2' : g.ρ[j]? = some x := by rw [← a2]; exact (List.getElem?_append_left (by rw [W.lenρ]; exact hj)).symm
        have a3' : g.δ[j]? = some dx := by rw [← a3]; exact (List.getElem?_append_left (by rw [W.lenδ]; exact hj)).symm
        obtain ⟨e1, es, n, e2, r⟩ := W.inst j i x dx a1 a2' a3'
        exact ⟨keep _ _ e1, es, n, keep _ _ e2, r.mono (List.prefix_append ..) im⟩
      · have hj' : j = st.length := by
          have := (List.getElem?_eq_some_iff.mp a1).1
          rw [List.length_append, List.length_singleton] at this; omega
        subst hj'
        rw [List.getElem?_concat_length] at a1; cases a1
        have a2' : some x = some (h.objs.size + 1) := by rw [← a2]; show (g.ρ ++ [h.objs.size + 1])[st.length]? = _; rw [← W.lenρ, List.getElem?_concat_length]
        have a3' : some dx = some h.objs.size := by rw [← a3]; show (g.δ ++ [h.objs.size])[st.length]? = _; rw [← W.lenδ, List.getElem?_concat_length]
        cases a2'; cases a3'
        exact ⟨ei, [], 0, ed, .nil⟩
    · exact List.nodup_append.mpr ⟨W.ndδ, (by simp), fun x hx y hy q => dδ (by rw [← List.mem_singleton.mp hy, ← q]; exact hx)⟩
    · refine List.nodup_append.mpr ⟨W.ndρ, (by simp), fun x hx y hy q => ?_⟩
      obtain ⟨o, e⟩ := ρin x hx
      rw [q, List.mem_singleton.mp hy, h1] at e; cases e
    · rcases List.mem_append.mp hd with hd | hd
      · exact .inl (W.Mδ dd hd)
      · exact .inr (List.mem_singleton.mp hd)
    · rcases List.mem_append.mp hx with hx | hx
      · obtain ⟨o, e⟩ := ρin x hx
        exact q.elim (W.Mρ x hx) (ne x o e)
      · rw [List.mem_singleton.mp hx] at q
        rcases q with q | q
        · obtain ⟨o, e⟩ := W.Mdom _ q; rw [h1] at e; cases e
        · exact absurd q (Nat.succ_ne_self _)
    · rcases q with q | q
      · obtain ⟨o, e⟩ := W.Mdom b q; exact ⟨o, keep b o e⟩
      · subst q; exact ⟨_, ed⟩
theorem sCode_new {k : Nat} {fI : Addr} (ok : NewOk c k fI) (h : SCode c n fI (.obj st.length :: vs) (st ++ [⟨k, []⟩]) .none st₂) : SCode c (n + 1) (c.cls k) vs st (.obj st.length) st₂ := fun A g s ws R r W RR P => by
  obtain ⟨hp, gs, dr, tk, os⟩ := s
  have X : c.K.In hp := W.X
  obtain ⟨G, W'⟩ := W.inst_new k
  have hne : (some (Value.ref fI) != some (Value.builtin "object.__init__")) = true := rfl
  refine make_core (makes_of X ok.makes) (looks_findIn X ok.init) (fun self => bind_fn X self (beq_iff_eq.mp ok.fn)) (.inl hne) ?_
  have r' : Room n (A.under (.builtin "type.__call__" ⟨.ref (c.cls k) :: ws, []⟩)) := by
    have h1 := r.dep; have h2 := r.uni
    refine ⟨r.hd, ?_, ?_⟩
    · show A.depth + 1 + 4 * n < 900; omega
    · show A.units + 1 + 100 * n < 9000; omega
  have hρ : (g.ρ ++ [hp.objs.size + 1])[st.length]? = some (hp.objs.size + 1) := by rw [← W.lenρ, List.getElem?_concat_length]
  refine h _ _ ⟨(hp.push emptyDict).push (instObj (c.cls k) hp.objs.size), gs, dr, tk, os⟩ (.ref (hp.objs.size + 1) :: ws) _ r' W' (.cons (.obj hρ) (RR.gro W G)) fun val h' tk' g' G' W'' R' => ?_
  cases R' with
  | none =>
    refine ⟨rfl, ?_⟩
    exact P _ h' tk' g' (G.trans G') W'' (.obj (pre_get G'.ρ hρ))
end
end Mine

namespace Mine
open PySem PySem.W PySem.Calls PyProof.Rows

def noHeap : Heap := { objs := #[] }
theorem noHeap_get (a : Addr) : noHeap.get? a = none := by
  cases e : noHeap.get? a with
  | none => rfl
  | some o => exact absurd (Heap.lt_size e) (Nat.not_lt_zero _)
theorem fr_any {h : Heap} {L : Addr} {m : Str → Option Value} (n : h.Ns L m) : Fr noHeap L h m := ⟨n, fun b o e => (by rw [noHeap_get] at e; cases e), Nat.zero_le _⟩
def others (h : Heap) (L d : Addr) : List (Addr × Obj) := (List.range h.objs.size).filterMap fun a => if a = L ∨ a = d then none else (h.get? a).map fun o => (a, o)
theorem mem_others {h : Heap} {L d a : Addr} {o : Obj} (e : h.get? a = some o) (h1 : a ≠ L) (h2 : a ≠ d) : (a, o) ∈ others h L d := by
  unfold others
  refine List.mem_filterMap.mpr ⟨a, List.mem_range.mpr (Heap.lt_size e), ?_⟩
  rw [if_neg (by rintro (q | q); exact h1 q; exact h2 q), e]; rfl
theorem of_others {h : Heap} {L d : Addr} {p : Addr × Obj} (e : p ∈ others h L d) : h.get? p.1 = some p.2 ∧ p.1 ≠ L ∧ p.1 ≠ d := by
  unfold others at e
  obtain ⟨a, _, q⟩ := List.mem_filterMap.mp e
  split at q
  · cases q
  · rename_i hn
    cases g : h.get? a with
    | none => rw [g] at q; cases q
    | some o => rw [g] at q; cases q; exact ⟨g, fun z => hn (.inl z), fun z => hn (.inr z)⟩

structure SetOk (c : Cn) (k : Nat) (x : Str) : Prop where
  set : findIn c.K (.ref (c.cls k)) "__setattr__" = some (some (.builtin "object.__setattr__"))
  over : plainOver c.K (c.cls k) = true
  taker : takerIn c.K (c.cls k) x = some none
  dict : hasDictIn c.K (c.cls k) = true

section
variable {c : Cn} {g : Gh} {h : Heap}
theorem FR.len {ns : List Str} {es : List DictEntry} {fs : List V} (r : FR c g h ns es fs) : es.length = fs.length := by
  induction r with
  | nil => rfl
  | cons _ _ ih => rw [List.length_cons, List.length_cons, ih]
def putV (fs : List V) (f : Nat) (v : V) : List V := if f < fs.length then fs.set f v else fs ++ [v]
theorem FR.put {hs : Int} {t : Tok} {w : Value} {v : V} (R : RV c g h v w) : ∀ {ns : List Str} {es : List DictEntry} {fs : List V}, FR c g h ns es fs → ns.Nodup → ∀ {f : Nat} {x : Str}, ns[f]? = some x → f ≤ fs.length →
    FR c g h ns (putL x hs (.str x t) w es) (putV fs f v)
  | ns, _, _, .nil, nd, f, x, hx, hf => by
    have : f = 0 := Nat.le_zero.mp hf
    subst this
    cases ns with
    | nil => cases hx
    | cons y ns => cases hx; exact .cons R .nil
  | _, _, _, .cons (n := n) (t := t') (w := w') (es := es) (xs := xs) r rs, nd, f, x, hx, hf => by
    cases f with
    | zero =>
      cases hx
      rw [putL, if_pos (by simp [Value.isStr])]
      show FR c g h _ _ (if 0 < (_ :: xs).length then _ else _)
      rw [if_pos (by simp)]
      exact .cons R rs
    | succ f =>
      have hne : n ≠ x := fun q => (List.nodup_cons.mp nd).1 (by rw [q]; exact List.mem_of_getElem? hx)
      have ih := FR.put R (hs := hs) (t := t) rs (List.nodup_cons.mp nd).2 hx (Nat.le_of_succ_le_succ hf)
      rw [putL, if_neg (by simpa [Value.isStr] using hne)]
      unfold putV at ih ⊢
      by_cases hl : f < xs.length
      · rw [if_pos hl] at ih
        rw [if_pos (by rw [List.length_cons]; omega)]
        exact .cons r ih
      · rw [if_neg hl] at ih
        rw [if_neg (by rw [List.length_cons]; omega)]
        exact .cons r ih
end

section
variable {c : Cn} {nm : Nm} {n : Nat} {loc loc₁ loc₂ : List LV} {st st₁ st₂ st₃ : List Inst} {fl : Fl}

theorem sx_setattr {o e : E} {k f : Nat} {x : Str} {q p : Ps} {i : Inst} {v : V} (he : SE c nm n e loc st v st₁) (ho : SE c nm n o loc st₁ (.obj k) st₂) (hi : st₂[k]? = some i) (ok : SetOk c i.cls x) (nd : (c.fld i.cls).Nodup) (hx : (c.fld i.cls)[f]? = some x) (hf : f ≤ i.fs.length) (hz : i.fs.length ≤ 10) (hc : e.nocomp = true) :
    SX c nm n (.Assign [.Attribute o.py x q] e.py p) loc st .next loc (st₂.set k ⟨i.cls, putV i.fs f v⟩) := fun A env g₀ h₀ oa g s Q Ex r G W F P => by
  refine plainObj_wpAny_Assign_Attribute (he A env g s _ Ex r F.eo W F.le fun w h₁ t₁ g₁ G₁ W₁ R₁ => ?_) (py_swaps e _ _ env hc)
  refine ho A env g₁ _ _ Ex r F.eo W₁ (F.le.gro W G₁) fun wo h₂ t₂ g₂ G₂ W₂ R₂ => ?_
  have F₂ := (F.gro W G₁).gro W₁ G₂
  have Rv := R₁.gro W₁ G₂
  cases R₂ with
  | obj ea =>
    rename_i xa
    have hk : k < g₂.δ.length := by rw [W₂.lenδ]; exact (List.getElem?_eq_some_iff.mp hi).1
    have hdx := List.getElem?_eq_getElem hk
    obtain ⟨e1, es, dn, e2, fr⟩ := W₂.inst k i xa _ hi ea hdx
    obtain ⟨m, hm⟩ := F₂.ns
    have dL : g₂.δ[k] ≠ env.locals := fun q => F₂.Lδ (q ▸ List.getElem_mem hk)
    have N : News noHeap env.locals h₂ ([] ++ (g₂.δ[k], dictOf es dn) :: others h₂ env.locals g₂.δ[k]) := by
      intro pr hp
      rcases List.mem_cons.mp hp with rfl | hp
      · exact ⟨e2, dL, noHeap_get _⟩
      · obtain ⟨a1, a2, _⟩ := of_others hp
        exact ⟨a1, a2, noHeap_get _⟩
    have hl : (lookIn x (dictOf es dn)).isSome = true := by
      rw [lookIn_dict]
      by_cases hfl : f < i.fs.length
      · obtain ⟨u, hu, _⟩ := fr.getL nd hx (List.getElem?_eq_getElem hfl)
        rw [hu]; rfl
      · cases gq : PySem.W.getL x es with
        | some _ => rfl
        | none =>
          exfalso
          have keys : ∀ {ns : List Str} {es : List DictEntry} {fs : List V}, FR c g₂ h₂ ns es fs → es.any (·.refKey) = false := fun r => by
            induction r with
            | nil => rfl
            | cons _ _ ih => rw [List.any_cons, ih]; rfl
          unfold PySem.W.getL at gq
          split at gq
          · cases gq
          · rw [keys fr] at gq; cases gq
    refine set_plain (s := { s with heap := h₂, toks := t₂ }) (od := some (dictOf es dn)) W₂.X ⟨e1, rfl, rfl, e2⟩ ok.set ?_
    refine osa_dict (s := { s with heap := h₂, toks := t₂ + 1 }) (pre := []) (fr_any hm) N W₂.X ⟨e1, rfl, rfl, e2⟩ rfl ok.over ok.taker ok.dict hl (fun _ hp => nomatch hp) (fun pr hp => (of_others hp).2.2) (putName_dict ..) rfl ?_ fun h' F' N' => ?_
    · have := (fr.put Rv (hs := PyData.keyHash c.w.params x) (t := t₂ + 1) nd hx hf).len
      rw [this]; unfold putV; split <;> simp <;> omega
    · have ed := (N' _ (.head _)).1
      have keep : ∀ b o, b ≠ env.locals → b ≠ g₂.δ[k] → h₂.get? b = some o → h'.get? b = some o := fun b o n1 n2 e => (N' (b, o) (.tail _ (mem_others e n1 n2))).1
      have Mδ := W₂.Mδ _ (List.getElem_mem hk)
      have imm : ∀ b o, h₂.get? b = some o → ¬ g₂.M b → h'.get? b = some o ∧ ¬ g₂.M b := fun b o e mm => ⟨keep b o (fun q => mm (q ▸ F₂.LM)) (fun q => mm (q ▸ Mδ)) e, mm⟩
      have domL : ∃ o, h'.get? env.locals = some o := let ⟨o, _, _, e, _⟩ := F'.ns; ⟨o, e⟩
      have Gt := (G.trans G₁).trans G₂
      refine P .next h' _ g₂ oa ?_ ?_ ?_ .next
      · refine ⟨Gt.ρ, Gt.δ, fun b o e nb => ?_, fun b o e => ?_, Gt.M, Gt.new⟩
        · exact keep b o (fun q => by rw [q, F.L0] at e; cases e) (fun q => nb (Gt.new b o e (q ▸ List.getElem_mem hk))) (Gt.keep b o e nb)
        · obtain ⟨o', e'⟩ := Gt.dom b o e
          by_cases q : b = g₂.δ[k]
          · subst q; exact ⟨_, ed⟩
          · exact ⟨o', keep b o' (fun q => by rw [q, F.L0] at e; cases e) q e'⟩
      · refine ⟨by rw [List.length_set]; exact W₂.lenρ, by rw [List.length_set]; exact W₂.lenδ, fun j i' a' d' b1 b2 b3 => ?_, W₂.ndδ, W₂.ndρ, W₂.Mδ, W₂.Mρ, fun b q => ?_, fun b o e => imm b o (W₂.base b o e).1 (W₂.base b o e).2⟩
        · by_cases hj : j = k
          · subst hj
            rw [List.getElem?_set_self (List.getElem?_eq_some_iff.mp hi).1] at b1; cases b1
            rw [ea] at b2; cases b2
            rw [hdx] at b3; cases b3
            exact ⟨(imm _ _ e1 (W₂.Mρ _ (List.mem_of_getElem? ea))).1, _, _, ed, (fr.put Rv nd hx hf).mono (List.prefix_refl _) imm⟩
          · rw [List.getElem?_set_ne (Ne.symm hj)] at b1
            obtain ⟨c1, es', n', c2, r'⟩ := W₂.inst j i' a' d' b1 b2 b3
            have hd' : d' ≠ g₂.δ[k] := by
              intro q
              obtain ⟨hj', ej⟩ := List.getElem?_eq_some_iff.mp b3
              exact hj ((List.getElem_inj W₂.ndδ).mp (ej.trans q))
            have hdL : d' ≠ env.locals := fun q => F₂.Lδ (q ▸ List.mem_of_getElem? b3)
            exact ⟨(imm _ _ c1 (W₂.Mρ _ (List.mem_of_getElem? b2))).1, es', n', keep d' _ hdL hd' c2, r'.mono (List.prefix_refl _) imm⟩
        · obtain ⟨o, e⟩ := W₂.Mdom b q
          by_cases q1 : b = g₂.δ[k]
          · subst q1; exact ⟨_, ed⟩
          · by_cases q2 : b = env.locals
            · subst q2; exact domL
            · exact ⟨o, keep b o q2 q1 e⟩
      · have cellk : ∀ b u, h₂.IsCell b u → b ∉ g₂.δ → h'.IsCell b u := fun b u ce nd' => cell_at ce fun o ho => keep b o (Ne.symm (ns_ne_cell hm ce)) (fun q => nd' (q ▸ List.getElem_mem hk)) ho
        have reach : ∀ z u, Reach g₂ env h₂ z u → Reach g₂ env h' z u := fun z u r => by
          cases r with
          | loc m2 k2 n2 d2 e2 => rw [ns_fun n2 hm] at e2; exact .loc _ k2 F'.ns d2 e2
          | cell b k2 l2 d2 e2 => exact .cell b k2 l2 d2 (cellk b _ e2 d2)
        refine ⟨F₂.eo, F₂.nd, F₂.len, fun j z lv hz' hl' => ?_, ⟨_, F'.ns⟩, F₂.LM, F₂.Lδ, F₂.L0, fun z hz' => ?_, F₂.cinj, F₂.oinj⟩
        · cases F₂.slots j z lv hz' hl' with
          | unset => exact .unset
          | v r q => exact .v (reach _ _ r) (q.mono (List.prefix_refl _) imm)
          | own r e1 m' d' n' q => exact .own (reach _ _ r) (keep _ _ (Ne.symm (ns_ne_list hm e1 rfl)) (fun q => d' (q ▸ List.getElem_mem hk)) e1) m' d' n' (q.mono (List.prefix_refl _) imm)
          | dct r e1 m' d' n' z l q => exact .dct (reach _ _ r) (keep _ _ l (fun q => d' (q ▸ List.getElem_mem hk)) e1) m' d' n' z l (q.mono (List.prefix_refl _) imm)
        · rcases F₂.kinds z hz' with k2 | ⟨k2, b, v2, l2, ce2, Mb, db, nb⟩
          · exact .inl k2
          · exact .inr ⟨k2, b, v2, l2, cellk b _ ce2 db, Mb, db, nb⟩
end
end Mine

namespace Mine
open PySem PySem.W PySem.Calls PyProof.Rows

/-- what an iterator over xs is -/
structure ItOk (c : Cn) (A : Around) (g : Gh) (h : Heap) (I : Addr) (xs : List V) (fp : List Addr) (P : Nat → Value → Prop) (Stt : Nat → Heap → Prop) : Prop where
  W : Walks c.prog c.w A I fp [I] xs.length P Stt
  M : g.M I
  dδ : I ∉ g.δ
  dat : ∀ i h, Stt i h → ∃ o vs, h.get? I = some o ∧ o.data = .fields vs
  st : Stt 0 h
  fp : ∀ b ∈ fp, b ≠ I → ¬ g.M b ∧ ∃ o, h.get? b = some o
  val : ∀ i v, i < xs.length → P i v → ∃ y, xs[i]? = some y ∧ RV c g h y v
  size : xs.length ≤ 1000000
def SI (c : Cn) (nm : Nm) (n : Nat) (e : E) (loc : List LV) (st : List Inst) (xs : List V) (st' : List Inst) : Prop :=
  ∀ (A : Around) (env : Env) (g : Gh) (s : Shared) (Q : Value → Shared → Prop) (Ex : Value → Shared → Prop),
    Room n A → EnvOk nm env → Wd c g st s.heap → Le c env nm.ns g s.heap loc →
    (∀ I h' tk' g' fp P Stt, Gro g s.heap g' h' → Wd c g' st' h' → s.heap.get? I = none → ItOk c A g' h' I xs fp P Stt → Q (.ref I) { s with heap := h', toks := tk' }) →
    wpAny c.M A (eval e.py env) (fun x s₁ => wpAny c.M A (pyIter x) Q Ex s₁) Ex s

section
variable {c : Cn} {nm : Nm} {n : Nat} {loc loc₁ loc₂ : List LV} {st st₁ st₂ st₃ : List Inst} {fl : Fl}

theorem si_list {e : E} {xs : List V} (he : SE c nm n e loc st (.list xs) st₁) (hz : xs.length ≤ 1000000) : SI c nm n e loc st xs st₁ := fun A env g s Q Ex r eo W L P => by
  refine he A env g s _ Ex r eo W L fun w h₁ t₁ g₁ G₁ W₁ R₁ => ?_
  cases R₁ with
  | list e0 m0 q0 =>
    rename_i l ws k
    have hl : h₁.IsList l ws.toArray := ⟨_, e0, rfl, _, rfl⟩
    refine wpAny_pyIter_list (s := { s with heap := h₁, toks := t₁ }) hl ?_
    have ha := get_size h₁
    have hne : l ≠ h₁.objs.size := Nat.ne_of_lt (Heap.lt_size e0)
    have new := Heap.get?_push_size h₁ (o := { cls := .type "list_iterator", data := .fields #[.ref l, .int 0 0] }) rfl
    have G₂ := Gro.mark (a := h₁.objs.size) (h' := h₁.push { cls := .type "list_iterator", data := .fields #[.ref l, .int 0 0] }) g₁ ha (push_keep _)
    have hs : ws.toArray.size = xs.length := by rw [List.size_toArray, q0.length]
    have Wk := Walks.list (prog := c.prog) (w := c.w) r.hd h₁.objs.size l hne ws.toArray
    rw [hs] at Wk
    refine P _ _ t₁ (g₁.add h₁.objs.size) _ _ _ (G₁.trans G₂) (W₁.mark ha (push_keep _) ⟨_, new⟩) (G₁.none ha) ⟨Wk, .inr rfl, ?_, ?_, ?_, ?_, ?_, hz⟩
    · exact fun q => by obtain ⟨o, e⟩ := W₁.Mdom _ (W₁.Mδ _ q); rw [ha] at e; cases e
    · exact fun i h st => let ⟨o, e, _, d⟩ := st.1; ⟨o, _, e, d⟩
    · exact ⟨⟨_, new, rfl, rfl⟩, ⟨_, push_keep _ _ _ e0, rfl, _, rfl⟩⟩
    · intro b hb hbI
      have : b = l := by simpa [hbI] using hb
      subst this
      exact ⟨fun q => q.elim m0 hne, _, push_keep _ _ _ e0⟩
    · intro i v _ hv
      rw [List.getElem?_toArray] at hv
      obtain ⟨y, hy, R⟩ := q0.get' hv
      exact ⟨y, hy, R.gro W₁ G₂⟩
theorem si_tup {e : E} {xs : List V} (he : SE c nm n e loc st (.tup xs) st₁) (hz : xs.length ≤ 1000000) : SI c nm n e loc st xs st₁ := fun A env g s Q Ex r eo W L P => by
  refine he A env g s _ Ex r eo W L fun w h₁ t₁ g₁ G₁ W₁ R₁ => ?_
  cases R₁ with
  | tup e0 m0 q0 =>
    rename_i l ws k
    have hl : h₁.IsTuple l ws.toArray := ⟨_, e0, rfl, _, rfl⟩
    refine wpAny_pyIter_tuple (s := { s with heap := h₁, toks := t₁ }) hl ?_
    have ha := get_size h₁
    have hne : l ≠ h₁.objs.size := Nat.ne_of_lt (Heap.lt_size e0)
    have new := Heap.get?_push_size h₁ (o := { cls := .type "tuple_iterator", data := .fields #[.ref l, .int 0 0] }) rfl
    have G₂ := Gro.mark (a := h₁.objs.size) (h' := h₁.push { cls := .type "tuple_iterator", data := .fields #[.ref l, .int 0 0] }) g₁ ha (push_keep _)
    have hs : ws.toArray.size = xs.length := by rw [List.size_toArray, q0.length]
    have Wk := Walks.tuple (prog := c.prog) (w := c.w) r.hd h₁.objs.size l hne ws.toArray
    rw [hs] at Wk
    refine P _ _ t₁ (g₁.add h₁.objs.size) _ _ _ (G₁.trans G₂) (W₁.mark ha (push_keep _) ⟨_, new⟩) (G₁.none ha) ⟨Wk, .inr rfl, ?_, ?_, ?_, ?_, ?_, hz⟩
    · exact fun q => by obtain ⟨o, e⟩ := W₁.Mdom _ (W₁.Mδ _ q); rw [ha] at e; cases e
    · exact fun i h st => let ⟨o, e, _, d⟩ := st.1; ⟨o, _, e, d⟩
    · exact ⟨⟨_, new, rfl, rfl⟩, ⟨_, push_keep _ _ _ e0, rfl, _, rfl⟩⟩
    · intro b hb hbI
      have : b = l := by simpa [hbI] using hb
      subst this
      exact ⟨fun q => q.elim m0 hne, _, push_keep _ _ _ e0⟩
    · intro i v _ hv
      rw [List.getElem?_toArray] at hv
      obtain ⟨y, hy, R⟩ := q0.get' hv
      exact ⟨y, hy, R.gro W₁ G₂⟩
/-- the ints of a range -/
def rng (a c : Int) (n : Nat) : List V := (List.range n).map fun i : Nat => V.int (a + i * c)
theorem rng_len (a c : Int) (n : Nat) : (rng a c n).length = n := by unfold rng; rw [List.length_map, List.length_range]
theorem range_it {A : Around} {g : Gh} {s : Shared} {r : Addr} {a b d : Int} {t u v : Tok} {k : Nat} {Q : Value → Shared → Prop} {Ex : Value → Shared → Prop} (ro : Room n A) (W : Wd c g st s.heap) (hr : IsRange s.heap r a b d t u v) (hs : Builtin.Range.small a b d = true) (hk : Builtin.Range.rangeSize a b d = k) (hz : k ≤ 1000000)
    (P : ∀ I h' g' fp P Stt, Gro g s.heap g' h' → Wd c g' st h' → s.heap.get? I = none → ItOk c A g' h' I (rng a d k) fp P Stt → Q (.ref I) { s with heap := h' }) : wpAny c.M A (pyIter (.ref r)) Q Ex s := by
  refine wpAny_pyIter_range hr hs ?_
  rw [hk]
  have ha := get_size s.heap
  have new := Heap.get?_push_size s.heap (o := { cls := .type "range_iterator", data := .fields #[rawInt a, rawInt k, rawInt d] }) rfl
  have G₂ := Gro.mark (a := s.heap.objs.size) (h' := s.heap.push { cls := .type "range_iterator", data := .fields #[rawInt a, rawInt k, rawInt d] }) g ha (push_keep _)
  have Wk := Walks.range (prog := c.prog) (w := c.w) ro.hd s.heap.objs.size a d k
  have e : (rng a d k).length = k := rng_len ..
  rw [← e] at Wk
  refine P _ _ (g.add s.heap.objs.size) _ _ _ G₂ (W.mark ha (push_keep _) ⟨_, new⟩) ha ⟨Wk, .inr rfl, ?_, ?_, ?_, ?_, ?_, by rw [e]; exact hz⟩
  · exact fun q => by obtain ⟨o, e⟩ := W.Mdom _ (W.Mδ _ q); rw [ha] at e; cases e
  · exact fun i h st => ⟨_, _, st, rfl⟩
  · show (s.heap.push _).get? _ = _
    rw [new, e]
    simp [rawInt]
  · intro b hb hbI
    exact absurd (by simpa using hb) hbI
  · rintro i w hi ⟨tt, rfl⟩
    rw [e] at hi
    refine ⟨.int (a + i * d), ?_, .int _ _⟩
    unfold rng
    rw [List.getElem?_map, List.getElem?_range hi]; rfl
/-- range(e) -/
theorem si_range1 {x : Str} {q p : Ps} {e : E} {y : V} {k : Nat} (ok : BtOk c nm x (.type "range")) (he : SE c nm n e loc st y st₁) (hy : y.iv c = some (k : Int)) (hz : k ≤ 1000000) : SI c nm n (.call .range x q [e] p) loc st (rng 0 1 k) st₁ := fun A env g s Q Ex r eo W L P => by
  show wpAny _ _ (eval (.Call (.Name x q) [e.py] [] p) env) _ _ s
  refine Call_Name rfl (blt_load eo W ok ?_)
  refine PyProof.Rows.callWith_type (plain_args [e] p env) (args_eval (es := [e]) (sEs_cons he sEs_nil A env g s _ Ex p r eo W L fun ws h₁ t₁ g₁ G₁ W₁ R₁ => ?_))
  cases R₁ with
  | cons R0 R' =>
    cases R'
    obtain ⟨t, rfl⟩ := R0.iv hy
    refine call_range_1 (s := { s with heap := h₁, toks := t₁ }) ?_
    have G₂ := Gro.push g₁ h₁ { cls := .type "range", data := .fields #[.int 0 t₁, .int k t, .int 1 (t₁ + 1)] }
    refine range_it (s := { s with heap := h₁.push _, toks := t₁ + 1 + 1 }) (k := k) r (W₁.push _) (IsRange.new ..) ?_ ?_ hz fun I h' g' fp P' Stt G' W' n' ok' => P I h' _ g' fp P' Stt ((G₁.trans G₂).trans G') W' ((G₁.trans G₂).none n') ok'
    · exact small_one (by omega) (by omega) (by omega) (by omega)
    · rw [rangeSize_one]; split <;> omega
/-- range(a, b, d) -/
theorem si_range3 {x : Str} {q p : Ps} {e₁ e₂ e₃ : E} {y₁ y₂ y₃ : V} {a b d : Int} {k : Nat} (ok : BtOk c nm x (.type "range")) (h1 : SE c nm n e₁ loc st y₁ st₁) (h2 : SE c nm n e₂ loc st₁ y₂ st₂) (h3 : SE c nm n e₃ loc st₂ y₃ st₃) (hy1 : y₁.iv c = some a) (hy2 : y₂.iv c = some b) (hy3 : y₃.iv c = some d) (hd : d ≠ 0)
    (ha : a.natAbs < 100000) (hb : b.natAbs < 100000) (hd' : d.natAbs < 100000) (hk : Builtin.Range.rangeSize a b d = k) (hz : k ≤ 1000000) : SI c nm n (.call .range x q [e₁, e₂, e₃] p) loc st (rng a d k) st₃ := fun A env g s Q Ex r eo W L P => by
  show wpAny _ _ (eval (.Call (.Name x q) [e₁.py, e₂.py, e₃.py] [] p) env) _ _ s
  refine Call_Name rfl (blt_load eo W ok ?_)
  refine PyProof.Rows.callWith_type (plain_args [e₁, e₂, e₃] p env) (args_eval (es := [e₁, e₂, e₃]) (sEs_cons h1 (sEs_cons h2 (sEs_cons h3 sEs_nil)) A env g s _ Ex p r eo W L fun ws h₁ t₁ g₁ G₁ W₁ R₁ => ?_))
  cases R₁ with
  | cons R0 R' =>
    cases R' with
    | cons R1 R' =>
      cases R' with
      | cons R2 R' =>
        cases R'
        obtain ⟨t, rfl⟩ := R0.iv hy1
        obtain ⟨u, rfl⟩ := R1.iv hy2
        obtain ⟨v, rfl⟩ := R2.iv hy3
        refine call_range_3 (s := { s with heap := h₁, toks := t₁ }) hd ?_ (Or.inl (PyProof.noPylong_small (by omega)))
        have G₂ := Gro.push g₁ h₁ { cls := .type "range", data := .fields #[.int a t, .int b u, .int d v] }
        refine range_it (s := { s with heap := h₁.push _, toks := t₁ }) (k := k) r (W₁.push _) (IsRange.new ..) ?_ hk hz fun I h' g' fp P' Stt G' W' n' ok' => P I h' _ g' fp P' Stt ((G₁.trans G₂).trans G') W' ((G₁.trans G₂).none n') ok'
        unfold Builtin.Range.small
        rw [hk]
        simp only [Builtin.Range.rangeFitsLong, Bool.and_eq_true, Bool.or_eq_true, decide_eq_true_eq, beq_iff_eq]
        refine ⟨⟨⟨⟨by omega, by omega⟩, by omega⟩, by omega⟩, .inr ?_⟩
        split <;> simp only [Bool.and_eq_true, decide_eq_true_eq] <;> omega
end

/-- the frame's own objects -/
def fmut (env : Env) (ns : List Str) (oa : Nat → Addr) (loc : List LV) : List Addr :=
  env.locals :: (ns.filterMap fun x => if env.kindOf x = some .cell then env.cells.lookup x else none) ++ (List.range loc.length).filterMap fun i => match loc[i]? with | some (LV.own _) => some (oa i) | some (LV.dct ..) => some (oa i) | _ => none
section
variable {c : Cn} {nm : Nm} {env : Env} {h₀ : Heap} {oa oa' : Nat → Addr} {g g₀ g' : Gh} {h h' : Heap} {loc loc' : List LV} {st st' : List Inst}
theorem fmut_own {i : Nat} {xs : List V} {ns : List Str} (h : loc[i]? = some (.own xs)) : oa i ∈ fmut env ns oa loc := by
  refine List.mem_append.mpr (.inr (List.mem_filterMap.mpr ⟨i, List.mem_range.mpr (List.getElem?_eq_some_iff.mp h).1, ?_⟩))
  rw [h]
theorem fmut_dct {i : Nat} {f : Int → Option V} {n : Nat} {ns : List Str} (h : loc[i]? = some (.dct f n)) : oa i ∈ fmut env ns oa loc := by
  refine List.mem_append.mpr (.inr (List.mem_filterMap.mpr ⟨i, List.mem_range.mpr (List.getElem?_eq_some_iff.mp h).1, ?_⟩))
  rw [h]
theorem fmut_cell {x : Str} {a : Addr} {ns : List Str} (hx : x ∈ ns) (k : env.kindOf x = some .cell) (h : env.cells.lookup x = some a) : a ∈ fmut env ns oa loc :=
  List.mem_append.mpr (.inl (.tail _ (List.mem_filterMap.mpr ⟨x, hx, by rw [if_pos k]; exact h⟩)))
theorem fmut_L {ns : List Str} : env.locals ∈ fmut env ns oa loc := List.mem_append.mpr (.inl (.head _))
theorem Fs.fmut0 (F : Fs c nm env h₀ oa g h loc) {b : Addr} (hb : b ∈ fmut env nm.ns oa loc) : h₀.get? b = none := by
  rcases List.mem_append.mp hb with hb | hb
  · rcases List.mem_cons.mp hb with rfl | hb
    · exact F.L0
    · obtain ⟨x, hx, e⟩ := List.mem_filterMap.mp hb
      split at e
      · rename_i kc
        rcases F.kinds x hx with k | ⟨k, a, v, l, ce, Ma, da, na⟩
        · rw [kc] at k; cases k
        · rw [e] at l; cases l; exact na
      · cases e
  · obtain ⟨i, hi, e⟩ := List.mem_filterMap.mp hb
    split at e
    · rename_i xs hl
      cases e
      have hi' : i < nm.ns.length := by rw [← F.len]; exact List.mem_range.mp hi
      have hl' : loc[i]? = some (.own xs) := hl
      cases F.slots i _ _ (List.getElem?_eq_getElem hi') hl' with
      | own r e1 m d n q => exact n
    · rename_i f k hl
      cases e
      have hi' : i < nm.ns.length := by rw [← F.len]; exact List.mem_range.mp hi
      have hl' : loc[i]? = some (.dct f k) := hl
      cases F.slots i _ _ (List.getElem?_eq_getElem hi') hl' with
      | dct r e1 m d n z l q => exact n
    · cases e
/-- the frame over all that now stands -/
theorem Fs.rebase (F : Fs c nm env h₀ oa g h loc) : Fs c nm env (hideAll h (fmut env nm.ns oa loc)) oa g h loc := by
  refine ⟨F.eo, F.nd, F.len, fun i x lv hx hl => ?_, F.ns, F.LM, F.Lδ, hideAll_none _ fmut_L, fun x hx => ?_, F.cinj, F.oinj⟩
  · cases F.slots i x lv hx hl with
    | unset => exact .unset
    | v r q => exact .v r q
    | own r e1 m d n q => exact .own r e1 m d (hideAll_none _ (fmut_own hl)) q
    | dct r e1 m d n z l q => exact .dct r e1 m d (hideAll_none _ (fmut_dct hl)) z l q
  · rcases F.kinds x hx with k | ⟨k, a, v, l, ce, Ma, da, na⟩
    · exact .inl k
    · exact .inr ⟨k, a, v, l, ce, Ma, da, hideAll_none _ (fmut_cell hx k l)⟩
theorem Gro.hide (g : Gh) (h : Heap) (l : List Addr) : Gro g (hideAll h l) g h :=
  ⟨List.prefix_refl _, List.prefix_refl _, fun _ _ e _ => of_hideAll _ e, fun _ o e => ⟨o, of_hideAll _ e⟩, fun _ _ _ => Iff.rfl, fun _ _ _ q => q⟩
theorem Gro.back {l : List Addr} (G : Gro g₀ h₀ g h) (n : ∀ b ∈ l, h₀.get? b = Option.none) (G' : Gro g (hideAll h l) g' h') : Gro g₀ h₀ g' h' := by
  have up : ∀ b o, h₀.get? b = some o → ∀ o', h.get? b = some o' → (hideAll h l).get? b = some o' := fun b o e o' e' => hideAll_get _ e' fun q => by rw [n b q] at e; cases e
  refine ⟨G.ρ.trans G'.ρ, G.δ.trans G'.δ, fun b o e nb => ?_, fun b o e => ?_, fun b o e => ?_, fun b o e q => ?_⟩
  · exact G'.keep b o (up b o e o (G.keep b o e nb)) fun q => nb (G.new b o e q)
  · obtain ⟨o', e'⟩ := G.dom b o e; exact G'.dom b o' (up b o e o' e')
  · obtain ⟨o', e'⟩ := G.dom b o e; exact (G'.M b o' (up b o e o' e')).trans (G.M b o e)
  · obtain ⟨o', e'⟩ := G.dom b o e; exact G.new b o e (G'.new b o' (up b o e o' e') q)
theorem Fs.back {l : List Addr} (F : Fs c nm env h₀ oa g h loc) (G : Gro g₀ h₀ g h) (n : ∀ b ∈ l, h₀.get? b = none) (F' : Fs c nm env (hideAll h l) oa' g' h' loc') : Fs c nm env h₀ oa' g' h' loc' := by
  refine ⟨F'.eo, F'.nd, F'.len, fun i x lv hx hl => ?_, F'.ns, F'.LM, F'.Lδ, F.L0, fun x hx => ?_, F'.cinj, F'.oinj⟩
  · cases F'.slots i x lv hx hl with
    | unset => exact .unset
    | v r q => exact .v r q
    | own r e1 m d nn q =>
      refine .own r e1 m d ?_ q
      cases e : h₀.get? (oa' i) with
      | none => rfl
      | some o =>
        obtain ⟨o', e'⟩ := G.dom _ o e
        have := hideAll_get l e' fun q => by rw [n _ q] at e; cases e
        rw [nn] at this; cases this
    | dct r e1 m d nn z l' q =>
      refine .dct r e1 m d ?_ z l' q
      cases e : h₀.get? (oa' i) with
      | none => rfl
      | some o =>
        obtain ⟨o', e'⟩ := G.dom _ o e
        have := hideAll_get l e' fun q => by rw [n _ q] at e; cases e
        rw [nn] at this; cases this
  · rcases F'.kinds x hx with k | ⟨k, a, v, l', ce, Ma, da, na⟩
    · exact .inl k
    · rcases F.kinds x hx with k2 | ⟨k2, a2, v2, l2, ce2, Ma2, da2, na2⟩
      · rw [k] at k2; cases k2
      · rw [l'] at l2; cases l2
        exact .inr ⟨k, a, v, l', ce, Ma, da, na2⟩
theorem plain_nd {o : Obj} (d : plainD o = true) : ∀ es ep, o.data ≠ .dict es ep := fun es ep q => by unfold plainD at d; rw [q] at d; cases d
/-- the iterator's own step -/
theorem Fs.iter (F : Fs c nm env h₀ oa g h loc) {I : Addr} {o : Obj} (e : h.get? I = some o) (d : plainD o = true) (nl : ∀ xs n, o.data ≠ .seq xs n) (M : g.M I) (S : Heap.ExtBut I h h') : Fs c nm env h₀ oa g h' loc := by
  obtain ⟨m, hm⟩ := F.ns
  have hL : env.locals ≠ I := ns_ne_plain hm e d
  have reach : ∀ z u, Reach g env h z u → Reach g env h' z u := fun z u r => by
    cases r with
    | loc m2 k2 n2 d2 e2 => exact .loc m2 k2 (ns_at n2 fun o ho => S _ _ hL ho) d2 e2
    | cell b k2 l2 d2 e2 => exact .cell b k2 l2 d2 (cell_at e2 fun o ho => S _ _ (cell_ne_plain e2 e d) ho)
  refine ⟨F.eo, F.nd, F.len, fun i x lv hx hl => ?_, ⟨m, ns_at hm fun o ho => S _ _ hL ho⟩, F.LM, F.Lδ, F.L0, fun x hx => ?_, F.cinj, F.oinj⟩
  · cases F.slots i x lv hx hl with
    | unset => exact .unset
    | v r q => exact .v (reach _ _ r) (q.ext M S)
    | own r e1 m d' n q =>
      refine .own (reach _ _ r) (S _ _ (fun z => ?_) e1) m d' n (q.ext M S)
      rw [z, e] at e1; cases e1; exact nl _ _ rfl
    | dct r e1 m d' n z l q => exact .dct (reach _ _ r) (S _ _ (q.ne e1 e (plain_nd d)) e1) m d' n z l (q.ext M S)
  · rcases F.kinds x hx with k | ⟨k, a, v, l, ce, Ma, da, na⟩
    · exact .inl k
    · exact .inr ⟨k, a, v, l, cell_at ce fun o ho => S _ _ (cell_ne_plain ce e d) ho, Ma, da, na⟩
theorem Fs.unmark (F : Fs c nm env h₀ oa g h loc) {I : Addr} {o : Obj} (e : h.get? I = some o) (d : plainD o = true) (nl : ∀ xs n, o.data ≠ .seq xs n) : Fs c nm env h₀ oa (g.sub I) h loc := by
  obtain ⟨m, hm⟩ := F.ns
  have hL : env.locals ≠ I := ns_ne_plain hm e d
  have reach : ∀ z u, Reach g env h z u → Reach (g.sub I) env h z u := fun z u r => by
    cases r with
    | loc m2 k2 n2 d2 e2 => exact .loc m2 k2 n2 d2 e2
    | cell b k2 l2 d2 e2 => exact .cell b k2 l2 d2 e2
  refine ⟨F.eo, F.nd, F.len, fun i x lv hx hl => ?_, ⟨m, hm⟩, ⟨F.LM, hL⟩, F.Lδ, F.L0, fun x hx => ?_, F.cinj, F.oinj⟩
  · cases F.slots i x lv hx hl with
    | unset => exact .unset
    | v r q => exact .v (reach _ _ r) q.unmark
    | own r e1 m d' n q =>
      refine .own (reach _ _ r) e1 ⟨m, fun z => ?_⟩ d' n q.unmark
      rw [z, e] at e1; cases e1; exact nl _ _ rfl
    | dct r e1 m d' n z l q => exact .dct (reach _ _ r) e1 ⟨m, q.ne e1 e (plain_nd d)⟩ d' n z l q.unmark
  · rcases F.kinds x hx with k | ⟨k, a, v, l, ce, Ma, da, na⟩
    · exact .inl k
    · exact .inr ⟨k, a, v, l, ce, ⟨Ma, cell_ne_plain ce e d⟩, da, na⟩
theorem Wd.extD {a : Addr} (W : Wd c g st h) (m : g.M a) (d : a ∉ g.δ) (S : Heap.ExtBut a h h') : Wd c (g.sub a) st h' := by
  have im : ∀ b o, h.get? b = some o → ¬ g.M b → h'.get? b = some o ∧ ¬ (g.sub a).M b := fun b o e k => ⟨S b o (fun q => k (q ▸ m)) e, fun q => k q.1⟩
  refine ⟨W.lenρ, W.lenδ, fun k i x dx h1 h2 h3 => ?_, W.ndδ, W.ndρ, fun x hd => ⟨W.Mδ x hd, fun q => d (q ▸ hd)⟩, fun x hx q => W.Mρ x hx q.1, fun b q => ?_, fun b o e => ?_⟩
  · obtain ⟨e1, es, n, e2, r⟩ := W.inst k i x dx h1 h2 h3
    have hx : x ≠ a := fun q => W.Mρ x (List.mem_of_getElem? h2) (q ▸ m)
    have hd : dx ≠ a := fun q => d (q ▸ List.mem_of_getElem? h3)
    exact ⟨S x _ hx e1, es, n, S dx _ hd e2, r.mono (List.prefix_refl _) im⟩
  · obtain ⟨o, e⟩ := W.Mdom b q.1; exact ⟨o, S b o q.2 e⟩
  · obtain ⟨e1, e2⟩ := W.base b o e
    exact im b o e1 e2
theorem Fs.extD (F : Fs c nm env h₀ oa g h loc) {I : Addr} {o : Obj} (e : h.get? I = some o) (d : plainD o = true) (nl : ∀ xs n, o.data ≠ .seq xs n) (M : g.M I) (S : Heap.ExtBut I h h') : Fs c nm env h₀ oa (g.sub I) h' loc := by
  obtain ⟨m, hm⟩ := F.ns
  have hL : env.locals ≠ I := ns_ne_plain hm e d
  have reach : ∀ z u, Reach g env h z u → Reach (g.sub I) env h' z u := fun z u r => by
    cases r with
    | loc m2 k2 n2 d2 e2 => exact .loc m2 k2 (ns_at n2 fun o ho => S _ _ hL ho) d2 e2
    | cell b k2 l2 d2 e2 => exact .cell b k2 l2 d2 (cell_at e2 fun o ho => S _ _ (cell_ne_plain e2 e d) ho)
  refine ⟨F.eo, F.nd, F.len, fun i x lv hx hl => ?_, ⟨m, ns_at hm fun o ho => S _ _ hL ho⟩, ⟨F.LM, hL⟩, F.Lδ, F.L0, fun x hx => ?_, F.cinj, F.oinj⟩
  · cases F.slots i x lv hx hl with
    | unset => exact .unset
    | v r q => exact .v (reach _ _ r) (q.ext M S).unmark
    | own r e1 m d' n q =>
      have hne : oa i ≠ I := fun z => by rw [z, e] at e1; cases e1; exact nl _ _ rfl
      exact .own (reach _ _ r) (S _ _ hne e1) ⟨m, hne⟩ d' n (q.ext M S).unmark
    | dct r e1 m d' n z l q => exact .dct (reach _ _ r) (S _ _ (q.ne e1 e (plain_nd d)) e1) ⟨m, q.ne e1 e (plain_nd d)⟩ d' n z l (q.ext M S).unmark
  · rcases F.kinds x hx with k | ⟨k, a, v, l, ce, Ma, da, na⟩
    · exact .inl k
    · exact .inr ⟨k, a, v, l, cell_at ce fun o ho => S _ _ (cell_ne_plain ce e d) ho, ⟨Ma, cell_ne_plain ce e d⟩, da, na⟩
end

section
variable {c : Cn} {nm : Nm} {n : Nat} {loc loc₁ loc₂ : List LV} {st st₁ st₂ st₃ : List Inst} {fl : Fl}
/-- for -/
inductive FEv (c : Cn) (nm : Nm) (n : Nat) (i : Nat) (body : List S) : List V → List LV → List Inst → Fl → List LV → List Inst → Prop where
  | nil {loc : List LV} {st : List Inst} : FEv c nm n i body [] loc st .next loc st
  | cons {x : V} {xs : List V} {loc loc₁ loc₂ : List LV} {st st₁ st₂ : List Inst} {fl : Fl} : SS c nm n body (loc.set i (.v x)) st .next loc₁ st₁ → FEv c nm n i body xs loc₁ st₁ fl loc₂ st₂ → FEv c nm n i body (x :: xs) loc st fl loc₂ st₂
  | ret {x : V} {xs : List V} {loc loc₁ : List LV} {st st₁ : List Inst} {v : V} : SS c nm n body (loc.set i (.v x)) st (.ret v) loc₁ st₁ → FEv c nm n i body (x :: xs) loc st (.ret v) loc₁ st₁
theorem py_folded (e : E) (env : Env) (x : Value) : foldedSetIterable e.py env x = pure x := by cases e <;> rfl
theorem fields_plain {o : Obj} {vs : Array Value} (d : o.data = .fields vs) : plainD o = true := by unfold plainD; rw [d]
theorem sx_for {i : Nat} {x : Str} {q p : Ps} {it : E} {body : List S} {xs : List V} (hx : nm.ns[i]? = some x) (hi : SI c nm n it loc st xs st₁) (h : FEv c nm n i body xs loc st₁ fl loc₂ st₂) : SX c nm n (.For (.Name x q) it.py (Ss.py body) [] p) loc st fl loc₂ st₂ := fun A env g₀ h₀ oa g s Q Ex r G W F P => by
  refine wpAny_For (hi A env g s _ Ex r F.eo W F.le fun I hS tS gS fp P' Stt GS WS nI ok => ?_) (py_folded it env)
  have FS := F.gro W GS
  have nI0 := G.none nI
  refine codeAny_forLoop (fun k s' => ∃ j loc st h' tk' g' oa', s' = { s with heap := h', toks := tk' } ∧ j ≤ xs.length ∧ k = xs.length + 1 - j ∧ FEv c nm n i body (xs.drop j) loc st fl loc₂ st₂ ∧ Gro g₀ h₀ g' h' ∧ Wd c g' st h' ∧ Fs c nm env h₀ oa' g' h' loc ∧ Stt j h' ∧ g'.M I ∧ I ∉ g'.δ ∧ gS.ρ <+: g'.ρ ∧
    (∀ b o, hS.get? b = some o → ¬ gS.M b → h'.get? b = some o ∧ ¬ g'.M b)) (fun k s' I' => ?_) (xs.length + 1) ⟨0, loc, st₁, hS, tS, gS, oa, rfl, Nat.zero_le _, rfl, h, G.trans GS, WS, FS, ok.st, ok.M, ok.dδ, List.prefix_refl _, fun b o e m => ⟨e, m⟩⟩ (fun _ => rfl)
  obtain ⟨j, loc, st, h', tk', g', oa', rfl, hj, rfl, ev, G', W', F', S', M', d', ρ', im⟩ := I'
  obtain ⟨oI, vI, eI, dI⟩ := ok.dat _ _ S'
  have pI := fields_plain dI
  have nl : ∀ ys n, oI.data ≠ .seq ys n := fun ys n q => by rw [dI] at q; cases q
  by_cases hlt : j < xs.length
  · refine ok.W.item j _ _ _ hlt S' fun v h₁ t₁ hv S₁ k₁ => ?_
    have X₁ : Heap.ExtBut I h' h₁ := fun b o nb e => k₁ b o (by simpa using nb) e
    obtain ⟨o₁, v₁, e₁, d₁⟩ := ok.dat _ _ S₁
    have W₁ := W'.ext M' d' X₁ ⟨_, e₁⟩
    have F₁ := F'.iter eI pI nl M' X₁
    have G₁ := G'.ext nI0 X₁
    obtain ⟨y, hy, R⟩ := ok.val j v hlt hv
    have im₁ : ∀ b o, hS.get? b = some o → ¬ gS.M b → h₁.get? b = some o ∧ ¬ g'.M b := fun b o e m => ⟨X₁ b o (fun q => (im b o e m).2 (q ▸ M')) (im b o e m).1, (im b o e m).2⟩
    have R₁ := R.mono ρ' im₁
    have hdrop : xs.drop j = y :: xs.drop (j + 1) := by
      rw [List.drop_eq_getElem_cons hlt]
      rw [List.getElem?_eq_getElem hlt] at hy; cases hy; rfl
    rw [hdrop] at ev
    refine wpAny_assign_Name (F₁.storeU (s := { s with heap := h₁, toks := t₁ }) W₁ G₁ hx fun h₂ t₂ G₂ W₂ F₂ rc kf ki _ => ?_)
    have R₂ := R₁.mono (g' := g') (h' := h₂) (List.prefix_refl _) fun b o e m => ⟨ki b o e m, m⟩
    have F₃ := F₂.slot (a := oa' i) hx (.v rc R₂) (fun q => by cases q)
    have e1 : lput i (oa' i) oa' = oa' := by funext z; unfold lput; split <;> simp_all
    rw [e1, List.set_set] at F₃
    have e₂ := kf _ _ e₁ (fields_plain d₁)
    have n0 := fun b (hb : b ∈ fmut env nm.ns oa' (loc.set i (.v y))) => F₃.fmut0 hb
    have im₂ : ∀ b o, hS.get? b = some o → ¬ gS.M b → h₂.get? b = some o ∧ ¬ g'.M b := fun b o e m => ⟨ki b o (im₁ b o e m).1 (im₁ b o e m).2, (im₁ b o e m).2⟩
    have S₂ : Stt (j + 1) h₂ := ok.W.frame _ _ _ S₁ fun b hb o e => by
      by_cases q : b = I
      · subst q; rw [e₁] at e; cases e; exact e₂
      · obtain ⟨nm', o', e'⟩ := ok.fp b hb q
        have := (im₁ b o' e' nm').1
        rw [e] at this; cases this
        exact (im₂ b o e' nm').1
    have notin : I ∉ fmut env nm.ns oa' (loc.set i (.v y)) := by
      intro hb
      rcases List.mem_append.mp hb with hb | hb
      · rcases List.mem_cons.mp hb with rfl | hb
        · obtain ⟨m, hm⟩ := F₃.ns; exact ns_ne_plain hm e₂ (fields_plain d₁) rfl
        · obtain ⟨z, hz, ez⟩ := List.mem_filterMap.mp hb
          split at ez
          · rename_i kc
            rcases F₃.kinds z hz with k | ⟨k, a, v, l, ce, Ma, da, na⟩
            · rw [kc] at k; cases k
            · rw [ez] at l; cases l; exact cell_ne_plain ce e₂ (fields_plain d₁) rfl
          · cases ez
      · obtain ⟨z, hz, ez⟩ := List.mem_filterMap.mp hb
        split at ez
        · rename_i ys hl
          cases ez
          have hl' : (loc.set i (.v y))[z]? = some (.own ys) := hl
          have hz' : z < nm.ns.length := by rw [← F₃.len]; exact List.mem_range.mp hz
          cases F₃.slots z _ _ (List.getElem?_eq_getElem hz') hl' with
          | own r e3 m d n q => rw [e₂] at e3; cases e3; cases d₁
        · rename_i f k hl
          cases ez
          have hl' : (loc.set i (.v y))[z]? = some (.dct f k) := hl
          have hz' : z < nm.ns.length := by rw [← F₃.len]; exact List.mem_range.mp hz
          cases F₃.slots z _ _ (List.getElem?_eq_getElem hz') hl' with
          | dct r e3 m d n z l q => exact q.ne e3 e₂ (plain_nd (fields_plain d₁)) rfl
        · cases ez
    have after : ∀ (f : Flow) (h₃ : Heap) (t₃ : Nat) (g₃ : Gh) (oa₃ : Nat → Addr) (loc₃ : List LV) (st₃ : List Inst), Gro g' (hideAll h₂ (fmut env nm.ns oa' (loc.set i (.v y)))) g₃ h₃ → Wd c g₃ st₃ h₃ → Fs c nm env (hideAll h₂ (fmut env nm.ns oa' (loc.set i (.v y)))) oa₃ g₃ h₃ loc₃ →
        Gro g₀ h₀ g₃ h₃ ∧ Fs c nm env h₀ oa₃ g₃ h₃ loc₃ ∧ Stt (j + 1) h₃ ∧ g₃.M I ∧ I ∉ g₃.δ ∧ gS.ρ <+: g₃.ρ ∧ (∀ b o, hS.get? b = some o → ¬ gS.M b → h₃.get? b = some o ∧ ¬ g₃.M b) := by
      intro f h₃ t₃ g₃ oa₃ loc₃ st₃ G₃ W₃ F₄
      have eI₃ := hideAll_get _ e₂ notin
      have im₃ : ∀ b o, hS.get? b = some o → ¬ gS.M b → h₃.get? b = some o ∧ ¬ g₃.M b := fun b o e m => by
        obtain ⟨a1, a2⟩ := im₂ b o e m
        have hin : (hideAll h₂ (fmut env nm.ns oa' (loc.set i (.v y)))).get? b = some o := hideAll_get _ a1 fun q => a2 (by
          rcases List.mem_append.mp q with q | q
          · rcases List.mem_cons.mp q with rfl | q
            · exact F₃.LM
            · obtain ⟨z, hz, ez⟩ := List.mem_filterMap.mp q
              split at ez
              · rename_i kc
                rcases F₃.kinds z hz with k | ⟨k, a, v, l, ce, Ma, da, na⟩
                · rw [kc] at k; cases k
                · rw [ez] at l; cases l; exact Ma
              · cases ez
          · obtain ⟨z, hz, ez⟩ := List.mem_filterMap.mp q
            split at ez
            · rename_i ys hl
              cases ez
              have hl' : (loc.set i (.v y))[z]? = some (.own ys) := hl
              have hz' : z < nm.ns.length := by rw [← F₃.len]; exact List.mem_range.mp hz
              cases F₃.slots z _ _ (List.getElem?_eq_getElem hz') hl' with
              | own r e3 m d n q => exact m
            · rename_i f k hl
              cases ez
              have hl' : (loc.set i (.v y))[z]? = some (.dct f k) := hl
              have hz' : z < nm.ns.length := by rw [← F₃.len]; exact List.mem_range.mp hz
              cases F₃.slots z _ _ (List.getElem?_eq_getElem hz') hl' with
              | dct r e3 m d n z l q => exact m
            · cases ez)
        exact ⟨G₃.keep b o hin fun q => a2 (W₂.Mδ b q), fun q => a2 ((G₃.M b o hin).mp q)⟩
      refine ⟨G₂.back n0 G₃, F₃.back G₂ n0 F₄, ok.W.frame _ _ _ S₂ fun b hb o e => ?_, (G₃.M _ _ eI₃).mpr M', fun q => d' (G₃.new _ _ eI₃ q), ρ'.trans G₃.ρ, im₃⟩
      by_cases q : b = I
      · subst q
        rw [e₂] at e; cases e
        exact G₃.keep _ _ eI₃ d'
      · obtain ⟨nm', o', e'⟩ := ok.fp b hb q
        have := (im₂ b o' e' nm').1
        rw [e] at this; cases this
        exact (im₃ b o e' nm').1
    cases ev with
    | cons hb ev =>
      refine hb _ env g' _ oa' g' { s with heap := h₂, toks := t₂ } _ _ r (Gro.hide g' h₂ _) W₂ F₃.rebase fun f h₃ t₃ g₃ oa₃ G₃ W₃ F₄ fr => ?_
      obtain ⟨a1, a2, a3, a4, a5, a6, a7⟩ := after f h₃ t₃ g₃ oa₃ _ _ G₃ W₃ F₄
      cases fr with
      | next => exact ⟨xs.length + 1 - (j + 1), by omega, j + 1, _, _, h₃, t₃, g₃, oa₃, rfl, hlt, rfl, ev, a1, W₃, a2, a3, a4, a5, a6, a7⟩
    | ret hb =>
      refine hb _ env g' _ oa' g' { s with heap := h₂, toks := t₂ } _ _ r (Gro.hide g' h₂ _) W₂ F₃.rebase fun f h₃ t₃ g₃ oa₃ G₃ W₃ F₄ fr => ?_
      obtain ⟨a1, a2, a3, a4, a5, a6, a7⟩ := after f h₃ t₃ g₃ oa₃ _ _ G₃ W₃ F₄
      cases fr with
      | ret Rv =>
        obtain ⟨o3, v3, e3, d3⟩ := ok.dat _ _ a3
        exact P _ h₃ t₃ (g₃.sub I) oa₃ (a1.unmark nI0) (W₃.unmark a5) (a2.unmark e3 (fields_plain d3) fun ys n q => by rw [d3] at q; cases q) (.ret Rv.unmark)
  · have hjl : j = xs.length := by omega
    subst hjl
    rw [List.drop_length] at ev
    cases ev
    refine ok.W.done _ _ _ S' fun h₁ t₁ k₁ => ?_
    have X₁ : Heap.ExtBut I h' h₁ := fun b o nb e => k₁ b o (by simpa using nb) e
    exact wpAny_execs_nil (P .next h₁ t₁ (g'.sub I) oa' ((G'.ext nI0 X₁).unmark nI0) (W'.extD M' d' X₁) (F'.extD eI pI nl M' X₁) .next)
end
end Mine

namespace Mine
open PySem PySem.W PySem.Calls PyProof.Rows

def closOf (env : Env) : List (Str × NameKind) → List (Str × Addr) → List (Str × Addr)
  | [], cs => cs
  | (n, k) :: r, cs => closOf env r (if k == .free then (match env.cells.lookup n with | some a => (n, a) :: cs | none => cs) else cs)
theorem closureFor_of {env : Env} {sc : Scope} (h : ∀ y ∈ sc.names, y.2 = .free → (env.cells.lookup y.1).isSome = true) : closureFor sc env = pure (closOf env sc.names []) := by
  have go : ∀ (l : List (Str × NameKind)) (cs : List (Str × Addr)), (∀ y ∈ l, y.2 = .free → (env.cells.lookup y.1).isSome = true) →
      (forIn l cs fun (x : Str × NameKind) (r : List (Str × Addr)) => (if (x.2 == NameKind.free) = true then do let c ← cellOf env x.1; pure (ForInStep.yield ((x.1, c) :: r)) else pure (ForInStep.yield r) : Sem (ForInStep (List (Str × Addr))))) = pure (closOf env l cs) := by
    intro l
    induction l with
    | nil => intro cs _; rfl
    | cons y l ih =>
      intro cs hl
      rw [List.forIn_cons]
      obtain ⟨n, k⟩ := y
      by_cases hk : (k == NameKind.free) = true
      · have hs := hl (n, k) (.head _) (by simpa using hk)
        obtain ⟨a, ha⟩ := Option.isSome_iff_exists.mp hs
        have hc : cellOf env n = pure a := by unfold cellOf; dsimp only at ha; rw [ha]
        simp only [hk, if_true, hc, pure_bind]
        rw [ih _ fun y hy => hl y (.tail _ hy)]
        show _ = pure (closOf env l (if (k == NameKind.free) = true then (match env.cells.lookup n with | some a => (n, a) :: cs | none => cs) else cs))
        rw [if_pos hk, ha]
      · simp only [hk, if_false, pure_bind, Bool.false_eq_true]
        rw [ih _ fun y hy => hl y (.tail _ hy)]
        rw [closOf, if_neg hk]
  unfold closureFor
  have := go sc.names [] h
  simpa using this
theorem closOf_lookup {env : Env} {x : Str} {a : Addr} (ha : env.cells.lookup x = some a) : ∀ (l : List (Str × NameKind)) (cs : List (Str × Addr)), ((x, NameKind.free) ∈ l ∨ cs.lookup x = some a) → (cs.lookup x = none ∨ cs.lookup x = some a) → (closOf env l cs).lookup x = some a
  | [], cs, h, _ => h.elim (fun q => nomatch q) id
  | (n, k) :: l, cs, h, h2 => by
    unfold closOf
    by_cases hk : (k == NameKind.free) = true
    · rw [if_pos hk]
      by_cases hn : x = n
      · subst hn
        rw [ha]
        have e1 : ((x, a) :: cs).lookup x = some a := by simp
        exact closOf_lookup ha l _ (.inr e1) (.inr e1)
      · have keep : ∀ cs', (cs' = cs ∨ ∃ b, cs' = (n, b) :: cs) → cs'.lookup x = cs.lookup x := by
          rintro cs' (rfl | ⟨b, rfl⟩)
          · rfl
          · have hb : (x == n) = false := by simpa using hn
            rw [List.lookup_cons, hb]
        have hcs : ∃ cs', (match env.cells.lookup n with | some a => (n, a) :: cs | none => cs) = cs' ∧ (cs' = cs ∨ ∃ b, cs' = (n, b) :: cs) := by
          cases env.cells.lookup n with
          | none => exact ⟨_, rfl, .inl rfl⟩
          | some b => exact ⟨_, rfl, .inr ⟨b, rfl⟩⟩
        obtain ⟨cs', e, q⟩ := hcs
        rw [e]
        refine closOf_lookup ha l cs' ?_ ?_
        · rcases h with h | h
          · rcases List.mem_cons.mp h with h | h
            · cases h; exact absurd rfl hn
            · exact .inl h
          · exact .inr ((keep cs' q).trans h)
        · rw [keep cs' q]; exact h2
    · rw [if_neg hk]
      refine closOf_lookup ha l cs ?_ h2
      rcases h with h | h
      · rcases List.mem_cons.mp h with h | h
        · cases h; exact absurd rfl hk
        · exact .inl h
      · exact .inr h

/-- a comprehension's own block -/
structure CompOk (nm nm' : Nm) (sc : Scope) (x : Str) (caps : List Nat) (cn : List Str) : Prop where
  kind : sc.kind = .function
  hx : sc.names.lookup x = some .local
  nocell : ∀ y ∈ sc.names, y.2 ≠ .cell
  locs : ∀ y ∈ sc.names, y.2 = .local → sc.names.lookup y.1 = some .local
  frees : ∀ y ∈ sc.names, y.2 = .free → y.1 ∈ cn
  caps : caps.map (fun j => nm.ns[j]?) = cn.map some
  cells : ∀ y ∈ cn, y ∈ nm.cs
  isfree : ∀ y ∈ cn, sc.names.lookup y = some .free
  ns : nm'.ns = x :: cn
  gs : ∀ y ∈ nm'.gs, sc.names.lookup y = some .globalImplicit
  cs : nm'.cs = []
  ls : nm'.ls = []
theorem lookup_mem {x : Str} {k : NameKind} : ∀ {l : List (Str × NameKind)}, l.lookup x = some k → (x, k) ∈ l
  | [], h => by cases h
  | (n, k') :: l, h => by
    rw [List.lookup_cons] at h
    split at h
    · rename_i q; cases h; rw [eq_of_beq q]; exact .head _
    · exact .tail _ (lookup_mem h)
theorem relabel_other {sc : Scope} {env : Env} {x : Str} {k : NameKind} (hk : k ≠ .free) (h : sc.names.lookup x = some k) : (relabel sc env).names.lookup x = some k := by
  unfold relabel
  dsimp only
  generalize sc.names = l at h ⊢
  induction l with
  | nil => cases h
  | cons y l ih =>
    obtain ⟨n, k'⟩ := y
    rw [List.lookup_cons] at h
    rw [List.map_cons]
    dsimp only
    split at h
    · rename_i q
      cases h
      rw [if_neg (by simp [hk]), List.lookup_cons, q]
    · rename_i q
      by_cases hc : (k' == NameKind.free && env.scope.kind == .function && env.kindOf n == some .cell) = true
      · rw [if_pos hc, List.lookup_cons, q]; exact ih h
      · rw [if_neg hc, List.lookup_cons, q]; exact ih h
theorem relabel_free {sc : Scope} {env : Env} {x : Str} (hk : env.scope.kind = .function) (hc : env.kindOf x = some .cell) (h : sc.names.lookup x = some .free) : (relabel sc env).names.lookup x = some .cell := by
  unfold relabel
  dsimp only
  generalize sc.names = l at h ⊢
  induction l with
  | nil => cases h
  | cons y l ih =>
    obtain ⟨n, k'⟩ := y
    rw [List.lookup_cons] at h
    rw [List.map_cons]
    dsimp only
    split at h
    · rename_i q
      cases h
      have : x = n := eq_of_beq q
      subst this
      rw [if_pos (by rw [hk, hc]; rfl), List.lookup_cons, q]
    · rename_i q
      by_cases hc : (k' == NameKind.free && env.scope.kind == .function && env.kindOf n == some .cell) = true
      · rw [if_pos hc, List.lookup_cons, q]; exact ih h
      · rw [if_neg hc, List.lookup_cons, q]; exact ih h

inductive CEv (c : Cn) (nm : Nm) (n : Nat) (elt : E) (cv : List LV) : List V → List Inst → List V → List Inst → Prop where
  | nil {st : List Inst} : CEv c nm n elt cv [] st [] st
  | cons {x y : V} {xs ys : List V} {st st₁ st₂ : List Inst} : SE c nm n elt (.v x :: cv) st y st₁ → CEv c nm n elt cv xs st₁ ys st₂ → CEv c nm n elt cv (x :: xs) st (y :: ys) st₂
theorem CEv.len {c : Cn} {nm : Nm} {n : Nat} {elt : E} {cv : List LV} {xs ys : List V} {st st' : List Inst} (h : CEv c nm n elt cv xs st ys st') : ys.length = xs.length := by
  induction h with
  | nil => rfl
  | cons _ _ ih => rw [List.length_cons, List.length_cons, ih]
def capV (loc : List LV) (caps : List Nat) : List LV := caps.map fun j => (loc[j]?).getD .unset

section
variable {c : Cn} {nm nm' : Nm} {n : Nat} {loc loc₁ loc₂ : List LV} {st st₁ st₂ st₃ : List Inst} {fl : Fl}
/-- the names of the block's own -/
theorem le_comp {env : Env} {g g' : Gh} {h h' : Heap} {sc : Scope} {x : Str} {caps : List Nat} {cn : List Str} {C : Addr} {m : Str → Option Value} {y : V} {w : Value} (ok : CompOk nm nm' sc x caps cn) (eo : EnvOk nm env) (W : Wd c g st h) (L : Le c env nm.ns g h loc) (hcap : ∀ j ∈ caps, ∃ v, loc[j]? = some (.v v)) (G : Gro g h g' h') (hC : h'.Ns C m) (dC : C ∉ g'.δ) (hm : m x = some w) (R : RV c g' h' y w) :
    Le c (compEnvC sc (closOf env sc.names []) C env) nm'.ns g' h' (.v y :: capV loc caps) := by
  intro i z lv hz hl
  rw [ok.ns] at hz
  cases i with
  | zero =>
    cases hz; cases hl
    exact .v (.loc m (relabel_other (by decide) ok.hx) hC dC hm) R
  | succ i =>
    have hz' : cn[i]? = some z := hz
    have hl' : (capV loc caps)[i]? = some lv := hl
    unfold capV at hl'
    rw [List.getElem?_map] at hl'
    obtain ⟨j, hj, rfl⟩ := Option.map_eq_some_iff.mp hl'
    have hjn : nm.ns[j]? = some z := by
      have e := congrArg (fun l => l[i]?) ok.caps
      try dsimp only at e
      rw [List.getElem?_map, List.getElem?_map, hj, hz'] at e
      simpa using e
    obtain ⟨v, hv⟩ := hcap j (List.mem_of_getElem? hj)
    rw [hv]
    have zc := ok.cells z (List.mem_of_getElem? hz')
    cases L j z _ hjn hv with
    | v r q =>
      have r' := r.gro G
      cases r' with
      | loc m2 k2 n2 d2 e2 => have := eo.cs z zc; rw [k2] at this; cases this
      | cell b k2 l2 d2 e2 =>
        refine .v (.cell b (relabel_free eo.kind k2 (ok.isfree z (List.mem_of_getElem? hz'))) ?_ d2 e2) (q.gro W G)
        exact closOf_lookup l2 _ _ (.inl (lookup_mem (ok.isfree z (List.mem_of_getElem? hz')))) (.inl rfl)
theorem clos_ok {env : Env} {g : Gh} {h : Heap} {sc : Scope} {x : Str} {caps : List Nat} {cn : List Str} (ok : CompOk nm nm' sc x caps cn) (eo : EnvOk nm env) (L : Le c env nm.ns g h loc) (hcap : ∀ j ∈ caps, ∃ v, loc[j]? = some (.v v)) : closureFor sc env = pure (closOf env sc.names []) := by
  refine closureFor_of fun y hy hf => ?_
  obtain ⟨i, hi⟩ := List.getElem?_of_mem (ok.frees y hy hf)
  have e := congrArg (fun l => l[i]?) ok.caps
  try dsimp only at e
  rw [List.getElem?_map, List.getElem?_map, hi] at e
  obtain ⟨j, hj, hjn⟩ := Option.map_eq_some_iff.mp e
  obtain ⟨v, hv⟩ := hcap j (List.mem_of_getElem? hj)
  cases L j _ _ hjn hv with
  | v r q =>
    cases r with
    | loc m2 k2 n2 d2 e2 => have := eo.cs _ (ok.cells _ (ok.frees y hy hf)); rw [k2] at this; cases this
    | cell b k2 l2 d2 e2 => rw [l2]; rfl

/-- the block's run; what stands behind it is told by K -/
theorem comp_core {elt it : E} {sc : Scope} {x : Str} {q p : Ps} {caps : List Nat} {cn : List Str} {A : Around} {env : Env} {g gS : Gh} {s : Shared} {hS : Heap} {tS : Nat} {I : Addr} {fp : List Addr} {P' : Nat → Value → Prop} {Stt : Nat → Heap → Prop} {xs ys : List V} {Ex : Value → Shared → Prop}
    {RR : Value → Addr → Result → Shared → Prop}
    (ok : CompOk nm nm' sc x caps cn) (r : Room n A) (eo : EnvOk nm env) (W : Wd c g st s.heap) (L : Le c env nm.ns g s.heap loc) (hcap : ∀ j ∈ caps, ∃ v, loc[j]? = some (.v v)) (GS : Gro g s.heap gS hS) (WS : Wd c gS st₁ hS) (nI : s.heap.get? I = none) (iok : ItOk c A gS hS I xs fp P' Stt)
    (ev : CEv c nm' n elt (capV loc caps) xs st₁ ys st₂)
    (K : ∀ D C h' tk' g' m', Gro g s.heap g' h' → Wd c g' st₂ h' → RV c g' h' (.list ys) (.ref D) → h'.Ns C m' → g'.M C → C ∉ g'.δ → s.heap.get? C = none → D ≠ C → RR (.ref D) C (.ok .next) { s with heap := h', toks := tk' }) :
    wpAny c.M A (newList []) (fun acc s₃ => wpAny c.M A (newFunctionEnv sc env.globals (closOf env sc.names []) [] env.qual none .none (some env)) (fun cenv s₄ =>
      codeAny c.M A (.compStart (.ListComp elt.py [⟨.Name x q, it.py, [], 0⟩] sc p) 0 (.ref I) acc { cenv with scope := relabel sc env }) (RR acc cenv.locals) s₄) Ex s₃) Ex { s with heap := hS, toks := tS } := by
  have hD0 := get_size hS
  refine wpAny_newObj_type ?_ (by show ([] : List Value).toArray.size ≤ sizeLine; decide)
  have hDn := Heap.get?_push_size hS (o := { cls := .type "list", data := .seq ([] : List Value).toArray }) rfl
  generalize hH : hS.push { cls := .type "list", dict := none, data := .seq ([] : List Value).toArray } = H at hDn
  have kH : ∀ b o, hS.get? b = some o → H.get? b = some o := fun b o e => hH ▸ Heap.get?_push_of_some _ e
  refine wpAny_newFunctionEnv ok.nocell (fun y hy => nomatch hy) (fun h₁ hns hsb => ?_) ok.kind
  dsimp only at hns hsb ⊢
  have hC0 := get_size H
  have k1 : ∀ b o, H.get? b = some o → h₁.get? b = some o := fun b o e => hsb.extBut b o (Nat.ne_of_lt (Heap.lt_size e)) (Heap.get?_push_of_some _ e)
  have hDC : hS.objs.size ≠ H.objs.size := fun e => by rw [e, hC0] at hDn; cases hDn
  have hC0S : hS.get? H.objs.size = none := by
    cases e : hS.get? H.objs.size with
    | none => rfl
    | some o => rw [kH _ _ e] at hC0; cases hC0
  -- the marks
  have G₁ : Gro gS hS ((gS.add hS.objs.size).add H.objs.size) h₁ := (Gro.mark gS hD0 kH).trans (Gro.mark _ hC0 k1)
  have W₁ : Wd c ((gS.add hS.objs.size).add H.objs.size) st₁ h₁ := (WS.mark hD0 kH ⟨_, hDn⟩).mark hC0 k1 (let ⟨o, _, _, e, _⟩ := hns; ⟨o, e⟩)
  obtain ⟨oI, vI, eI, dI⟩ := iok.dat _ _ iok.st
  have hID : I ≠ hS.objs.size := Nat.ne_of_lt (Heap.lt_size eI)
  have hIC : I ≠ H.objs.size := fun e => by rw [e, hC0S] at eI; cases eI
  have nδ : ∀ a, hS.get? a = none → a ∉ gS.δ := fun a ha q => by obtain ⟨o, e⟩ := WS.Mdom _ (WS.Mδ _ q); rw [ha] at e; cases e
  have n0 : ∀ a, hS.get? a = none → s.heap.get? a = none := fun a ha => GS.none ha
  have loop : codeAny c.M A (.compLoop (.ListComp elt.py [⟨.Name x q, it.py, [], 0⟩] sc p) 0 (.ref I) (.ref hS.objs.size) (compEnvC sc (closOf env sc.names []) H.objs.size env)) (RR (.ref hS.objs.size) H.objs.size) { s with heap := h₁, toks := tS } := by
    refine codeAny_compLoop_tests (fun k s' => ∃ j st ws h' tk' g' m', s' = { s with heap := h', toks := tk' } ∧ j ≤ xs.length ∧ k = xs.length + 1 - j ∧ CEv c nm' n elt (capV loc caps) (xs.drop j) st (ys.drop j) st₂ ∧ Gro g s.heap g' h' ∧ Wd c g' st h' ∧ Stt j h' ∧ g'.M I ∧ I ∉ g'.δ ∧ g'.M hS.objs.size ∧ hS.objs.size ∉ g'.δ ∧ g'.M H.objs.size ∧ H.objs.size ∉ g'.δ ∧
      h'.Ns H.objs.size m' ∧ h'.PlainList hS.objs.size (List.toArray ws) ∧ RVs c g' h' (ys.take j) ws ∧ gS.ρ <+: g'.ρ ∧ (∀ b o, hS.get? b = some o → ¬ gS.M b → h'.get? b = some o ∧ ¬ g'.M b)) (fun k s' I' => ?_) (xs.length + 1)
      ⟨0, st₁, [], h₁, tS, _, _, rfl, Nat.zero_le _, rfl, ev, GS.trans G₁, W₁, ?_, .inl (.inl iok.M), iok.dδ, .inl (.inr rfl), nδ _ hD0, .inr rfl, nδ _ hC0S, hns, ⟨_, k1 _ _ hDn⟩, .nil, List.prefix_refl _, fun b o e m => ⟨k1 _ _ (kH _ _ e), fun q => ?_⟩⟩ (fun _ => rfl)
    · obtain ⟨j, st, ws, h', tk', g', m', rfl, hj, rfl, ev, G', W', S', MI, dI', MD, dD, MC, dC, hns', hpl, RW, ρ', im⟩ := I'
      obtain ⟨oI, vI, eI, dI⟩ := iok.dat _ _ S'
      have hyl := ev.len
      rw [List.length_drop, List.length_drop] at hyl
      by_cases hlt : j < xs.length
      · refine iok.W.item j _ _ _ hlt S' fun v h₂ t₂ hv S₂ k₂ => ?_
        have X₂ : Heap.ExtBut I h' h₂ := fun b o nb e => k₂ b o (by simpa using nb) e
        obtain ⟨o₂, v₂, e₂, d₂⟩ := iok.dat _ _ S₂
        have W₂ := W'.ext MI dI' X₂ ⟨_, e₂⟩
        have G₂ := G'.ext nI X₂
        obtain ⟨y, hy, R⟩ := iok.val j v hlt hv
        have hdrop : xs.drop j = y :: xs.drop (j + 1) := by
          rw [List.drop_eq_getElem_cons hlt]
          rw [List.getElem?_eq_getElem hlt] at hy; cases hy; rfl
        rw [hdrop] at ev
        have hnsC := ns_at hns' fun o ho => X₂ _ o (Ne.symm hIC) ho
        refine wpAny_assign_Name (wpAny_storeName_local (env := compEnvC sc (closOf env sc.names []) H.objs.size env) (s := { s with heap := h₂, toks := t₂ }) (relabel_other (by decide) ok.hx) hnsC (fun h₃ hn₃ S₃ => ?_) (by rw [show (compEnvC sc (closOf env sc.names []) H.objs.size env).scope.kind = .function from ok.kind]; rfl))
        have X₃ := S₃.extBut
        have W₃ := W₂.ext MC dC X₃ (let ⟨o, _, _, e, _⟩ := hn₃; ⟨o, e⟩)
        have G₃ := G₂.ext (n0 _ hC0S) X₃
        have im₃ : ∀ b o, hS.get? b = some o → ¬ gS.M b → h₃.get? b = some o ∧ ¬ g'.M b := fun b o e m => ⟨X₃ b o (fun z => (im b o e m).2 (z ▸ MC)) (X₂ b o (fun z => (im b o e m).2 (z ▸ MI)) (im b o e m).1), (im b o e m).2⟩
        have e₃ : h₃.get? I = some o₂ := X₃ _ _ hIC e₂
        have S₃' : Stt (j + 1) h₃ := iok.W.frame _ _ _ S₂ fun b hb o e => by
          by_cases z : b = I
          · subst z; rw [e₂] at e; cases e; exact e₃
          · obtain ⟨nb, o', e'⟩ := iok.fp b hb z
            have h1 := X₂ b o' z (im b o' e' nb).1
            rw [e] at h1; cases h1
            exact (im₃ b o e' nb).1
        refine wpAny_pure ?_
        rw [if_pos rfl]
        generalize hyd : ys.drop j = yd at ev
        cases ev with
        | cons he ev =>
          rename_i u us st'
          have Le' := le_comp (C := H.objs.size) ok eo W L hcap G₃ hn₃ dC (by simp) (R.mono ρ' im₃)
          have eo' : EnvOk nm' (compEnvC sc (closOf env sc.names []) H.objs.size env) := ⟨fun z hz => (by rw [ok.ls] at hz; cases hz), fun z hz => (by rw [ok.cs] at hz; cases hz), fun z hz => relabel_other (by decide) (ok.gs z hz), ok.kind, eo.gl, eo.bl⟩
          refine he A _ g' { s with heap := h₃, toks := t₂ + 1 } _ _ r eo' W₃ Le' fun w h₄ t₄ g₄ G₄ W₄ R₄ => ?_
          obtain ⟨kk, hpl⟩ := hpl
          have hp₃ : h₃.get? hS.objs.size = some { cls := .type "list", data := .seq ws.toArray kk } := X₃ _ _ hDC (X₂ _ _ (Ne.symm hID) hpl)
          have hp₄ := G₄.keep _ _ hp₃ dD
          have hwl : ws.length = j := by rw [RW.length, List.length_take]; omega
          refine wpAny_list_append_plain (s := { s with heap := h₄, toks := t₄ }) ⟨kk, hp₄⟩ (fun h₅ hp₅ S₅ => ?_) (by rw [List.size_toArray, hwl]; have := iok.size; exact Nat.le_trans (Nat.le_trans (Nat.le_of_lt hlt) this) (by decide))
          have X₅ := S₅.extBut
          have MD₄ := (G₄.M _ _ hp₃).mpr MD
          have dD₄ : hS.objs.size ∉ g₄.δ := fun z => dD (G₄.new _ _ hp₃ z)
          have MI₄ := (G₄.M _ _ e₃).mpr MI
          obtain ⟨oC, esC, epC, eC, rC⟩ := id hn₃
          have e1 : ws.toArray.push w = (ws ++ [w]).toArray := by simp
          rw [e1] at hp₅
          have hyt : ys.take (j + 1) = ys.take j ++ [u] := by
            have hj' : j < ys.length := by omega
            have : ys[j] = u := by
              have := congrArg List.head? hyd
              rw [List.head?_drop, List.getElem?_eq_getElem hj'] at this
              simpa using this
            rw [List.take_succ, List.getElem?_eq_getElem hj', this]; rfl
          have hyd' : ys.drop (j + 1) = us := by
            have := congrArg List.tail hyd
            rw [List.tail_drop] at this
            simpa using this
          have im₅ : ∀ b o, hS.get? b = some o → ¬ gS.M b → h₅.get? b = some o ∧ ¬ g₄.M b := fun b o e m => by
            obtain ⟨a1, a2⟩ := im₃ b o e m
            have b1 := G₄.keep b o a1 (fun z => a2 (W₃.Mδ b z))
            have b2 : ¬ g₄.M b := fun z => a2 ((G₄.M b o a1).mp z)
            exact ⟨X₅ b o (fun z => b2 (z ▸ MD₄)) b1, b2⟩
          have e₅ : h₅.get? I = some o₂ := X₅ _ _ hID (G₄.keep _ _ e₃ dI')
          have S₅' : Stt (j + 1) h₅ := iok.W.frame _ _ _ S₃' fun b hb o e => by
            by_cases z : b = I
            · subst z; rw [e₃] at e; cases e; exact e₅
            · obtain ⟨nb, o', e'⟩ := iok.fp b hb z
              have h1 := (im₃ b o' e' nb).1
              rw [e] at h1; cases h1
              exact (im₅ b o e' nb).1
          obtain ⟨k5, hp5⟩ := hp₅
          refine ⟨xs.length + 1 - (j + 1), by omega, j + 1, _, ws ++ [w], h₅, t₄, g₄, _, rfl, hlt, rfl, by rw [hyd']; exact ev, (G₃.trans G₄).ext (n0 _ hD0) X₅, W₄.ext MD₄ dD₄ X₅ ⟨_, hp5⟩, S₅', MI₄, fun z => dI' (G₄.new _ _ e₃ z), MD₄, dD₄, (G₄.M _ _ eC).mpr MC, fun z => dC (G₄.new _ _ eC z), ns_at (ns_at hn₃ fun o ho => G₄.keep _ _ ho dC) fun o ho => X₅ _ _ (Ne.symm hDC) ho, ⟨k5, hp5⟩, ?_, ρ'.trans G₄.ρ, im₅⟩
          rw [hyt]
          have RW₃ := (RW.ext MI X₂).ext MC X₃
          exact (((RW₃.gro W₃ G₄).append (.cons R₄ .nil))).ext MD₄ X₅
      · have hjl : j = xs.length := by omega
        refine iok.W.done _ _ _ (hjl ▸ S') fun h₂ t₂ k₂ => ?_
        have X₂ : Heap.ExtBut I h' h₂ := fun b o nb e => k₂ b o (by simpa using nb) e
        obtain ⟨kk, hpl⟩ := hpl
        have hp₂ : h₂.get? hS.objs.size = some { cls := .type "list", data := .seq ws.toArray kk } := X₂ _ _ (Ne.symm hID) hpl
        rw [hjl] at ev hyl RW
        rw [List.drop_length] at ev
        have hyn : ys.take xs.length = ys := List.take_of_length_le (by omega)
        rw [hyn] at RW
        generalize hyd : ys.drop xs.length = yd at ev
        cases ev
        have W₂ := (W'.extD MI dI' X₂).unmark (a := hS.objs.size) dD
        refine K _ _ h₂ t₂ ((g'.sub I).sub hS.objs.size) m' (((G'.ext nI X₂).unmark nI).unmark (n0 _ hD0)) W₂ ?_ (ns_at hns' fun o ho => X₂ _ _ (Ne.symm hIC) ho) ⟨⟨MC, Ne.symm hIC⟩, Ne.symm hDC⟩ dC (n0 _ hC0S) hDC
        exact .list hp₂ (fun z => z.2 rfl) ((RW.ext MI X₂).unmark.unmark)
    · refine iok.W.frame _ _ _ iok.st fun b _ o e => k1 _ _ (kH _ _ e)
    · rcases q with (q | q) | q
      · exact m q
      · rw [q, hD0] at e; cases e
      · rw [q, hC0S] at e; cases e
  exact codeAny_compStart_list loop (iok.W.self 0 _ _ _ (iok.W.frame _ _ _ iok.st fun b _ o e => k1 _ _ (kH _ _ e)) loop)
theorem sE_comp {elt it : E} {sc : Scope} {x : Str} {q p : Ps} {caps : List Nat} {cn : List Str} {xs ys : List V} (ok : CompOk nm nm' sc x caps cn) (hcap : ∀ j ∈ caps, ∃ v, loc[j]? = some (.v v)) (hi : SI c nm n it loc st xs st₁) (ev : CEv c nm' n elt (capV loc caps) xs st₁ ys st₂) :
    SE c nm n (.comp elt caps x q it sc p) loc st (.list ys) st₂ := fun A env g s Q Ex r eo W L P => by
  show wpAny _ _ (eval (.ListComp elt.py [⟨.Name x q, it.py, [], 0⟩] sc p) env) Q Ex s
  rw [eval_ListComp]
  refine wpAny_comprehension_free (use := none) rfl (py_folded it env) (clos_ok ok eo L hcap) ok.kind ok.locs (hi A env g s _ Ex r eo W L fun I hS tS gS fp P' Stt GS WS nI iok => ?_)
  refine comp_core (RR := fun acc C => compPost c.M A Ex none Q acc C) ok r eo W L hcap GS WS nI iok ev fun D C h' tk' g' m' G' W' R' hn MC dC nC hDC => ?_
  refine ⟨m', hn, fun h'' S => ?_⟩
  exact P _ h'' tk' (g'.sub C) ((G'.ext nC S.extBut).unmark nC) (W'.extD MC dC S.extBut) (R'.ext MC S.extBut).unmark
end
end Mine

namespace Mine
open PySem PySem.W PySem.Calls PyProof.Rows

section
variable {c : Cn} {nm nm' : Nm} {n : Nat} {loc loc₁ loc₂ : List LV} {st st₁ st₂ st₃ : List Inst} {fl : Fl}

theorem Fs.extC {env : Env} {h₀ h h' : Heap} {oa : Nat → Addr} {g : Gh} (F : Fs c nm env h₀ oa g h loc) {C : Addr} (hL : env.locals ≠ C) (hc : ∀ x a, x ∈ nm.ns → env.cells.lookup x = some a → env.kindOf x = some .cell → a ≠ C) (ho : ∀ i lv, loc[i]? = some lv → isOwn lv = true → oa i ≠ C) (M : g.M C) (S : Heap.ExtBut C h h') : Fs c nm env h₀ oa (g.sub C) h' loc := by
  obtain ⟨m, hm⟩ := F.ns
  have reach : ∀ z u, z ∈ nm.ns → Reach g env h z u → Reach (g.sub C) env h' z u := fun z u hz r => by
    cases r with
    | loc m2 k2 n2 d2 e2 => exact .loc m2 k2 (ns_at n2 fun o ho => S _ _ hL ho) d2 e2
    | cell b k2 l2 d2 e2 => exact .cell b k2 l2 d2 (cell_at e2 fun o ho => S _ _ (hc z b hz l2 k2) ho)
  refine ⟨F.eo, F.nd, F.len, fun i x lv hx hl => ?_, ⟨m, ns_at hm fun o ho => S _ _ hL ho⟩, ⟨F.LM, hL⟩, F.Lδ, F.L0, fun x hx => ?_, F.cinj, F.oinj⟩
  · cases F.slots i x lv hx hl with
    | unset => exact .unset
    | v r q => exact .v (reach _ _ (List.mem_of_getElem? hx) r) (q.ext M S).unmark
    | own r e1 m d' n q => exact .own (reach _ _ (List.mem_of_getElem? hx) r) (S _ _ (ho i _ hl rfl) e1) ⟨m, ho i _ hl rfl⟩ d' n (q.ext M S).unmark
    | dct r e1 m d' n z l q => exact .dct (reach _ _ (List.mem_of_getElem? hx) r) (S _ _ (ho i _ hl rfl) e1) ⟨m, ho i _ hl rfl⟩ d' n z l (q.ext M S).unmark
  · rcases F.kinds x hx with k | ⟨k, a, v, l, ce, Ma, da, na⟩
    · exact .inl k
    · exact .inr ⟨k, a, v, l, cell_at ce fun o ho => S _ _ (hc x a hx l k) ho, ⟨Ma, hc x a hx l k⟩, da, na⟩

/-- x = [e for ..], x a plain local -/
theorem sx_assignC {i : Nat} {y : Str} {py p' : Ps} {elt it : E} {sc : Scope} {x : Str} {q p : Ps} {caps : List Nat} {cn : List Str} {xs ys : List V} (hy : nm.ns[i]? = some y) (hl : y ∈ nm.ls) (hline : (py.line == p.line) = true) (hno : (sc.names.any fun (z : Str × NameKind) => z.1 == y && (z.2 == .local || z.2 == .cell)) = false)
    (ok : CompOk nm nm' sc x caps cn) (hcap : ∀ j ∈ caps, ∃ v, loc[j]? = some (.v v)) (hi : SI c nm n it loc st xs st₁) (ev : CEv c nm' n elt (capV loc caps) xs st₁ ys st₂) :
    SX c nm n (.Assign [.Name y py] (E.comp elt caps x q it sc p).py p') loc st .next (loc.set i (.v (.list ys))) st₂ := fun A env g₀ h₀ oa g s Q Ex r G W F P => by
  have hsw : swapsWith (.ListComp elt.py [⟨.Name x q, it.py, [], 0⟩] sc p) (some (.Name y py)) p'.line env = pure true := by
    show (pure (env.blockKind == .function && env.kindOf y == some .local && py.line == p.line && !(sc.names.any fun (n, k) => n == y && (k == .local || k == .cell))) : Sem Bool) = pure true
    rw [hline, F.eo.ls y hl, hno]
    unfold Env.blockKind
    rw [F.eo.kind]; rfl
  show wpAny _ _ (exec (.Assign [.Name y py] (.ListComp elt.py [⟨.Name x q, it.py, [], 0⟩] sc p) p') env) Q Ex s
  rw [exec_Assign_Name_used _ _ _ _ hsw]
  refine wpAny_bind (wpAny_standAt (wpAny_bind ?_))
  show wpAny _ A (do let _ ← comprehension (.ListComp elt.py [⟨.Name x q, it.py, [], 0⟩] sc p) sc env _ (newList []) false (eval it.py env) (some (assign (.Name y py) env))) _ _ s
  refine wpAny_bind (wpAny_mono (wpAny_comprehension_free (use := some (assign (.Name y py) env)) (Q := fun _ s' => Q .next s') rfl (py_folded it env) (clos_ok ok F.eo F.le hcap) ok.kind ok.locs
    (hi A env g s _ Ex r F.eo W F.le fun I hS tS gS fp P' Stt GS WS nI iok => ?_)) (fun _ s' hq => wpAny_pure (wpAny_pure hq)) fun _ _ e => e)
  refine comp_core (RR := fun acc C => compPost c.M A Ex (some (assign (.Name y py) env)) (fun _ s' => Q .next s') acc C) ok r F.eo W F.le hcap GS WS nI iok ev fun D C h' tk' g' m' G' W' R' hn MC dC nC hDC => ?_
  show wpAny _ A (assign (.Name y py) env (.ref D)) _ _ _
  have F' := F.gro W G'
  obtain ⟨mL, hmL⟩ := F.ns
  obtain ⟨oL, _, _, eL, _⟩ := hmL
  have hLC : env.locals ≠ C := fun z => by rw [z, nC] at eL; cases eL
  refine wpAny_assign_Name (F'.storeU (s := { s with heap := h', toks := tk' }) W' (G.trans G') hy fun h₂ t₂ G₂ W₂ F₂ rc kf ki sb => ?_)
  obtain ⟨b, S₂, hb⟩ := sb
  have cne : ∀ (z : Str) (a : Addr), z ∈ nm.ns → env.cells.lookup z = some a → env.kindOf z = some .cell → a ≠ C := fun z a hz hla hk e => by
    rcases F.kinds z hz with k | ⟨k, a', v, l, ce, Ma, da, na⟩
    · rw [hk] at k; cases k
    · rw [hla] at l; cases l
      obtain ⟨o, ho, _⟩ := ce
      rw [e, nC] at ho; cases ho
  have hbC : C ≠ b := by
    rcases hb with rfl | ⟨z, hz, hk, hla⟩
    · exact Ne.symm hLC
    · exact Ne.symm (cne z b hz hla hk)
  refine ⟨m', ns_at hn fun o ho => (S₂.2 _ hbC).trans ho, fun h₃ S₃ => ?_⟩
  have own : ∀ (j : Nat) (us : LV), (loc.set i .unset)[j]? = some us → isOwn us = true → oa j ≠ C := fun j us hj io e => by
    have hi : i < loc.length := by rw [F.len]; exact (List.getElem?_eq_some_iff.mp hy).1
    by_cases hji : j = i
    · subst hji; rw [List.getElem?_set_self hi] at hj; cases hj; cases io
    · rw [List.getElem?_set_ne (Ne.symm hji)] at hj
      have hjl : j < nm.ns.length := by rw [← F.len]; exact (List.getElem?_eq_some_iff.mp hj).1
      cases F.slots j _ _ (List.getElem?_eq_getElem hjl) hj with
      | own r1 e1 m1 d1 n1 q1 => rw [e, nC] at e1; cases e1
      | dct r1 e1 m1 d1 n1 z1 l1 q1 => rw [e, nC] at e1; cases e1
      | unset => cases io
      | v => cases io
  have F₃ := F₂.extC hLC cne own MC S₃.extBut
  have rc₃ : Reach (g'.sub C) env h₃ y (.ref D) := by
    cases rc with
    | loc m2 k2 n2 d2 e2 => exact .loc m2 k2 (ns_at n2 fun o ho => S₃.extBut _ _ hLC ho) d2 e2
    | cell b k2 l2 d2 e2 => have := F.eo.ls y hl; rw [k2] at this; cases this
  have R₃ : RV c (g'.sub C) h₃ (.list ys) (.ref D) := ((R'.mono (g' := g') (h' := h₂) (List.prefix_refl _) fun b o e m => ⟨ki b o e m, m⟩).ext MC S₃.extBut).unmark
  have F₄ := F₃.slot (a := oa i) hy (.v rc₃ R₃) (fun q => by cases q)
  have e1 : lput i (oa i) oa = oa := by funext z; unfold lput; split <;> simp_all
  rw [e1, List.set_set] at F₄
  exact P .next h₃ t₂ (g'.sub C) oa ((G₂.ext (G.none nC) S₃.extBut).unmark (G.none nC)) (W₂.extD MC dC S₃.extBut) F₄ .next
/-- x = [e for ..], x a cell -/
theorem sx_assignK {i : Nat} {x : Str} {q p : Ps} {e : E} {v : V} (hx : nm.ns[i]? = some x) (hc : x ∈ nm.cs) (he : SE c nm n e loc st v st₁) : SX c nm n (.Assign [.Name x q] e.py p) loc st .next (loc.set i (.v v)) st₁ := fun A env g₀ h₀ oa g s Q Ex r G W F P => by
  have hs : swapsWith e.py (some (.Name x q)) p.line env = pure false := by
    cases e <;> first | rfl | skip
    rename_i elt caps x' q' it sc p'
    show (pure (env.blockKind == .function && env.kindOf x == some .local && q.line == p'.line && !(sc.names.any fun (n, k) => n == x && (k == .local || k == .cell))) : Sem Bool) = pure false
    rw [F.eo.cs x hc]
    congr 1
    simp
  refine wpAny_Assign_Name (he A env g s _ Ex r F.eo W F.le fun w h₁ t₁ g₁ G₁ W₁ R₁ => ?_) hs
  exact (F.gro W G₁).store (s := { s with heap := h₁, toks := t₁ }) W₁ (G.trans G₁) hx R₁ fun h' tk' G' W' F' => P .next h' tk' g₁ oa G' W' F' .next
end

/-- a def whose scope bears cells -/
structure FnAtC (c : Cn) (a : Addr) (d : FnD) (nm : Nm) (np : Nat) (body : List S) : Prop where
  look : c.K.lookup a = some ⟨d.oc, d.od, .func d.fd, d.osl⟩
  code : codeIn c.K d.cdv d.qual = true
  hco : d.scope.isCoroutine = false
  hgen : d.scope.isGenerator = false
  hk : d.scope.kind = .function
  body : d.body = Ss.py body
  binds : ∀ ws : List Value, ws.length = np → bindArgs d.fd ⟨ws, []⟩ = pure ((nm.ns.take np).zip ws)
  nd : nm.ns.Nodup
  np : np ≤ nm.ns.length
  loc : ∀ x ∈ nm.ns, d.scope.names.lookup x = some .local ∨ d.scope.names.lookup x = some .cell
  gs : ∀ x ∈ nm.gs, d.scope.names.lookup x = some .globalImplicit
  cs : ∀ x ∈ nm.cs, d.scope.names.lookup x = some .cell
  ls : ∀ x ∈ nm.ls, d.scope.names.lookup x = some .local
  ndc : ((cellsFrom 0 d.scope.names []).map (·.1)).Nodup
end Mine

namespace Mine
open PySem PySem.W PySem.Calls PyProof.Rows

def Gh.all (g : Gh) (h h' : Heap) : Gh := { g with M := fun b => g.M b ∨ (h.get? b = none ∧ ∃ o, h'.get? b = some o) }
section
variable {c : Cn} {g g₀ : Gh} {h h' h₀ : Heap} {st : List Inst} {a : Addr}
theorem Gro.all (g : Gh) (k : ∀ b o, h.get? b = some o → h'.get? b = some o) : Gro g h (g.all h h') h' :=
  ⟨List.prefix_refl _, List.prefix_refl _, fun b o e _ => k b o e, fun b o e => ⟨o, k b o e⟩, fun b o e => ⟨fun q => q.elim id fun q => (by rw [q.1] at e; cases e), .inl⟩, fun _ _ _ q => q⟩
theorem Wd.all (W : Wd c g st h) (k : ∀ b o, h.get? b = some o → h'.get? b = some o) : Wd c (g.all h h') st h' := by
  have ne : ∀ b o, h.get? b = some o → ¬ (h.get? b = none ∧ ∃ o, h'.get? b = some o) := fun b o e q => by rw [q.1] at e; cases e
  refine ⟨W.lenρ, W.lenδ, fun k' i x dx h1 h2 h3 => ?_, W.ndδ, W.ndρ, fun d hd => .inl (W.Mδ d hd), fun x hx q => ?_, fun b q => ?_, fun b o e => ?_⟩
  · obtain ⟨e1, es, n, e2, r⟩ := W.inst k' i x dx h1 h2 h3
    exact ⟨k _ _ e1, es, n, k _ _ e2, r.mono (List.prefix_refl _) fun b o e m => ⟨k b o e, fun q => q.elim m (ne b o e)⟩⟩
  · rcases q with q | q
    · exact W.Mρ x hx q
    · obtain ⟨j, hj⟩ := List.getElem?_of_mem hx
      have hj' : j < st.length := by rw [← W.lenρ]; exact (List.getElem?_eq_some_iff.mp hj).1
      obtain ⟨e1, _⟩ := W.inst j _ x _ (List.getElem?_eq_getElem hj') hj (List.getElem?_eq_getElem (by rw [W.lenδ]; exact hj'))
      exact ne x _ e1 q
  · rcases q with q | q
    · obtain ⟨o, e⟩ := W.Mdom b q; exact ⟨o, k b o e⟩
    · exact q.2
  · obtain ⟨e1, e2⟩ := W.base b o e
    exact ⟨k b o e1, fun q => q.elim e2 (ne b o e1)⟩
end
theorem bindL_not {kindOf : Str → Option NameKind} {x : Str} : ∀ {l : List (Str × Value)} {m : Str → Option Value}, x ∉ l.map (·.1) → bindL kindOf l m x = m x
  | [], _, _ => rfl
  | (n, v) :: r, m, h => by
    unfold bindL
    rw [bindL_not fun q => h (.tail _ q)]
    split
    · exact if_neg fun q => h (by rw [q]; exact .head _)
    · rfl
theorem bindC_not {kindOf : Str → Option NameKind} {x : Str} : ∀ {l : List (Str × Value)} {m : Str → Option Value}, x ∉ l.map (·.1) → bindC kindOf l m x = m x
  | [], _, _ => rfl
  | (n, v) :: r, m, h => by
    unfold bindC
    rw [bindC_not fun q => h (.tail _ q)]
    split
    · rfl
    · exact if_neg fun q => h (by rw [q]; exact .head _)
theorem bindL_get {kindOf : Str → Option NameKind} {x : Str} {w : Value} (hk : kindOf x = some .local) : ∀ {l : List (Str × Value)} {m : Str → Option Value}, (l.map (·.1)).Nodup → (x, w) ∈ l → bindL kindOf l m x = some w
  | [], _, _, h => nomatch h
  | (n, v) :: r, m, nd, h => by
    unfold bindL
    rcases List.mem_cons.mp h with h | h
    · cases h
      rw [bindL_not (List.nodup_cons.mp nd).1, if_pos hk]; exact if_pos rfl
    · exact bindL_get hk (List.nodup_cons.mp nd).2 h
theorem bindC_get {kindOf : Str → Option NameKind} {x : Str} {w : Value} (hk : kindOf x ≠ some .local) : ∀ {l : List (Str × Value)} {m : Str → Option Value}, (l.map (·.1)).Nodup → (x, w) ∈ l → bindC kindOf l m x = some w
  | [], _, _, h => nomatch h
  | (n, v) :: r, m, nd, h => by
    unfold bindC
    rcases List.mem_cons.mp h with h | h
    · cases h
      rw [bindC_not (List.nodup_cons.mp nd).1, if_neg hk]; exact if_pos rfl
    · exact bindC_get hk (List.nodup_cons.mp nd).2 h
theorem zip_fst {ns : List Str} {ws : List Value} (nd : ns.Nodup) : ((ns.zip ws).map (·.1)).Nodup := by
  induction ns generalizing ws with
  | nil => cases ws <;> exact List.nodup_nil
  | cons x ns ih =>
    cases ws with
    | nil => exact List.nodup_nil
    | cons w ws =>
      rw [List.zip_cons_cons, List.map_cons]
      refine List.nodup_cons.mpr ⟨fun q => ?_, ih (List.nodup_cons.mp nd).2⟩
      obtain ⟨p, hp, e⟩ := List.mem_map.mp q
      have e' : p.1 = x := e
      exact (List.nodup_cons.mp nd).1 (by rw [← e']; exact (List.of_mem_zip hp).1)
theorem zip_mem {ns : List Str} {ws : List Value} {i : Nat} {x : Str} {w : Value} (hx : ns[i]? = some x) (hw : ws[i]? = some w) : (x, w) ∈ ns.zip ws := by
  refine List.mem_of_getElem? (i := i) ?_
  rw [List.getElem?_zip_eq_some]; exact ⟨hx, hw⟩

section
variable {c : Cn} {nm : Nm} {n np : Nat} {a : Addr} {d : FnD} {body : List S} {st st₁ st₂ : List Inst} {vs : List V} {v : V} {loc : List LV} {fl : Fl}
theorem fs_enterC {g : Gh} {s s₁ : Shared} {ws : List Value} (ok : FnAtC c a d nm np body) (W : Wd c g st s.heap) (R : RVs c g s.heap vs ws) (hn : vs.length = np)
    (IC : InCallC s (callEnvC d.fd s.heap.objs.size a).locals (bindL (callEnvC d.fd s.heap.objs.size a).kindOf ((nm.ns.take np).zip ws) fun _ => none) (callEnvC d.fd s.heap.objs.size a).cells (bindC (callEnvC d.fd s.heap.objs.size a).kindOf ((nm.ns.take np).zip ws) fun _ => none) s₁) :
    Gro g s.heap (g.all s.heap s₁.heap) s₁.heap ∧ Wd c (g.all s.heap s₁.heap) st s₁.heap ∧ Fs c nm (callEnvC d.fd s.heap.objs.size a) s.heap (fun _ => 0) (g.all s.heap s₁.heap) s₁.heap (locInit nm vs) := by
  have hk := IC.toInCall.keep
  have hns := IC.toInCall.ns
  have h0 : s.heap.get? (callEnvC d.fd s.heap.objs.size a).locals = none := get_size s.heap
  have G := Gro.all (h := s.heap) (h' := s₁.heap) g hk
  have nδ : ∀ b, s.heap.get? b = none → b ∉ g.δ := fun b hb q => by
    obtain ⟨o, e⟩ := W.Mdom _ (W.Mδ _ q); rw [hb] at e; cases e
  have cells : ∀ x ∈ nm.ns, d.scope.names.lookup x = some .cell → ∃ b, (callEnvC d.fd s.heap.objs.size a).cells.lookup x = some b ∧ s.heap.get? b = none ∧ s₁.heap.IsCell b (bindC (callEnvC d.fd s.heap.objs.size a).kindOf ((nm.ns.take np).zip ws) (fun _ => none) x) := fun x hx hc => by
    have := cellsFrom_some (x := x) d.scope.names (s.heap.objs.size + 1) [] (.inl hc)
    obtain ⟨b, hb⟩ := Option.isSome_iff_exists.mp this
    refine ⟨b, hb, ?_, IC.cell x b hb⟩
    have := IC.above x b (mem_of_lookup hb)
    cases e : s.heap.get? b with
    | none => rfl
    | some o => exact absurd (Heap.lt_size e) (Nat.not_lt.mpr (Nat.le_of_lt this))
  refine ⟨G, W.all hk, ?_⟩
  have nd' := ok.nd.sublist (List.take_sublist np nm.ns)
  refine ⟨⟨fun x hx => ok.ls x hx, fun x hx => ok.cs x hx, fun x hx => ok.gs x hx, ok.hk, rfl, rfl⟩, ok.nd, locInit_len (by rw [hn]; exact ok.np), fun i x lv hx hl => ?_, ⟨_, hns⟩, .inr ⟨h0, let ⟨o, _, _, e, _⟩ := hns; ⟨o, e⟩⟩, nδ _ h0, h0, fun x hx => ?_, fun x y b _ _ e1 e2 => ?_, fun i j x y h1 h2 o1 o2 _ => ?_⟩
  · rcases locInit_get hl with rfl | ⟨u, hu, rfl⟩
    · exact .unset
    · obtain ⟨w, hw, Rw⟩ := R.get hu
      have hi : i < np := by rw [← hn]; exact (List.getElem?_eq_some_iff.mp hu).1
      have hx' : (nm.ns.take np)[i]? = some x := by rw [List.getElem?_take, if_pos hi]; exact hx
      rcases ok.loc x (List.mem_of_getElem? hx) with kl | kc
      · exact .v (.loc _ kl hns (nδ _ h0) (bindL_get kl (zip_fst nd') (zip_mem hx' hw))) (Rw.gro W G)
      · obtain ⟨b, hb, hb0, ce⟩ := cells x (List.mem_of_getElem? hx) kc
        have hne : (callEnvC d.fd s.heap.objs.size a).kindOf x ≠ some .local := fun q => by
          have q' : d.scope.names.lookup x = some .local := q
          rw [kc] at q'; cases q'
        rw [bindC_get hne (zip_fst nd') (zip_mem hx' hw)] at ce
        exact .v (.cell b kc hb (nδ _ hb0) ce) (Rw.gro W G)
  · rcases ok.loc x hx with kl | kc
    · exact .inl kl
    · obtain ⟨b, hb, hb0, ce⟩ := cells x hx kc
      exact .inr ⟨kc, b, _, hb, ce, .inr ⟨hb0, let ⟨o, e, _⟩ := ce; ⟨o, e⟩⟩, nδ _ hb0, hb0⟩
  · exact name_of_addr IC.apart (mem_of_lookup e1) (mem_of_lookup e2)
  · rcases locInit_get h1 with rfl | ⟨u, hu, rfl⟩ <;> cases o1
theorem sCode_fnC (ok : FnAtC c a d nm np body) (hn : vs.length = np) (h : SS c nm n body (locInit nm vs) st fl loc st₂) (hv : FlV fl v) : SCode c (n + 1) a vs st v st₂ := fun A g s ws R r W RR P => by
  have X := W.X
  refine codeAny_call_cells (o := ⟨d.oc, d.od, .func d.fd, d.osl⟩) (fd := d.fd) (body := d.body) (binds := (nm.ns.take np).zip ws) ?_ (X _ _ ok.look) rfl (c.T.nolimit.keeps fun b o e => (W.base b o e).1) (codeRec_of X ok.code) rfl (ok.binds ws (RR.length.trans hn)) rfl (fun x hx => ?_) (fun s₁ IC => ?_) ok.hco ok.hgen ok.hk
  · have := r.dep; show A.depth < 1000; omega
  · rcases ok.loc x.1 (List.mem_of_mem_take (List.of_mem_zip hx).1) with kl | kc
    · exact .inl kl
    · exact .inr ⟨kc, cellsFrom_some _ _ _ (.inl kc)⟩
  · obtain ⟨G, W₁, F⟩ := fs_enterC ok W RR hn IC
    rw [ok.body]
    obtain ⟨h₁, tk, rfl⟩ := IC.toInCall.same
    refine h _ _ g s.heap _ _ { s with heap := h₁, toks := _ } _ _ r.deeper G W₁ F fun f h' tk' g' oa' G' W' F' fr => ?_
    cases fr with
    | next => cases hv; exact P _ h' tk' g' G' W' .none
    | ret R' => cases hv; exact P _ h' tk' g' G' W' R'
end
end Mine

namespace Mine
open PySem PySem.W PySem.Calls PyProof.Rows

/-- growth by new objects alone -/
theorem Gro.keeps (g : Gh) {h h' : Heap} (k : ∀ b o, h.get? b = some o → h'.get? b = some o) : Gro g h g h' :=
  ⟨List.prefix_refl _, List.prefix_refl _, fun b o e _ => k b o e, fun b o e => ⟨o, k b o e⟩, fun _ _ _ => Iff.rfl, fun _ _ _ q => q⟩
theorem Wd.keeps {c : Cn} {g : Gh} {st : List Inst} {h h' : Heap} (W : Wd c g st h) (k : ∀ b o, h.get? b = some o → h'.get? b = some o) : Wd c g st h' := by
  refine ⟨W.lenρ, W.lenδ, fun k'' i x dx h1 h2 h3 => ?_, W.ndδ, W.ndρ, W.Mδ, W.Mρ, fun b q => let ⟨o, e⟩ := W.Mdom b q; ⟨o, k b o e⟩, fun b o e => ⟨k b o (W.base b o e).1, (W.base b o e).2⟩⟩
  obtain ⟨e1, es, n, e2, r⟩ := W.inst k'' i x dx h1 h2 h3
  exact ⟨k _ _ e1, es, n, k _ _ e2, r.mono (List.prefix_refl _) fun b o e m => ⟨k b o e, m⟩⟩

section
variable {c : Cn} {nm : Nm} {n : Nat} {loc : List LV} {st st₁ st₂ st₃ : List Inst}

/-- slices -/
def SEo (c : Cn) (nm : Nm) (n : Nat) (e : Option E) (loc : List LV) (st : List Inst) (v : Option Int) (st' : List Inst) : Prop :=
  ∀ (A : Around) (env : Env) (g : Gh) (s : Shared) (Q : Value → Shared → Prop) (Ex : Value → Shared → Prop),
    Room n A → EnvOk nm env → Wd c g st s.heap → Le c env nm.ns g s.heap loc →
    (∀ val h' tk' g', Gro g s.heap g' h' → Wd c g' st' h' → IsPart val v → Q val { s with heap := h', toks := tk' }) → wpAny c.M A (evalPart (Eo.py e) env) Q Ex s
theorem sEo_none : SEo c nm n Option.none loc st Option.none st := fun A env g s Q Ex _ _ W _ P => by
  exact wpAny_pure (P _ s.heap s.toks g (Gro.refl _ _) W .none)
theorem sEo_some {e : E} {v : V} {i : Int} (he : SE c nm n e loc st v st₁) (hv : v.iv c = some i) : SEo c nm n (some e) loc st (some i) st₁ := fun A env g s Q Ex r eo W L P => by
  refine he A env g s Q Ex r eo W L fun w h₁ t₁ g₁ G₁ W₁ R₁ => ?_
  obtain ⟨t, rfl⟩ := R₁.iv hv
  exact P _ h₁ t₁ g₁ G₁ W₁ (.int i t)
def vpick (l : List V) (lo hi : Option Int) : List V := (l.drop (kms_lo lo l.length)).take (kms_hi hi l.length - kms_lo lo l.length)
theorem sE_slice {a : E} {lo hi : Option E} {q p : Ps} {xs : List V} {x y : Option Int} (ha : SE c nm n a loc st (.list xs) st₁) (hl : SEo c nm n lo loc st₁ x st₂) (hh : SEo c nm n hi loc st₂ y st₃) (hz : xs.length ≤ 1000000) :
    SE c nm n (.slice a lo hi q p) loc st (.list (vpick xs x y)) st₃ := fun A env g s Q Ex r eo W L P => by
  show wpAny _ _ (eval (.Subscript a.py (.Slice (Eo.py lo) (Eo.py hi) Option.none q) p) env) Q Ex s
  refine Subscript_ (ha A env g s _ Ex r eo W L fun wa h₁ t₁ g₁ G₁ W₁ R₁ => ?_)
  refine wpAny_Slice ?_
  refine hl A env g₁ _ _ Ex r eo W₁ (L.gro W G₁) fun wl h₂ t₂ g₂ G₂ W₂ pl => ?_
  refine hh A env g₂ _ _ Ex r eo W₂ ((L.gro W G₁).gro W₁ G₂) fun wu h₃ t₃ g₃ G₃ W₃ pu => ?_
  refine wpAny_pure ?_
  have R₃ := (R₁.gro W₁ G₂).gro W₂ G₃
  cases R₃ with
  | list e m rs =>
    rename_i la ws nn
    have hls : Heap.IsList h₃ la ws.toArray := ⟨_, e, rfl, _, rfl⟩
    have G₄ := Gro.push g₃ h₃ { cls := .type "slice", data := .fields #[wl, wu, .none] }
    have W₄ := W₃.push { cls := .type "slice", data := .fields #[wl, wu, .none] }
    refine tail_any (Heap.IsList.typeIs (s := { s with heap := h₃.push { cls := .type "slice", data := .fields #[wl, wu, .none] }, toks := t₃ }) (hls.push _)) list_getitem_lookup
      (wpAny_getItem_list_slice (s := { s with heap := h₃.push { cls := .type "slice", data := .fields #[wl, wu, .none] }, toks := t₃ }) (hls.push _) (Heap.IsSliceOf.new ..) pl pu .none (by simp) ?_ (by rw [List.size_toArray, rs.length]; exact Nat.le_trans hz (by decide))) rfl
    have e2 : slicePick ws.toArray x y none = (kms_pick ws x y).toArray := by rw [kms_pick_eq]
    rw [e2]
    have rp : RVs c g₃ (h₃.push { cls := .type "slice", data := .fields #[wl, wu, .none] }) (vpick xs x y) (kms_pick ws x y) := by
      unfold vpick kms_pick
      rw [rs.length]
      exact ((rs.gro W₃ G₄).drop _).take _
    exact Pst.new (P.trans (tk := t₃) ((((G₁.trans G₂).trans G₃).trans G₄))) W₄ (RV.newList W₄ rp)


mutual
def V.pd (c : Cn) : V → PyData
  | .scr => .none
  | .none => .none
  | .bool b => .bool b
  | .int i => .int i
  | .key n => .int (c.kv n)
  | .val n => .int (c.vv n)
  | .list xs => .list (Vs.pd c xs)
  | .tup xs => .tuple (Vs.pd c xs)
  | .obj _ => .none
def Vs.pd (c : Cn) : List V → List PyData
  | [] => []
  | x :: xs => x.pd c :: Vs.pd c xs
end
mutual
def V.dat : V → Bool
  | .scr => false
  | .obj _ => false
  | .list xs => Vs.dat xs
  | .tup xs => Vs.dat xs
  | _ => true
def Vs.dat : List V → Bool
  | [] => true
  | x :: xs => x.dat && Vs.dat xs
end
mutual
theorem RV.reads {g : Gh} {h : Heap} {v : V} {w : Value} (R : RV c g h v w) (d : v.dat = true) : ∃ as, Reads h w (v.pd c) as := by
  cases R with
  | scr => cases d
  | none => exact ⟨_, .none⟩
  | bool b => exact ⟨_, .bool b⟩
  | int i t => exact ⟨_, .int i t⟩
  | key n t => exact ⟨_, .int _ t⟩
  | val n t => exact ⟨_, .int _ t⟩
  | obj e => cases d
  | list e m r =>
    obtain ⟨as, q⟩ := RVs.reads r (by rw [V.dat] at d; exact d)
    exact ⟨_, by rw [V.pd]; exact .list e rfl rfl (by simpa using q)⟩
  | tup e m r =>
    obtain ⟨as, q⟩ := RVs.reads r (by rw [V.dat] at d; exact d)
    exact ⟨_, by rw [V.pd]; exact .tuple e rfl rfl (by simpa using q)⟩
theorem RVs.reads {g : Gh} {h : Heap} {v : List V} {w : List Value} (R : RVs c g h v w) (d : Vs.dat v = true) : ∃ as, ReadsAll h w (Vs.pd c v) as := by
  cases R with
  | nil => exact ⟨_, .nil⟩
  | cons a b =>
    rw [Vs.dat, Bool.and_eq_true] at d
    obtain ⟨as, q⟩ := RV.reads a d.1
    obtain ⟨bs, q'⟩ := RVs.reads b d.2
    exact ⟨_, by rw [Vs.pd]; exact .cons q q'⟩
end
mutual
theorem V.lay (v : V) : (v.pd c).canLay0 = true := by
  cases v <;> rw [V.pd] <;> first | rfl | (rw [PyData.canLay0]; exact Vs.lay _)
theorem Vs.lay (v : List V) : PyData.canLayAll0 (Vs.pd c v) = true := by
  cases v with
  | nil => rfl
  | cons x xs => rw [Vs.pd, PyData.canLayAll0, V.lay x, Vs.lay xs]; rfl
end
theorem cmp_dat {op : COp} {a b : V} {t : Bool} (ha : a.dat = true) (hb : b.dat = true) (da : (a.pd c).depth ≤ 64) (db : (b.pd c).depth ≤ 64) (ho : (op = .eq ∧ t = PyData.eqv (a.pd c) (b.pd c)) ∨ (op = .ne ∧ t = !PyData.eqv (a.pd c) (b.pd c))) : CmpOk c n op a b t := fun A g s st x y Q Ex r W R S P => by
  obtain ⟨as, ra⟩ := R.reads ha
  obtain ⟨bs, rb⟩ := S.reads hb
  have sa : SeqAt.shaped (a.pd c) = true := by unfold SeqAt.shaped; rw [V.lay, decide_eq_true da]; rfl
  have sb : SeqAt.shaped (b.pd c) = true := by unfold SeqAt.shaped; rw [V.lay, decide_eq_true db]; rfl
  have hu : A.units + 64 < cLine := by have := r.uni; show A.units + 64 < 9900; omega
  rcases ho with ⟨rfl, rfl⟩ | ⟨rfl, rfl⟩
  · exact eq_dataH ra rb sa sb hu (P.here (tk := s.toks) W (.bool _))
  · exact ne_dataH ra rb sa sb hu (P.here (tk := s.toks) W (.bool _))
end
end Mine

namespace Mine
open PySem PySem.W PySem.Calls PyProof.Rows

section
variable {c : Cn} {nm : Nm} {n : Nat} {loc : List LV} {st st₁ st₂ st₃ : List Inst}

/-- is, is not -/
theorem cmp_is_obj {j k : Nat} {op : COp} {t : Bool} (ho : (op = .is ∧ t = decide (j = k)) ∨ (op = .isnot ∧ t = !decide (j = k))) : CmpOk c n op (.obj j) (.obj k) t := fun A g s st x y Q Ex r W R S P => by
  cases R with
  | obj ea =>
    cases S with
    | obj eb =>
      rename_i a b
      by_cases hjk : j = k
      · subst hjk
        rw [ea] at eb; cases eb
        rcases ho with ⟨rfl, rfl⟩ | ⟨rfl, rfl⟩
        · rw [decide_eq_true rfl] at P
          exact wpAny_is_ref_self (P.here (tk := s.toks) W (.bool _))
        · rw [decide_eq_true rfl] at P
          exact wpAny_isNot_ref_self (P.here (tk := s.toks) W (.bool _))
      · have hj := (List.getElem?_eq_some_iff.mp ea).1
        have hk := (List.getElem?_eq_some_iff.mp eb).1
        have hne : a ≠ b := fun q => by
          subst q
          exact hjk ((List.getElem?_inj hj W.ndρ).mp (ea.trans eb.symm))
        have hjs : j < st.length := by rw [← W.lenρ]; exact hj
        have hks : k < st.length := by rw [← W.lenρ]; exact hk
        obtain ⟨e1, _⟩ := W.inst j _ a _ (List.getElem?_eq_getElem hjs) ea (List.getElem?_eq_getElem (by rw [W.lenδ]; exact hjs))
        obtain ⟨e2, _⟩ := W.inst k _ b _ (List.getElem?_eq_getElem hks) eb (List.getElem?_eq_getElem (by rw [W.lenδ]; exact hks))
        rcases ho with ⟨rfl, rfl⟩ | ⟨rfl, rfl⟩
        · rw [decide_eq_false hjk] at P
          exact wpAny_is_ref_other hne e1 e2 (fun q => by cases q) (P.here (tk := s.toks) W (.bool _))
        · rw [decide_eq_false hjk] at P
          exact wpAny_isNot_ref_other hne e1 e2 (fun q => by cases q) (P.here (tk := s.toks) W (.bool _))
def V.isNone : V → Bool
  | .none => true
  | _ => false
theorem cmp_is_none {a : V} {op : COp} {t : Bool} (ho : (op = .is ∧ t = a.isNone) ∨ (op = .isnot ∧ t = !a.isNone)) : CmpOk c n op a .none t := fun A g s st x y Q Ex r W R S P => by
  cases S
  have h1 : plainIs x .none = true := by cases R <;> rfl
  have h2 : (x == .none) = a.isNone := by cases R <;> rfl
  rcases ho with ⟨rfl, rfl⟩ | ⟨rfl, rfl⟩
  · exact wpAny_is_plain h1 (by rw [h2]; exact P.here (tk := s.toks) W (.bool _))
  · exact wpAny_isNot_plain h1 (by rw [h2]; exact P.here (tk := s.toks) W (.bool _))
theorem cmp_is_bool {a b : Bool} {op : COp} {t : Bool} (ho : (op = .is ∧ t = (a == b)) ∨ (op = .isnot ∧ t = !(a == b))) : CmpOk c n op (.bool a) (.bool b) t := fun A g s st x y Q Ex r W R S P => by
  cases S; cases R
  have h2 : (Value.bool a == .bool b) = (a == b) := by cases a <;> cases b <;> rfl
  rcases ho with ⟨rfl, rfl⟩ | ⟨rfl, rfl⟩
  · exact wpAny_is_plain rfl (by rw [h2]; exact P.here (tk := s.toks) W (.bool _))
  · exact wpAny_isNot_plain rfl (by rw [h2]; exact P.here (tk := s.toks) W (.bool _))

/-- not in -/
theorem cmp_notin {a : V} {xs : List V} {t : Bool} (ha : a.dat = true) (hx : Vs.dat xs = true) (hd : (a.pd c).depth ≤ 64) (ht : t = !(Vs.pd c xs).any fun y => PyData.eqv y (a.pd c)) : CmpOk c n .notin a (.list xs) t := fun A g s st x y Q Ex r W R S P => by
  obtain ⟨as, ra⟩ := R.reads ha
  obtain ⟨bs, rb⟩ := S.reads (by rw [V.dat]; exact hx)
  rw [V.pd] at rb
  have hu : A.units + 1 + min (PyData.depthAll (Vs.pd c xs)) (a.pd c).depth < cLine := by
    have := r.uni
    have h1 : min (PyData.depthAll (Vs.pd c xs)) (a.pd c).depth ≤ (a.pd c).depth := Nat.min_le_right _ _
    show _ < 9900
    omega
  subst ht
  exact SeqAt.notIn_list_reads rb ra (Vs.lay xs) (V.lay a) hu (P.here (tk := s.toks) W (.bool _))

/-- sum -/
def vnums (c : Cn) : List V → Option (List Int)
  | [] => some []
  | x :: xs => match x.iv c, vnums c xs with
    | some i, some is => some (i :: is)
    | _, _ => Option.none
theorem RVs.nums {g : Gh} {h : Heap} {xs : List V} {ws : List Value} {is : List Int} (R : RVs c g h xs ws) (e : vnums c xs = some is) : AllInts ws.toArray ∧ numsOf ws = is := by
  induction xs generalizing ws is with
  | nil => cases R; cases e; exact ⟨fun v hv => by simp at hv, rfl⟩
  | cons x xs ih =>
    cases R with
    | cons a b =>
      unfold vnums at e
      cases h1 : x.iv c with
      | none => rw [h1] at e; cases e
      | some i =>
        cases h2 : vnums c xs with
        | none => rw [h1, h2] at e; cases e
        | some js =>
          rw [h1, h2] at e; cases e
          obtain ⟨p, q⟩ := ih b h2
          obtain ⟨t, rfl⟩ := a.iv h1
          refine ⟨fun v hv => ?_, by rw [numsOf, q]⟩
          rcases List.mem_cons.mp (by simpa using hv) with rfl | hv
          · exact ⟨i, t, rfl⟩
          · exact p v (by simpa using hv)
theorem blt_sum {xs : List V} {is : List Int} (e : vnums c xs = some is) : SBlt c n (.builtin "sum") [.list xs] st (.int is.sum) st := fun A g s ws Q Ex r W R P => by
  cases R with
  | cons R1 R0 =>
    cases R0
    cases R1 with
    | list eo m q =>
      rename_i l ws nn
      have hl : s.heap.IsList l ws.toArray := ⟨_, eo, rfl, _, rfl⟩
      obtain ⟨ha, hn⟩ := q.nums e
      obtain ⟨ys, hys⟩ := ha.items
      rw [hys] at hl
      refine sum_intListG r.hd hl fun h' tk t' k => ?_
      have hs : preSum (numAt ys) ys.size = is.sum := by
        rw [preSum_eq, List.take_of_length_le (by simp), ← nums_intItems, ← hys, ← hn]
      rw [hs]
      exact P _ h' tk g (Gro.keeps g k) (W.keeps k) (.int _ _)
/-- max(a, b) -/
theorem blt_max {a b : V} {i j : Int} (ha : a.iv c = some i) (hb : b.iv c = some j) : SBlt c n (.builtin "max") [a, b] st (.int (if j > i then j else i)) st := fun A g s ws Q Ex r W R P => by
  cases R with
  | cons R1 R0 =>
    cases R0 with
    | cons R2 R0 =>
      cases R0
      obtain ⟨t, rfl⟩ := R1.iv ha
      obtain ⟨u, rfl⟩ := R2.iv hb
      refine max_two_ints r.hd fun h' tk k => ?_
      split
      · rename_i h; rw [if_pos h] at P; exact P _ h' tk g (Gro.keeps g k) (W.keeps k) (.int _ _)
      · rename_i h; rw [if_neg h] at P; exact P _ h' tk g (Gro.keeps g k) (W.keeps k) (.int _ _)
/-- list(..), tuple(..) -/
theorem blt_list {xs : List V} (hz : xs.length ≤ 1000000) : SBlt c n (.type "list") [.list xs] st (.list xs) st := fun A g s ws Q Ex r W R P => by
  cases R with
  | cons R1 R0 =>
    cases R0
    cases R1 with
    | list e m q =>
      refine call_list_seq _ (.inl rfl) e rfl rfl (fun h' c' k e' => ?_) (by rw [List.size_toArray, q.length]; exact Nat.le_trans hz (by decide))
      exact P _ h' s.toks g (Gro.keeps g k) (W.keeps k) (.list e' W.fresh (q.gro W (Gro.keeps g k)))
theorem blt_listT {xs : List V} (hz : xs.length ≤ 1000000) : SBlt c n (.type "list") [.tup xs] st (.list xs) st := fun A g s ws Q Ex r W R P => by
  cases R with
  | cons R1 R0 =>
    cases R0
    cases R1 with
    | tup e m q =>
      refine call_list_seq _ (.inr rfl) e rfl rfl (fun h' c' k e' => ?_) (by rw [List.size_toArray, q.length]; exact Nat.le_trans hz (by decide))
      exact P _ h' s.toks g (Gro.keeps g k) (W.keeps k) (.list e' W.fresh (q.gro W (Gro.keeps g k)))
theorem blt_tuple {xs : List V} (hz : xs.length ≤ 1000000) : SBlt c n (.type "tuple") [.list xs] st (.tup xs) st := fun A g s ws Q Ex r W R P => by
  cases R with
  | cons R1 R0 =>
    cases R0
    cases R1 with
    | list e m q =>
      refine call_tuple_list ⟨_, e, rfl, _, rfl⟩ (fun h' k => ?_) (by rw [List.size_toArray, q.length]; exact Nat.le_trans hz (by decide))
      have W' := W.keeps k
      exact P _ _ s.toks g ((Gro.keeps g k).trans (Gro.push g h' _)) (W'.push _) (RV.newTup W' (q.gro W (Gro.keeps g k)))
theorem bin_catT {xs ys : List V} (hz : xs.length + ys.length ≤ 1000000) : BinOk c n .add (.tup xs) (.tup ys) (.tup (xs ++ ys)) := fun A g s st x y Q Ex r W R S P => by
  have R' := R; have S' := S
  cases R with
  | tup e1 m1 r1 =>
    cases S with
    | tup e2 m2 r2 =>
      rename_i t ws n1 b ws2 n2
      by_cases h1 : ws = []
      · subst h1
        cases r1
        exact concat_meets ⟨_, e1, rfl⟩ ⟨_, e2, rfl⟩ noFill_tuple_add seq_tuple_add PySem.F.slot_tuple_add PySem.F.entry_tuple_add (PySem.F.args_tuple_add_2 _ _)
          (tuple_addW0 t b #[] ws2.toArray n1 n2 none none #[] #[] rfl) ⟨e1, e2, P.here (tk := s.toks) W S'⟩
      · by_cases h2 : ws2 = []
        · subst h2
          cases r2
          rw [List.append_nil] at P
          exact concat_meets ⟨_, e1, rfl⟩ ⟨_, e2, rfl⟩ noFill_tuple_add seq_tuple_add PySem.F.slot_tuple_add PySem.F.entry_tuple_add (PySem.F.args_tuple_add_2 _ _)
            (tuple_addW1 t b ws.toArray #[] n1 n2 none none #[] #[] (by simpa using h1) rfl) ⟨e1, e2, P.here (tk := s.toks) W R'⟩
        · refine concat_meets ⟨_, e1, rfl⟩ ⟨_, e2, rfl⟩ noFill_tuple_add seq_tuple_add PySem.F.slot_tuple_add PySem.F.entry_tuple_add (PySem.F.args_tuple_add_2 _ _)
            (tuple_addW2 t b ws.toArray ws2.toArray n1 n2 none none #[] #[] (by simpa using h1) (by simpa using h2) ?_) ⟨e1, e2, ?_⟩
          · rw [List.size_toArray, List.size_toArray, r1.length, r2.length]; exact Nat.le_trans hz (by decide)
          · have e : ws.toArray ++ ws2.toArray = (ws ++ ws2).toArray := by simp
            rw [e]
            exact P.new (st' := st) W (RV.newTup W (r1.append r2))
/-- a global datum that stands in the base -/
theorem sE_glob {g : Nat} {x : Str} {p : Ps} {v : V} {w : Value} (gl : x ∈ nm.gs) (e : nsIn c.K mainGlobals x = some (some w)) (hd : (x == ("__debug__" : Str)) = false) (hw : ∀ (gh : Gh) (h : Heap) (st : List Inst), Wd c gh st h → RV c gh h v w) : SE c nm n (.glob g x p) loc st v st := fun A env gh s Q Ex r eo W L P => by
  show wpAny _ _ (eval (.Name x p) env) Q Ex s
  exact glob_load eo W gl e hd (P.here (tk := s.toks) W (hw gh _ _ W))
end
end Mine

namespace Mine
open PySem PySem.W PySem.Calls PyProof.Rows

/-! ## a runner over the small language -/
inductive Fn where
  | ast (np : Nat) (pad : List LV) (nm : Nm) (body : List S)
  | nat (d : Nat) (f : List V → List Inst → Option (V × List Inst))
structure Pg where
  fns : Nat → Option Fn
  addr : Nat → Addr
  gname : Nat → Option Str
  cname : Nat → Option Str
  init : Nat → Nat
  mth : Nat → Nat → Option Nat
  mname : Nat → Option Str
  fpos : Nat → Nat → Option Nat
  aname : Nat → Option Str
  glob : Nat → Option (Str × V)

inductive Job where
  | e (x : E) | es (xs : List E) | eo (x : Option E) | c (x : C) | cand (xs : List C) | cor (xs : List C) | it (x : E) | ss (xs : List S)
  | whl (c : C) (body : List S)
  | forl (i : Nat) (items : List V) (body : List S)
  | compl (elt : E) (items : List V)
inductive Res where
  | v (x : V) (st : List Inst)
  | b (x : Bool) (st : List Inst)
  | vs (x : List V) (st : List Inst)
  | o (x : Option Int) (st : List Inst)
  | fl (f : Fl) (loc : List LV) (st : List Inst)
abbrev IH := Nat → Job → List LV → List Inst → Option Res

def withV (r : Option Res) (k : V → List Inst → Option Res) : Option Res := Option.casesOn r none fun r => Res.casesOn r k (fun _ _ => none) (fun _ _ => none) (fun _ _ => none) (fun _ _ _ => none)
def withB (r : Option Res) (k : Bool → List Inst → Option Res) : Option Res := Option.casesOn r none fun r => Res.casesOn r (fun _ _ => none) k (fun _ _ => none) (fun _ _ => none) (fun _ _ _ => none)
def withVs (r : Option Res) (k : List V → List Inst → Option Res) : Option Res := Option.casesOn r none fun r => Res.casesOn r (fun _ _ => none) (fun _ _ => none) k (fun _ _ => none) (fun _ _ _ => none)
def withI (r : Option Res) (k : Option Int → List Inst → Option Res) : Option Res := Option.casesOn r none fun r => Res.casesOn r (fun _ _ => none) (fun _ _ => none) (fun _ _ => none) k (fun _ _ _ => none)
def withF (r : Option Res) (k : Fl → List LV → List Inst → Option Res) : Option Res := Option.casesOn r none fun r => Res.casesOn r (fun _ _ => none) (fun _ _ => none) (fun _ _ => none) (fun _ _ => none) k
def withO {α : Type} (r : Option α) (k : α → Option Res) : Option Res := Option.casesOn r none k
def cond' (b : Bool) (k : Option Res) : Option Res := Bool.casesOn b none k

theorem withV_inv {r : Option Res} {k : V → List Inst → Option Res} {z : Res} (h : withV r k = some z) : ∃ x st, r = some (.v x st) ∧ k x st = some z := by
  cases r with
  | none => cases h
  | some r => cases r <;> first | exact ⟨_, _, rfl, h⟩ | cases h
theorem withB_inv {r : Option Res} {k : Bool → List Inst → Option Res} {z : Res} (h : withB r k = some z) : ∃ x st, r = some (.b x st) ∧ k x st = some z := by
  cases r with
  | none => cases h
  | some r => cases r <;> first | exact ⟨_, _, rfl, h⟩ | cases h
theorem withVs_inv {r : Option Res} {k : List V → List Inst → Option Res} {z : Res} (h : withVs r k = some z) : ∃ x st, r = some (.vs x st) ∧ k x st = some z := by
  cases r with
  | none => cases h
  | some r => cases r <;> first | exact ⟨_, _, rfl, h⟩ | cases h
theorem withI_inv {r : Option Res} {k : Option Int → List Inst → Option Res} {z : Res} (h : withI r k = some z) : ∃ x st, r = some (.o x st) ∧ k x st = some z := by
  cases r with
  | none => cases h
  | some r => cases r <;> first | exact ⟨_, _, rfl, h⟩ | cases h
theorem withF_inv {r : Option Res} {k : Fl → List LV → List Inst → Option Res} {z : Res} (h : withF r k = some z) : ∃ f l st, r = some (.fl f l st) ∧ k f l st = some z := by
  cases r with
  | none => cases h
  | some r => cases r <;> first | exact ⟨_, _, _, rfl, h⟩ | cases h
theorem withO_inv {α : Type} {r : Option α} {k : α → Option Res} {z : Res} (h : withO r k = some z) : ∃ x, r = some x ∧ k x = some z := by
  cases r with
  | none => cases h
  | some r => exact ⟨_, rfl, h⟩
theorem cond_inv {b : Bool} {k : Option Res} {z : Res} (h : cond' b k = some z) : b = true ∧ k = some z := by
  cases b with
  | false => cases h
  | true => exact ⟨rfl, h⟩

/-! plain helpers, by the recursors -/
noncomputable section
def nth {α : Type} (l : List α) : Nat → Option α := List.rec (motive := fun _ => Nat → Option α) (fun _ => none) (fun a _ ih n => Nat.casesOn n (some a) ih) l
theorem nth_eq {α : Type} (l : List α) (n : Nat) : nth l n = l[n]? := by
  induction l generalizing n with
  | nil => rfl
  | cons a l ih => cases n with
    | zero => rfl
    | succ n => exact ih n
def lput' {α : Type} (l : List α) : Nat → α → List α := List.rec (motive := fun _ => Nat → α → List α) (fun _ _ => []) (fun a l ih n x => Nat.casesOn n (x :: l) fun m => a :: ih m x) l
theorem lput_eq {α : Type} (l : List α) (n : Nat) (x : α) : lput' l n x = l.set n x := by
  induction l generalizing n with
  | nil => rfl
  | cons a l ih => cases n with
    | zero => rfl
    | succ n => exact congrArg (a :: ·) (ih n)
def llen {α : Type} (l : List α) : Nat := List.rec (motive := fun _ => Nat) 0 (fun _ _ ih => Nat.succ ih) l
theorem llen_eq {α : Type} (l : List α) : llen l = l.length := by
  induction l with
  | nil => rfl
  | cons a l ih => exact congrArg Nat.succ ih
def lapp {α : Type} (l r : List α) : List α := List.rec (motive := fun _ => List α) r (fun a _ ih => a :: ih) l
theorem lapp_eq {α : Type} (l r : List α) : lapp l r = l ++ r := by
  induction l with
  | nil => rfl
  | cons a l ih => exact congrArg (a :: ·) ih
def ltake {α : Type} (n : Nat) : List α → List α := Nat.rec (motive := fun _ => List α → List α) (fun _ => []) (fun _ ih l => List.casesOn l [] fun a l => a :: ih l) n
theorem ltake_eq {α : Type} (n : Nat) (l : List α) : ltake n l = l.take n := by
  induction n generalizing l with
  | zero => rfl
  | succ n ih => cases l with
    | nil => rfl
    | cons a l => exact congrArg (a :: ·) (ih l)
def ldrop {α : Type} (n : Nat) : List α → List α := Nat.rec (motive := fun _ => List α → List α) (fun l => l) (fun _ ih l => List.casesOn l [] fun _ l => ih l) n
theorem ldrop_eq {α : Type} (n : Nat) (l : List α) : ldrop n l = l.drop n := by
  induction n generalizing l with
  | zero => rfl
  | succ n ih => cases l with
    | nil => rfl
    | cons a l => exact ih l
def linit (vs : List V) (pad : List LV) : List LV := List.rec (motive := fun _ => List LV) pad (fun v _ ih => .v v :: ih) vs
theorem linit_eq (vs : List V) (pad : List LV) : linit vs pad = vs.map .v ++ pad := by
  induction vs with
  | nil => rfl
  | cons a l ih => exact congrArg (LV.v a :: ·) ih
def fput (l : List V) : Nat → V → Option (List V) := List.rec (motive := fun _ => Nat → V → Option (List V)) (fun n x => Nat.casesOn n (some [x]) fun _ => none) (fun a l ih n x => Nat.casesOn n (some (x :: l)) fun m => Option.casesOn (ih m x) none fun l' => some (a :: l')) l
theorem fput_eq (l : List V) (n : Nat) (x : V) (l' : List V) (h : fput l n x = some l') : n ≤ l.length ∧ l' = putV l n x := by
  induction l generalizing n l' with
  | nil => cases n with
    | zero => cases h; exact ⟨Nat.le_refl _, rfl⟩
    | succ n => cases h
  | cons a l ih => cases n with
    | zero => cases h; exact ⟨Nat.zero_le _, rfl⟩
    | succ n =>
      have h' : (Option.casesOn (fput l n x) none fun l' => some (a :: l') : Option (List V)) = some l' := h
      cases q : fput l n x with
      | none => rw [q] at h'; cases h'
      | some m =>
        rw [q] at h'; cases h'
        obtain ⟨h1, h2⟩ := ih n m q
        refine ⟨Nat.succ_le_succ h1, ?_⟩
        rw [h2]
        unfold putV
        rw [List.length_cons]
        by_cases hc : n < l.length
        · rw [if_pos hc, if_pos (Nat.succ_lt_succ hc)]; rfl
        · rw [if_neg hc, if_neg (fun q => hc (Nat.lt_of_succ_lt_succ q))]; rfl

def ile (a b : Int) : Bool := Int.casesOn a (fun a => Int.casesOn b (fun b => Nat.ble a b) fun _ => false) (fun a => Int.casesOn b (fun _ => true) fun b => Nat.ble b a)
theorem ile_eq (a b : Int) : ile a b = decide (a ≤ b) := by
  cases a <;> cases b <;> (unfold ile; simp only [])
  · rename_i a b
    by_cases h : a ≤ b
    · rw [decide_eq_true (by simpa using h), Nat.ble_eq.mpr h]
    · rw [decide_eq_false (by simpa using h)]
      cases q : Nat.ble a b with
      | false => rfl
      | true => exact absurd (Nat.ble_eq.mp q) h
  · rename_i a b
    rw [decide_eq_false]
    intro h
    have := Int.negSucc_lt_zero b
    have := Int.natCast_nonneg a
    simp at *
    omega
  · rename_i a b
    rw [decide_eq_true]
    have := Int.negSucc_lt_zero a
    have := Int.natCast_nonneg b
    simp at *
    omega
  · rename_i a b
    by_cases h : b ≤ a
    · rw [decide_eq_true (by omega), Nat.ble_eq.mpr h]
    · rw [decide_eq_false (by omega)]
      cases q : Nat.ble b a with
      | false => rfl
      | true => exact absurd (Nat.ble_eq.mp q) h
def ieq (a b : Int) : Bool := Int.casesOn a (fun a => Int.casesOn b (fun b => Nat.beq a b) fun _ => false) (fun a => Int.casesOn b (fun _ => false) fun b => Nat.beq a b)
theorem ieq_eq (a b : Int) : ieq a b = (a == b) := by
  rw [Bool.eq_iff_iff, beq_iff_eq]
  cases a <;> cases b <;> (unfold ieq; simp <;> omega)
def imk (x y : Nat) : Int := Bool.casesOn (Nat.ble y x) (.negSucc (Nat.sub (Nat.sub y x) 1)) (.ofNat (Nat.sub x y))
theorem imk_eq (x y : Nat) : imk x y = (x : Int) - y := by
  unfold imk
  cases q : Nat.ble y x with
  | true =>
    have := Nat.ble_eq.mp q
    show (Int.ofNat (x - y)) = _
    simp; omega
  | false =>
    have : ¬ y ≤ x := fun h => by rw [Nat.ble_eq.mpr h] at q; cases q
    show Int.negSucc (y - x - 1) = _
    omega
def iadd (a b : Int) : Int := Int.casesOn a (fun m => Int.casesOn b (fun n => .ofNat (Nat.add m n)) fun n => imk m (Nat.succ n)) (fun m => Int.casesOn b (fun n => imk n (Nat.succ m)) fun n => .negSucc (Nat.succ (Nat.add m n)))
theorem iadd_eq (a b : Int) : iadd a b = a + b := by
  cases a <;> cases b <;> (unfold iadd; simp only [])
  · rfl
  · rw [imk_eq, Int.ofNat_eq_natCast]; omega
  · rw [imk_eq, Int.ofNat_eq_natCast]; omega
  · rfl
def isub (a b : Int) : Int := Int.casesOn a (fun m => Int.casesOn b (fun n => imk m n) fun n => .ofNat (Nat.add m (Nat.succ n))) (fun m => Int.casesOn b (fun n => .negSucc (Nat.add m n)) fun n => imk (Nat.succ n) (Nat.succ m))
theorem isub_eq (a b : Int) : isub a b = a - b := by
  cases a <;> cases b <;> (unfold isub; simp only [])
  · rw [imk_eq]; rfl
  · simp; omega
  · simp; omega
  · rw [imk_eq]; omega
end
end Mine

namespace Mine
open PySem PySem.W PySem.Calls PyProof.Rows
noncomputable section

def sameL (f : V → V → Bool) (l : List V) : List V → Bool := List.rec (motive := fun _ => List V → Bool) (fun r => List.casesOn r true fun _ _ => false) (fun a _ ih r => List.casesOn r false fun b r => Bool.casesOn (f a b) false (ih r)) l
def sameStep (ih : V → V → Bool) (a b : V) : Bool :=
  V.casesOn a false
    (V.casesOn b false true (fun _ => false) (fun _ => false) (fun _ => false) (fun _ => false) (fun _ => false) (fun _ => false) (fun _ => false))
    (fun x => V.casesOn b false false (fun y => Bool.casesOn x (Bool.casesOn y true false) y) (fun _ => false) (fun _ => false) (fun _ => false) (fun _ => false) (fun _ => false) (fun _ => false))
    (fun x => V.casesOn b false false (fun _ => false) (fun y => ieq x y) (fun _ => false) (fun _ => false) (fun _ => false) (fun _ => false) (fun _ => false))
    (fun x => V.casesOn b false false (fun _ => false) (fun _ => false) (fun y => Nat.beq x y) (fun _ => false) (fun _ => false) (fun _ => false) (fun _ => false))
    (fun x => V.casesOn b false false (fun _ => false) (fun _ => false) (fun _ => false) (fun y => Nat.beq x y) (fun _ => false) (fun _ => false) (fun _ => false))
    (fun x => V.casesOn b false false (fun _ => false) (fun _ => false) (fun _ => false) (fun _ => false) (fun y => sameL ih x y) (fun _ => false) (fun _ => false))
    (fun x => V.casesOn b false false (fun _ => false) (fun _ => false) (fun _ => false) (fun _ => false) (fun _ => false) (fun y => sameL ih x y) (fun _ => false))
    (fun _ => false)
def same (k : Nat) : V → V → Bool := Nat.rec (motive := fun _ => V → V → Bool) (fun _ _ => false) (fun _ ih => sameStep ih) k
theorem sameL_eq {c : Cn} {f : V → V → Bool} {k : Nat} (hf : ∀ a b, f a b = true → a = b ∧ a.dat = true ∧ (a.pd c).depth ≤ k) : ∀ l r, sameL f l r = true → l = r ∧ Vs.dat l = true ∧ PyData.depthAll (Vs.pd c l) ≤ k := by
  intro l
  induction l with
  | nil =>
    intro r h
    cases r with
    | nil => exact ⟨rfl, rfl, Nat.zero_le _⟩
    | cons => cases h
  | cons a l ih =>
    intro r h
    cases r with
    | nil => cases h
    | cons b r =>
      have h' : (Bool.casesOn (f a b) false (sameL f l r) : Bool) = true := h
      cases q : f a b with
      | false => rw [q] at h'; cases h'
      | true =>
        rw [q] at h'
        obtain ⟨rfl, d1, d2⟩ := hf a b q
        obtain ⟨rfl, d3, d4⟩ := ih r h'
        refine ⟨rfl, ?_, ?_⟩
        · rw [Vs.dat, d1, d3]; rfl
        · rw [Vs.pd, PyData.depthAll]; exact Nat.max_le.mpr ⟨d2, d4⟩
theorem same_eq {c : Cn} : ∀ k a b, same k a b = true → a = b ∧ a.dat = true ∧ (a.pd c).depth ≤ k := by
  intro k
  induction k with
  | zero => intro a b h; cases h
  | succ k ih =>
    intro a b h
    have h' : sameStep (same k) a b = true := h
    unfold sameStep at h'
    cases a <;> cases b <;> simp only [Bool.false_eq_true] at h'
    · exact ⟨rfl, rfl, Nat.zero_le _⟩
    · rename_i x y
      cases x <;> cases y <;> first | exact ⟨rfl, rfl, Nat.zero_le _⟩ | cases h'
    · rw [ieq_eq, beq_iff_eq] at h'; subst h'; exact ⟨rfl, rfl, Nat.zero_le _⟩
    · have := Nat.eq_of_beq_eq_true h'; subst this; exact ⟨rfl, rfl, Nat.zero_le _⟩
    · have := Nat.eq_of_beq_eq_true h'; subst this; exact ⟨rfl, rfl, Nat.zero_le _⟩
    · obtain ⟨rfl, d1, d2⟩ := sameL_eq (c := c) (k := k) ih _ _ h'
      exact ⟨rfl, by rw [V.dat]; exact d1, by rw [V.pd, PyData.depth]; omega⟩
    · obtain ⟨rfl, d1, d2⟩ := sameL_eq (c := c) (k := k) ih _ _ h'
      exact ⟨rfl, by rw [V.dat]; exact d1, by rw [V.pd, PyData.depth]; omega⟩

def onB (b : Bool) (x : Option V) : Option V := Bool.casesOn b none x
def vadd (a b : V) : Option V :=
  V.casesOn a none none (fun _ => none)
    (fun x => V.casesOn b none none (fun _ => none) (fun y => some (.int (iadd x y))) (fun _ => none) (fun _ => none) (fun _ => none) (fun _ => none) (fun _ => none))
    (fun _ => none) (fun _ => none)
    (fun x => V.casesOn b none none (fun _ => none) (fun _ => none) (fun _ => none) (fun _ => none) (fun y => onB (Nat.ble (Nat.add (llen x) (llen y)) 1000000) (some (.list (lapp x y)))) (fun _ => none) (fun _ => none))
    (fun x => V.casesOn b none none (fun _ => none) (fun _ => none) (fun _ => none) (fun _ => none) (fun _ => none) (fun y => onB (Nat.ble (Nat.add (llen x) (llen y)) 1000000) (some (.tup (lapp x y)))) (fun _ => none))
    (fun _ => none)
def vint2 (f : Int → Int → Option V) (a b : V) : Option V :=
  V.casesOn a none none (fun _ => none) (fun x => V.casesOn b none none (fun _ => none) (fun y => f x y) (fun _ => none) (fun _ => none) (fun _ => none) (fun _ => none) (fun _ => none))
    (fun _ => none) (fun _ => none) (fun _ => none) (fun _ => none) (fun _ => none)
def nmul (x y : Int) : Option V := Int.casesOn x (fun x => Int.casesOn y (fun y => onB (Nat.ble x 1000000) (some (.int (.ofNat (Nat.mul x y))))) fun _ => none) fun _ => none
def nmod (x y : Int) : Option V := Int.casesOn x (fun x => Int.casesOn y (fun y => onB (Nat.ble 1 y) (some (.int (.ofNat (Nat.mod x y))))) fun _ => none) fun _ => none
def binop (op : BOp) (a b : V) : Option V := BOp.casesOn op (vadd a b) (vint2 (fun x y => some (.int (isub x y))) a b) (vint2 nmul a b) (vint2 nmod a b) none
theorem onB_inv {b : Bool} {x : Option V} {v : V} (h : onB b x = some v) : b = true ∧ x = some v := by
  cases b with
  | false => cases h
  | true => exact ⟨rfl, h⟩
theorem binop_ok {c : Cn} {n : Nat} {op : BOp} {a b v : V} (h : binop op a b = some v) : BinOk c n op a b v := by
  cases op with
  | add =>
    have h' : vadd a b = some v := h
    unfold vadd at h'
    cases a <;> cases b <;> simp only [] at h' <;> try cases h'
    · rw [iadd_eq]; exact bin_add rfl rfl
    · obtain ⟨h1, h2⟩ := onB_inv h'
      cases h2
      rw [llen_eq, llen_eq] at h1
      rw [lapp_eq]; exact bin_cat (Nat.ble_eq.mp h1)
    · obtain ⟨h1, h2⟩ := onB_inv h'
      cases h2
      rw [llen_eq, llen_eq] at h1
      rw [lapp_eq]; exact bin_catT (Nat.ble_eq.mp h1)
  | sub =>
    have h' : vint2 (fun x y => some (.int (isub x y))) a b = some v := h
    unfold vint2 at h'
    cases a <;> cases b <;> simp only [] at h' <;> cases h'
    rw [isub_eq]; exact bin_sub rfl rfl
  | mul =>
    have h' : vint2 nmul a b = some v := h
    unfold vint2 at h'
    cases a <;> cases b <;> simp only [] at h' <;> try cases h'
    rename_i x y
    cases x with
    | negSucc => cases h'
    | ofNat x =>
      cases y with
      | negSucc => cases h'
      | ofNat y =>
        obtain ⟨h1, h2⟩ := onB_inv (x := some (V.int (.ofNat (Nat.mul x y)))) h'
        cases h2
        have := Nat.ble_eq.mp h1
        exact bin_mul (i := (x : Int)) (j := (y : Int)) rfl rfl (.of_left (intBits_le_64 (by omega) (by omega)))
  | mod =>
    have h' : vint2 nmod a b = some v := h
    unfold vint2 at h'
    cases a <;> cases b <;> simp only [] at h' <;> try cases h'
    rename_i x y
    cases x with
    | negSucc => cases h'
    | ofNat x =>
      cases y with
      | negSucc => cases h'
      | ofNat y =>
        obtain ⟨h1, h2⟩ := onB_inv (x := some (V.int (.ofNat (Nat.mod x y)))) h'
        cases h2
        have := Nat.ble_eq.mp h1
        have e : Int.ofNat (Nat.mod x y) = (Int.ofNat x).fmod (Int.ofNat y) := by rw [Int.fmod_eq_emod_of_nonneg _ (by simp)]; rfl
        rw [e]
        exact bin_mod (a := .int (.ofNat x)) (b := .int (.ofNat y)) (i := .ofNat x) (j := .ofNat y) rfl rfl (fun q => by cases q; omega)
  | fdiv => cases h

def oB (b : Bool) (x : Bool) : Option Bool := Bool.casesOn b none (some x)
theorem oB_inv {b x t : Bool} (h : oB b x = some t) : b = true ∧ t = x := by
  cases b with
  | false => cases h
  | true => cases h; exact ⟨rfl, rfl⟩
def bnot (b : Bool) : Bool := Bool.casesOn b true false
theorem bnot_eq (b : Bool) : bnot b = !b := by cases b <;> rfl
def cint (f : Int → Int → Bool) (a b : V) : Option Bool :=
  V.casesOn a none none (fun _ => none) (fun x => V.casesOn b none none (fun _ => none) (fun y => some (f x y)) (fun _ => none) (fun _ => none) (fun _ => none) (fun _ => none) (fun _ => none))
    (fun _ => none) (fun _ => none) (fun _ => none) (fun _ => none) (fun _ => none)
/-- equality: of ints, of truths; of equal data -/
def veq (a b : V) : Option Bool :=
  V.casesOn a none (oB (same 8 a b) true)
    (fun x => V.casesOn b none none (fun y => some (Bool.casesOn x (bnot y) y)) (fun _ => none) (fun _ => none) (fun _ => none) (fun _ => none) (fun _ => none) (fun _ => none))
    (fun x => V.casesOn b none none (fun _ => none) (fun y => some (ieq x y)) (fun _ => none) (fun _ => none) (fun _ => none) (fun _ => none) (fun _ => none))
    (fun x => V.casesOn b none none (fun _ => none) (fun _ => none) (fun y => some (Nat.beq x y)) (fun _ => none) (fun _ => none) (fun _ => none) (fun _ => none))
    (fun _ => oB (same 8 a b) true) (fun _ => oB (same 8 a b) true) (fun _ => oB (same 8 a b) true) (fun _ => none)
def vis (a b : V) : Option Bool :=
  V.casesOn b none
    (some (V.casesOn a false true (fun _ => false) (fun _ => false) (fun _ => false) (fun _ => false) (fun _ => false) (fun _ => false) (fun _ => false)))
    (fun y => V.casesOn a none none (fun x => some (Bool.casesOn x (bnot y) y)) (fun _ => none) (fun _ => none) (fun _ => none) (fun _ => none) (fun _ => none) (fun _ => none))
    (fun _ => none) (fun _ => none) (fun _ => none) (fun _ => none) (fun _ => none)
    (fun y => V.casesOn a none none (fun _ => none) (fun _ => none) (fun _ => none) (fun _ => none) (fun _ => none) (fun _ => none) (fun x => some (Nat.beq x y)))
def onot (x : Option Bool) : Option Bool := Option.casesOn x none fun b => some (bnot b)
/-- a key among keys -/
def kin (k : Nat) (l : List V) : Option Bool := List.rec (motive := fun _ => Option Bool) (some false)
  (fun a _ ih => Option.casesOn ih none fun r => V.casesOn a none none (fun _ => none) (fun _ => none) (fun j => some (Bool.casesOn (Nat.beq j k) r true)) (fun _ => none) (fun _ => none) (fun _ => none) (fun _ => none)) l
def vin (a b : V) : Option Bool :=
  V.casesOn b none none (fun _ => none) (fun _ => none) (fun _ => none) (fun _ => none)
    (fun l => V.casesOn a none none (fun _ => none) (fun _ => none) (fun k => kin k l) (fun _ => none) (fun _ => none) (fun _ => none) (fun _ => none)) (fun _ => none) (fun _ => none)
def cmpop (op : COp) (a b : V) : Option Bool :=
  COp.casesOn op (cint (fun x y => bnot (ile y x)) a b) (cint ile a b) (cint (fun x y => bnot (ile x y)) a b) (cint (fun x y => ile y x) a b) (veq a b) (onot (veq a b)) (vis a b) (onot (vis a b)) (onot (vin a b))
theorem cint_inv {f : Int → Int → Bool} {a b : V} {t : Bool} (h : cint f a b = some t) : ∃ x y, a = .int x ∧ b = .int y ∧ t = f x y := by
  unfold cint at h
  cases a <;> cases b <;> simp only [] at h <;> cases h
  exact ⟨_, _, rfl, rfl, rfl⟩
theorem onot_inv {x : Option Bool} {t : Bool} (h : onot x = some t) : ∃ u, x = some u ∧ t = !u := by
  cases x with
  | none => cases h
  | some u => cases h; exact ⟨u, rfl, bnot_eq u⟩
theorem kv_inj (c : Cn) {i j : Nat} : (c.kv i == c.kv j) = Nat.beq i j := by
  rw [Bool.eq_iff_iff, beq_iff_eq, Nat.beq_eq]
  constructor
  · intro h
    rcases Nat.lt_trichotomy i j with q | q | q
    · have := c.kv_lt i j q; omega
    · exact q
    · have := c.kv_lt j i q; omega
  · rintro rfl; rfl
theorem veq_inv (c : Cn) {a b : V} {t : Bool} (h : veq a b = some t) : a.dat = true ∧ b.dat = true ∧ (a.pd c).depth ≤ 64 ∧ (b.pd c).depth ≤ 64 ∧ t = PyData.eqv (a.pd c) (b.pd c) := by
  have gen : oB (same 8 a b) true = some t → a.dat = true ∧ b.dat = true ∧ (a.pd c).depth ≤ 64 ∧ (b.pd c).depth ≤ 64 ∧ t = PyData.eqv (a.pd c) (b.pd c) := fun q => by
    obtain ⟨h1, rfl⟩ := oB_inv q
    obtain ⟨rfl, d, e⟩ := same_eq (c := c) 8 a b h1
    exact ⟨d, d, by omega, by omega, (SeqAt.eqv_refl _ (V.lay a)).symm⟩
  cases a with
  | scr => cases h
  | none => exact gen h
  | bool x =>
    cases b <;> cases h
    exact ⟨rfl, rfl, Nat.zero_le _, Nat.zero_le _, by rename_i y; cases x <;> cases y <;> rfl⟩
  | int x =>
    cases b <;> cases h
    exact ⟨rfl, rfl, Nat.zero_le _, Nat.zero_le _, by rw [ieq_eq]; simp [V.pd, PyData.eqv]⟩
  | key x =>
    cases b <;> cases h
    exact ⟨rfl, rfl, Nat.zero_le _, Nat.zero_le _, by rw [← kv_inj c]; simp [V.pd, PyData.eqv]⟩
  | val x => exact gen h
  | list x => exact gen h
  | tup x => exact gen h
  | obj x => cases h
theorem kin_inv (c : Cn) {k : Nat} {l : List V} : ∀ {t : Bool}, kin k l = some t → Vs.dat l = true ∧ t = (Vs.pd c l).any fun y => PyData.eqv y (.int (c.kv k)) := by
  induction l with
  | nil => intro t h; cases h; exact ⟨rfl, rfl⟩
  | cons a l ih =>
    intro t h
    have h' : (Option.casesOn (kin k l) none fun r => V.casesOn a none none (fun _ => none) (fun _ => none) (fun j => some (Bool.casesOn (Nat.beq j k) r true)) (fun _ => none) (fun _ => none) (fun _ => none) (fun _ => none) : Option Bool) = some t := h
    cases q : kin k l with
    | none => rw [q] at h'; cases h'
    | some r =>
      rw [q] at h'
      cases a <;> cases h'
      obtain ⟨d, e⟩ := ih q
      rename_i j
      refine ⟨by rw [Vs.dat, d]; rfl, ?_⟩
      rw [Vs.pd, List.any_cons, ← e, V.pd, show PyData.eqv (.int (c.kv j)) (.int (c.kv k)) = (c.kv j == c.kv k) by simp [PyData.eqv], kv_inj c]
      cases Nat.beq j k <;> rfl
theorem vis_inv {a b : V} {t : Bool} (h : vis a b = some t) : (b = .none ∧ t = a.isNone) ∨ (∃ x y, a = .bool x ∧ b = .bool y ∧ t = (x == y)) ∨ (∃ x y, a = .obj x ∧ b = .obj y ∧ t = decide (x = y)) := by
  cases b with
  | none => left; cases a <;> cases h <;> exact ⟨rfl, rfl⟩
  | bool y =>
    right; left
    cases a <;> cases h
    rename_i x
    exact ⟨x, y, rfl, rfl, by cases x <;> cases y <;> rfl⟩
  | obj y =>
    right; right
    cases a <;> cases h
    rename_i x
    refine ⟨x, y, rfl, rfl, ?_⟩
    rw [Bool.eq_iff_iff, Nat.beq_eq, decide_eq_true_iff]
  | _ => cases h
theorem cmpop_ok {c : Cn} {n : Nat} {op : COp} {a b : V} {t : Bool} (h : cmpop op a b = some t) : CmpOk c n op a b t := by
  cases op with
  | lt =>
    obtain ⟨x, y, rfl, rfl, rfl⟩ := cint_inv (show cint _ a b = some t from h)
    rw [bnot_eq, ile_eq, show (!decide (y ≤ x)) = decide (x < y) by rw [← decide_not]; congr 1; simp]
    exact cmp_lt rfl rfl
  | le =>
    obtain ⟨x, y, rfl, rfl, rfl⟩ := cint_inv (show cint _ a b = some t from h)
    rw [ile_eq]; exact cmp_le rfl rfl
  | gt =>
    obtain ⟨x, y, rfl, rfl, rfl⟩ := cint_inv (show cint _ a b = some t from h)
    rw [bnot_eq, ile_eq, show (!decide (x ≤ y)) = decide (y < x) by rw [← decide_not]; congr 1; simp]
    exact cmp_gt rfl rfl
  | ge =>
    obtain ⟨x, y, rfl, rfl, rfl⟩ := cint_inv (show cint _ a b = some t from h)
    rw [ile_eq]; exact cmp_ge rfl rfl
  | eq =>
    obtain ⟨h1, h2, h3, h4, h5⟩ := veq_inv c (show veq a b = some t from h)
    exact cmp_dat h1 h2 h3 h4 (.inl ⟨rfl, h5⟩)
  | ne =>
    obtain ⟨u, hu, rfl⟩ := onot_inv (show onot (veq a b) = some t from h)
    obtain ⟨h1, h2, h3, h4, h5⟩ := veq_inv c hu
    exact cmp_dat h1 h2 h3 h4 (.inr ⟨rfl, by rw [h5]⟩)
  | is =>
    rcases vis_inv (show vis a b = some t from h) with ⟨rfl, e⟩ | ⟨x, y, rfl, rfl, e⟩ | ⟨x, y, rfl, rfl, e⟩
    · exact cmp_is_none (.inl ⟨rfl, e⟩)
    · exact cmp_is_bool (.inl ⟨rfl, e⟩)
    · exact cmp_is_obj (.inl ⟨rfl, e⟩)
  | isnot =>
    obtain ⟨u, hu, rfl⟩ := onot_inv (show onot (vis a b) = some t from h)
    rcases vis_inv hu with ⟨rfl, e⟩ | ⟨x, y, rfl, rfl, e⟩ | ⟨x, y, rfl, rfl, e⟩
    · exact cmp_is_none (.inr ⟨rfl, by rw [e]⟩)
    · exact cmp_is_bool (.inr ⟨rfl, by rw [e]⟩)
    · exact cmp_is_obj (.inr ⟨rfl, by rw [e]⟩)
  | notin =>
    obtain ⟨u, hu, rfl⟩ := onot_inv (show onot (vin a b) = some t from h)
    unfold vin at hu
    cases b <;> try cases hu
    cases a <;> try cases hu
    rename_i l k
    obtain ⟨d, e⟩ := kin_inv c (show kin k l = some u from hu)
    exact cmp_notin rfl d (Nat.zero_le _) (by rw [e, V.pd])

/-! slices, ranges -/
def kpos (o : Option Int) (d n : Nat) : Nat := Option.casesOn o d fun i => Int.casesOn i (fun k => Bool.casesOn (Nat.ble k n) n k) (fun k => Nat.sub n (Nat.succ k))
theorem klo_eq (o : Option Int) (n : Nat) : kpos o 0 n = kms_lo o n := by
  cases o with
  | none => rfl
  | some i =>
    unfold kpos kms_lo
    cases i with
    | ofNat k =>
      show (Bool.casesOn (Nat.ble k n) n k : Nat) = if Int.ofNat k < 0 then n - (-Int.ofNat k).toNat else min (Int.ofNat k).toNat n
      rw [if_neg (by simp)]
      cases q : Nat.ble k n with
      | true => have := Nat.ble_eq.mp q; simp; omega
      | false =>
        have : ¬ k ≤ n := fun h => by rw [Nat.ble_eq.mpr h] at q; cases q
        simp; omega
    | negSucc k =>
      show n - (k + 1) = if Int.negSucc k < 0 then n - (-Int.negSucc k).toNat else min (Int.negSucc k).toNat n
      rw [if_pos (Int.negSucc_lt_zero k)]
      congr 1
theorem khi_eq (o : Option Int) (n : Nat) : kpos o n n = kms_hi o n := by
  cases o with
  | none => rfl
  | some i => exact klo_eq (some i) n
def spick (l : List V) (lo hi : Option Int) : List V := (fun n => (fun a => ltake (Nat.sub (kpos hi n n) a) (ldrop a l)) (kpos lo 0 n)) (llen l)
theorem spick_eq (l : List V) (lo hi : Option Int) : spick l lo hi = vpick l lo hi := by
  show ltake (Nat.sub (kpos hi (llen l) (llen l)) (kpos lo 0 (llen l))) (ldrop (kpos lo 0 (llen l)) l) = _
  rw [ltake_eq, ldrop_eq, klo_eq, khi_eq, llen_eq]; rfl
def rgen (d : Int) (k : Nat) : Int → List V := Nat.rec (motive := fun _ => Int → List V) (fun _ => []) (fun _ ih a => .int a :: ih (iadd a d)) k
theorem rgen_eq (d : Int) (k : Nat) : ∀ a, rgen d k a = rng a d k := by
  induction k with
  | zero => intro a; rfl
  | succ k ih =>
    intro a
    show V.int a :: rgen d k (iadd a d) = _
    rw [ih, iadd_eq]
    unfold rng
    rw [List.range_succ_eq_map, List.map_cons, List.map_map]
    congr 1
    · congr 1; simp
    · apply List.map_congr_left
      intro i _
      show V.int _ = V.int _
      congr 1
      simp only [Nat.succ_eq_add_one, Int.natCast_add, Int.add_mul]
      omega
def rsize (a b d : Int) : Nat := Int.casesOn d
  (fun s => Bool.casesOn (ile b a) (Nat.add (Nat.div (Nat.sub (isub b a).toNat 1) s) 1) 0)
  (fun s => Bool.casesOn (ile a b) (Nat.add (Nat.div (Nat.sub (isub a b).toNat 1) (Nat.succ s)) 1) 0)
theorem rsize_eq {a b d : Int} (hd : d ≠ 0) : Builtin.Range.rangeSize a b d = rsize a b d := by
  unfold Builtin.Range.rangeSize rsize
  cases d with
  | ofNat s =>
    have hs : (0 : Int) < Int.ofNat s := by
      rcases Nat.eq_zero_or_pos s with rfl | h
      · exact absurd rfl hd
      · simpa using h
    rw [if_pos hs]
    show _ = ((Bool.casesOn (ile b a) (Nat.add (Nat.div (Nat.sub (isub b a).toNat 1) s) 1) 0 : Nat) : Int)
    rw [ile_eq]
    by_cases h : a < b
    · rw [if_pos h, decide_eq_false (by omega), isub_eq]
      show _ = ((Nat.div ((b - a).toNat - 1) s + 1 : Nat) : Int)
      have e : b - a - 1 = (((b - a).toNat - 1 : Nat) : Int) := by omega
      rw [e]; rfl
    · rw [if_neg h, decide_eq_true (by omega)]; rfl
  | negSucc s =>
    rw [if_neg (by have := Int.negSucc_lt_zero s; omega)]
    show _ = ((Bool.casesOn (ile a b) (Nat.add (Nat.div (Nat.sub (isub a b).toNat 1) (Nat.succ s)) 1) 0 : Nat) : Int)
    rw [ile_eq]
    by_cases h : b < a
    · rw [if_pos h, decide_eq_false (by omega), isub_eq]
      show _ = ((Nat.div ((a - b).toNat - 1) (s + 1) + 1 : Nat) : Int)
      have e : a - b - 1 = (((a - b).toNat - 1 : Nat) : Int) := by omega
      rw [e]; rfl
    · rw [if_neg h, decide_eq_true (by omega)]; rfl
def vsumL (l : List V) : Option Int := List.rec (motive := fun _ => Option Int) (some (.ofNat 0)) (fun a _ ih => Option.casesOn ih none fun r => V.casesOn a none none (fun _ => none) (fun i => some (iadd i r)) (fun _ => none) (fun _ => none) (fun _ => none) (fun _ => none) (fun _ => none)) l
theorem vsumL_eq (c : Cn) {l : List V} : ∀ {r : Int}, vsumL l = some r → ∃ is, vnums c l = some is ∧ is.sum = r := by
  induction l with
  | nil => intro r h; cases h; exact ⟨[], rfl, rfl⟩
  | cons a l ih =>
    intro r h
    have h' : (Option.casesOn (vsumL l) none fun r => V.casesOn a none none (fun _ => none) (fun i => some (iadd i r)) (fun _ => none) (fun _ => none) (fun _ => none) (fun _ => none) (fun _ => none) : Option Int) = some r := h
    cases q : vsumL l with
    | none => rw [q] at h'; cases h'
    | some s =>
      rw [q] at h'
      cases a <;> cases h'
      obtain ⟨is, h1, h2⟩ := ih q
      rename_i i
      refine ⟨i :: is, by unfold vnums; rw [h1]; rfl, ?_⟩
      rw [List.sum_cons, h2, iadd_eq]
end
end Mine

namespace Mine
open PySem PySem.W PySem.Calls PyProof.Rows
noncomputable section

def vObj (v : V) (k : Nat → Option Res) : Option Res := V.casesOn v none none (fun _ => none) (fun _ => none) (fun _ => none) (fun _ => none) (fun _ => none) (fun _ => none) k
def vList (v : V) (k : List V → Option Res) : Option Res := V.casesOn v none none (fun _ => none) (fun _ => none) (fun _ => none) (fun _ => none) k (fun _ => none) (fun _ => none)
def vTup (v : V) (k : List V → Option Res) : Option Res := V.casesOn v none none (fun _ => none) (fun _ => none) (fun _ => none) (fun _ => none) (fun _ => none) k (fun _ => none)
def vSeq (v : V) (k : List V → Option Res) : Option Res := V.casesOn v none none (fun _ => none) (fun _ => none) (fun _ => none) (fun _ => none) k k (fun _ => none)
def vBool (v : V) (k : Bool → Option Res) : Option Res := V.casesOn v none none k (fun _ => none) (fun _ => none) (fun _ => none) (fun _ => none) (fun _ => none) (fun _ => none)
def vInt (v : V) (k : Int → Option Res) : Option Res := V.casesOn v none none (fun _ => none) k (fun _ => none) (fun _ => none) (fun _ => none) (fun _ => none) (fun _ => none)
def vNat (v : V) (k : Nat → Option Res) : Option Res := vInt v fun i => Int.casesOn i k fun _ => none
def lvV (v : LV) (k : V → Option Res) : Option Res := LV.casesOn v none k (fun _ => none) fun _ _ => none
def lvO (v : LV) (k : List V → Option Res) : Option Res := LV.casesOn v none (fun _ => none) k fun _ _ => none
theorem vObj_inv {v : V} {k : Nat → Option Res} {z : Res} (h : vObj v k = some z) : ∃ a, v = .obj a ∧ k a = some z := by cases v <;> first | exact ⟨_, rfl, h⟩ | cases h
theorem vList_inv {v : V} {k : List V → Option Res} {z : Res} (h : vList v k = some z) : ∃ a, v = .list a ∧ k a = some z := by cases v <;> first | exact ⟨_, rfl, h⟩ | cases h
theorem vTup_inv {v : V} {k : List V → Option Res} {z : Res} (h : vTup v k = some z) : ∃ a, v = .tup a ∧ k a = some z := by cases v <;> first | exact ⟨_, rfl, h⟩ | cases h
theorem vSeq_inv {v : V} {k : List V → Option Res} {z : Res} (h : vSeq v k = some z) : ∃ a, (v = .list a ∨ v = .tup a) ∧ k a = some z := by cases v <;> first | exact ⟨_, .inl rfl, h⟩ | exact ⟨_, .inr rfl, h⟩ | cases h
theorem vBool_inv {v : V} {k : Bool → Option Res} {z : Res} (h : vBool v k = some z) : ∃ a, v = .bool a ∧ k a = some z := by cases v <;> first | exact ⟨_, rfl, h⟩ | cases h
theorem vInt_inv {v : V} {k : Int → Option Res} {z : Res} (h : vInt v k = some z) : ∃ a, v = .int a ∧ k a = some z := by cases v <;> first | exact ⟨_, rfl, h⟩ | cases h
theorem vNat_inv {v : V} {k : Nat → Option Res} {z : Res} (h : vNat v k = some z) : ∃ a : Nat, v = .int (a : Int) ∧ k a = some z := by
  obtain ⟨i, rfl, h⟩ := vInt_inv h
  cases i with
  | ofNat a => exact ⟨a, rfl, h⟩
  | negSucc a => cases h
theorem lvV_inv {v : LV} {k : V → Option Res} {z : Res} (h : lvV v k = some z) : ∃ a, v = .v a ∧ k a = some z := by cases v <;> first | exact ⟨_, rfl, h⟩ | cases h
theorem lvO_inv {v : LV} {k : List V → Option Res} {z : Res} (h : lvO v k = some z) : ∃ a, v = .own a ∧ k a = some z := by cases v <;> first | exact ⟨_, rfl, h⟩ | cases h

def small {α : Type} (l : List α) (k : Option Res) : Option Res := cond' (Nat.ble (llen l) 1000000) k
theorem small_inv {α : Type} {l : List α} {k : Option Res} {z : Res} (h : small l k = some z) : l.length ≤ 1000000 ∧ k = some z := by
  obtain ⟨h1, h2⟩ := cond_inv h
  rw [llen_eq] at h1
  exact ⟨Nat.ble_eq.mp h1, h2⟩

variable (pg : Pg) (ih : IH) (n : Nat) (l : List LV) (h : List Inst)

def j_loc (i : Nat) : Option Res := withO (nth l i) fun lv => lvV lv fun v => some (.v v h)
def j_glob (g : Nat) : Option Res := withO (pg.glob g) fun x => some (.v x.2 h)
def j_bin (op : BOp) (a b : E) : Option Res := withV (ih n (.e a) l h) fun x h => withV (ih n (.e b) l h) fun y h => withO (binop op x y) fun z => some (.v z h)
def j_cmp (op : COp) (a b : E) : Option Res := withV (ih n (.e a) l h) fun x h => withV (ih n (.e b) l h) fun y h => withO (cmpop op x y) fun z => some (.v (.bool z) h)
def j_ccmp (op : COp) (a b : E) : Option Res := withV (ih n (.e a) l h) fun x h => withV (ih n (.e b) l h) fun y h => withO (cmpop op x y) fun z => some (.b z h)
def j_attr (e : E) (f : Nat) : Option Res := withV (ih n (.e e) l h) fun x h => vObj x fun k => withO (nth h k) fun i => withO (pg.fpos i.cls f) fun j => withO (nth i.fs j) fun v => some (.v v h)
def j_idxS (xs : List V) (y : V) (h : List Inst) : Option Res := vNat y fun k => withO (nth xs k) fun v => cond' (Nat.ble (llen xs) 1000000) (some (.v v h))
def j_idx (a b : E) : Option Res := withV (ih n (.e a) l h) fun x h => withV (ih n (.e b) l h) fun y h => vSeq x fun xs => j_idxS xs y h
/-- an owned slot's item -/
def j_idxO (i : Nat) (b : E) : Option Res := withO (nth l i) fun lv => LV.casesOn lv none
  (fun x => withV (ih n (.e b) l h) fun y h => vSeq x fun xs => j_idxS xs y h)
  (fun xs => withV (ih n (.e b) l h) fun y h => j_idxS xs y h) fun _ _ => none
def locOf (e : E) : Option Nat := E.casesOn e (fun _ => none) (fun _ _ => none) (fun _ _ _ => none) (fun _ _ => none) (fun i _ _ => some i) (fun _ _ _ => none) (fun _ _ _ _ => none) (fun _ _ _ _ => none) (fun _ _ _ _ => none) (fun _ _ _ => none) (fun _ _ _ _ _ => none) (fun _ _ => none) (fun _ _ _ => none) (fun _ _ _ _ _ => none) (fun _ _ _ _ _ _ => none) (fun _ _ _ _ _ _ _ => none)
def j_idx' (a b : E) : Option Res := Option.casesOn (locOf a) (j_idx ih n l h a b) fun i => j_idxO ih n l h i b
def j_slice (a : E) (lo hi : Option E) : Option Res := withV (ih n (.e a) l h) fun x h => withI (ih n (.eo lo) l h) fun lo h => withI (ih n (.eo hi) l h) fun hi h => vList x fun xs => small xs (some (.v (.list (spick xs lo hi)) h))
def j_list (es : List E) : Option Res := withVs (ih n (.es es) l h) fun xs h => small xs (some (.v (.list xs) h))
def j_tup (es : List E) : Option Res := withVs (ih n (.es es) l h) fun xs h => small xs (some (.v (.tup xs) h))
def flRes (f : Fl) (h : List Inst) : Option Res := Fl.casesOn f (some (.v .none h)) fun v => some (.v v h)
def doAst (np : Nat) (pad : List LV) (body : List S) (n : Nat) (vs : List V) (h : List Inst) : Option Res := cond' (Nat.beq (llen vs) np) (withF (ih n (.ss body) (linit vs pad) h) fun f _ h => flRes f h)
def doNat (f : List V → List Inst → Option (V × List Inst)) (vs : List V) (h : List Inst) : Option Res := withO (f vs h) fun r => some (.v r.1 r.2)
def doFn (fn : Fn) (n : Nat) (vs : List V) (h : List Inst) : Option Res := Fn.casesOn fn (fun np pad _ body => Nat.casesOn n none fun n => doAst ih np pad body n vs h) (fun d f => cond' (Nat.ble d n) (doNat f vs h))
def doCall (k : Nat) (vs : List V) (h : List Inst) : Option Res := withO (pg.fns k) fun fn => doFn ih fn n vs h
def vNone (v : V) (k : Option Res) : Option Res := V.casesOn v none k (fun _ => none) (fun _ => none) (fun _ => none) (fun _ => none) (fun _ => none) (fun _ => none) (fun _ => none)
def doNew (k : Nat) (vs : List V) (h : List Inst) : Option Res := Nat.casesOn n none fun n => withV (doCall pg ih n (pg.init k) (.obj (llen h) :: vs) (lapp h [⟨k, []⟩])) fun r h' => vNone r (some (.v (.obj (llen h)) h'))
def j_len1 (x : V) (h : List Inst) : Option Res := vSeq x fun xs => small xs (some (.v (.int (.ofNat (llen xs))) h))
def headE (es : List E) : Option Nat := List.casesOn es none fun e es => List.casesOn es (locOf e) fun _ _ => none
def j_len (es : List E) : Option Res := Option.casesOn (headE es)
  (withVs (ih n (.es es) l h) fun xs h => List.casesOn xs none fun x xs => List.casesOn xs (j_len1 x h) fun _ _ => none)
  fun i => withO (nth l i) fun lv => LV.casesOn lv none (fun x => j_len1 x h) (fun xs => small xs (some (.v (.int (.ofNat (llen xs))) h))) fun _ _ => none
def j_sum (es : List E) : Option Res := withVs (ih n (.es es) l h) fun xs h => List.casesOn xs none fun x xs => List.casesOn xs (vList x fun ys => withO (vsumL ys) fun i => some (.v (.int i) h)) fun _ _ => none
def j_max (es : List E) : Option Res := withVs (ih n (.es es) l h) fun xs h => List.casesOn xs none fun x xs => List.casesOn xs none fun y xs => List.casesOn xs (vInt x fun i => vInt y fun j => some (.v (.int (Bool.casesOn (ile j i) j i)) h)) fun _ _ => none
def j_listOf (es : List E) : Option Res := withVs (ih n (.es es) l h) fun xs h => List.casesOn xs none fun x xs => List.casesOn xs (vSeq x fun ys => small ys (some (.v (.list ys) h))) fun _ _ => none
def j_tupOf (es : List E) : Option Res := withVs (ih n (.es es) l h) fun xs h => List.casesOn xs none fun x xs => List.casesOn xs (vList x fun ys => small ys (some (.v (.tup ys) h))) fun _ _ => none
def j_fn (k : Nat) (es : List E) : Option Res := withVs (ih n (.es es) l h) fun vs h => doCall pg ih n k vs h
def j_cls (k : Nat) (es : List E) : Option Res := withVs (ih n (.es es) l h) fun vs h => doNew pg ih n k vs h
def j_call (f : Cal) (es : List E) : Option Res := Cal.casesOn f (fun k => j_fn pg ih n l h k es) (fun k => j_cls pg ih n l h k es) (j_len ih n l h es) (j_sum ih n l h es) (j_max ih n l h es) (j_listOf ih n l h es) (j_tupOf ih n l h es) none
def j_meth (o : E) (f : Nat) (es : List E) : Option Res := withV (ih n (.e o) l h) fun x h => vObj x fun k => withO (nth h k) fun i => withO (pg.mth i.cls f) fun m => withVs (ih n (.es es) l h) fun vs h => doCall pg ih n m (.obj k :: vs) h
def caps (l : List LV) (cs : List Nat) : Option (List LV) := List.rec (motive := fun _ => Option (List LV)) (some []) (fun c _ ih => Option.casesOn ih none fun r => Option.casesOn (nth l c) none fun lv => LV.casesOn lv none (fun v => some (.v v :: r)) (fun _ => none) fun _ _ => none) cs
def j_comp (elt : E) (cs : List Nat) (it : E) : Option Res := withO (caps l cs) fun cv => withVs (ih n (.it it) l h) fun xs h => withVs (ih n (.compl elt xs) cv h) fun ys h => some (.v (.list ys) h)
def j_e (x : E) : Option Res := E.casesOn x (fun _ => some (.v .none h)) (fun i _ => some (.v (.int i) h)) (fun i _ _ => some (.v (.int (isub (.ofNat 0) i)) h)) (fun b _ => some (.v (.bool b) h)) (fun i _ _ => j_loc l h i) (fun g _ _ => j_glob pg h g)
  (fun op a b _ => j_bin ih n l h op a b) (fun op a b _ => j_cmp ih n l h op a b) (fun e f _ _ => j_attr pg ih n l h e f) (fun a b _ => j_idx' ih n l h a b) (fun a lo hi _ _ => j_slice ih n l h a lo hi)
  (fun es _ => j_list ih n l h es) (fun es _ _ => j_tup ih n l h es) (fun f _ _ es _ => j_call pg ih n l h f es) (fun o f _ _ es _ => j_meth pg ih n l h o f es) (fun elt cs _ _ it _ _ => j_comp ih n l h elt cs it)
def j_es (xs : List E) : Option Res := List.casesOn xs (some (.vs [] h)) fun x xs => withV (ih n (.e x) l h) fun y h => withVs (ih n (.es xs) l h) fun ys h => some (.vs (y :: ys) h)
def j_eo (x : Option E) : Option Res := Option.casesOn x (some (.o none h)) fun x => withV (ih n (.e x) l h) fun y h => vInt y fun i => some (.o (some i) h)
def j_ce (x : E) : Option Res := withV (ih n (.e x) l h) fun y h => vBool y fun b => some (.b b h)
def j_c (x : C) : Option Res := C.casesOn x (fun x => j_ce ih n l h x) (fun op a b _ => j_ccmp ih n l h op a b) (fun x _ => withB (ih n (.c x) l h) fun b h => some (.b (bnot b) h)) (fun xs _ => ih n (.cand xs) l h) (fun xs _ => ih n (.cor xs) l h)
def j_and (xs : List C) : Option Res := List.casesOn xs (some (.b true h)) fun x xs => withB (ih n (.c x) l h) fun b h => Bool.casesOn b (some (.b false h)) (ih n (.cand xs) l h)
def j_or (xs : List C) : Option Res := List.casesOn xs (some (.b false h)) fun x xs => withB (ih n (.c x) l h) fun b h => Bool.casesOn b (ih n (.cor xs) l h) (some (.b true h))
def small3 (i : Int) (k : Option Res) : Option Res := cond' (Nat.ble i.natAbs 99999) k
def j_range (vs : List V) (h : List Inst) : Option Res := List.casesOn vs none fun a vs => List.casesOn vs
  (vNat a fun k => cond' (Nat.ble k 1000000) (some (.vs (rgen (.ofNat 1) k (.ofNat 0)) h)))
  fun b vs => List.casesOn vs none fun d vs => List.casesOn vs (vInt a fun a => vInt b fun b => vInt d fun d => small3 a (small3 b (small3 d (cond' (bnot (ieq d (.ofNat 0))) (cond' (Nat.ble (rsize a b d) 1000000) (some (.vs (rgen d (rsize a b d) a) h))))))) fun _ _ => none
def rngOf (e : E) : Option (List E) := E.casesOn e (fun _ => none) (fun _ _ => none) (fun _ _ _ => none) (fun _ _ => none) (fun _ _ _ => none) (fun _ _ _ => none) (fun _ _ _ _ => none) (fun _ _ _ _ => none) (fun _ _ _ _ => none) (fun _ _ _ => none) (fun _ _ _ _ _ => none) (fun _ _ => none) (fun _ _ _ => none)
  (fun f _ _ es _ => Cal.casesOn f (fun _ => none) (fun _ => none) none none none none none (some es)) (fun _ _ _ _ _ _ => none) (fun _ _ _ _ _ _ _ => none)
def j_it (x : E) : Option Res := Option.casesOn (rngOf x) (withV (ih n (.e x) l h) fun y h => vSeq y fun xs => small xs (some (.vs xs h))) fun es => withVs (ih n (.es es) l h) fun vs h => j_range vs h
def j_compl (elt : E) (xs : List V) : Option Res := List.casesOn xs (some (.vs [] h)) fun x xs => withV (ih n (.e elt) (.v x :: l) h) fun y h => withVs (ih n (.compl elt xs) l h) fun ys h => some (.vs (y :: ys) h)
def onF (f : Fl) (l : List LV) (h : List Inst) (k : Option Res) : Option Res := Fl.casesOn f k fun v => some (.fl (.ret v) l h)
def s_ite (c : C) (a b rest : List S) : Option Res := withB (ih n (.c c) l h) fun t h => withF (ih n (.ss (Bool.casesOn t b a)) l h) fun f l h => onF f l h (ih n (.ss rest) l h)
def s_for (i : Nat) (it : E) (body rest : List S) : Option Res := withVs (ih n (.it it) l h) fun xs h => withF (ih n (.forl i xs body) l h) fun f l h => onF f l h (ih n (.ss rest) l h)
def s_while (c : C) (body rest : List S) : Option Res := withF (ih n (.whl c body) l h) fun f l h => onF f l h (ih n (.ss rest) l h)
def s_append (i : Nat) (e : E) (rest : List S) : Option Res := withO (nth l i) fun lv => lvO lv fun xs => small xs (withV (ih n (.e e) l h) fun y h => ih n (.ss rest) (lput' l i (.own (lapp xs [y]))) h)
def s_del (i : Nat) (e : E) (rest : List S) : Option Res := withO (nth l i) fun lv => lvO lv fun xs => small xs (withV (ih n (.e e) l h) fun y h => vNat y fun k => cond' (Nat.beq (llen xs) (Nat.succ k)) (ih n (.ss rest) (lput' l i (.own (ltake k xs))) h))
def s_setattr (o : E) (f : Nat) (e : E) (rest : List S) : Option Res := withV (ih n (.e e) l h) fun y h => withV (ih n (.e o) l h) fun x h => vObj x fun k => withO (nth h k) fun i => withO (pg.fpos i.cls f) fun j => cond' (Nat.ble (llen i.fs) 10) (withO (fput i.fs j y) fun fs => ih n (.ss rest) l (lput' h k ⟨i.cls, fs⟩))
def setMany' (is : List (Nat × Str × Ps)) : List V → List LV → Option (List LV) := List.rec (motive := fun _ => List V → List LV → Option (List LV)) (fun vs l => List.casesOn vs (some l) fun _ _ => none) (fun i _ ih vs l => List.casesOn vs none fun v vs => ih vs (lput' l i.1 (.v v))) is
def s_unpack (is : List (Nat × Str × Ps)) (e : E) (rest : List S) : Option Res := withV (ih n (.e e) l h) fun x h => vTup x fun vs => withO (setMany' is vs l) fun l => ih n (.ss rest) l h
def s_own (i : Nat) (es : List E) (rest : List S) : Option Res := withVs (ih n (.es es) l h) fun vs h => small vs (ih n (.ss rest) (lput' l i (.own vs)) h)
def s_freeze (i : Nat) (rest : List S) : Option Res := withO (nth l i) fun lv => lvO lv fun xs => ih n (.ss rest) (lput' l i (.v (.list xs))) h
def compOf (e : E) : Option (E × List Nat × E) := E.casesOn e (fun _ => none) (fun _ _ => none) (fun _ _ _ => none) (fun _ _ => none) (fun _ _ _ => none) (fun _ _ _ => none) (fun _ _ _ _ => none) (fun _ _ _ _ => none) (fun _ _ _ _ => none) (fun _ _ _ => none) (fun _ _ _ _ _ => none) (fun _ _ => none) (fun _ _ _ => none) (fun _ _ _ _ _ => none) (fun _ _ _ _ _ _ => none) (fun elt cs _ _ it _ _ => some (elt, cs, it))
def s_assign (i : Nat) (e : E) (rest : List S) : Option Res := withV (Option.casesOn (compOf e) (ih n (.e e) l h) fun x => j_comp ih n l h x.1 x.2.1 x.2.2) fun y h => ih n (.ss rest) (lput' l i (.v y)) h
def j_ss (xs : List S) : Option Res := List.casesOn xs (some (.fl .next l h)) fun x rest => S.casesOn x
  (fun i _ _ e _ => s_assign ih n l h i e rest)
  (fun i _ _ es _ _ => s_own ih n l h i es rest)
  (fun o f _ _ e _ => s_setattr pg ih n l h o f e rest)
  (fun is _ _ e _ => s_unpack ih n l h is e rest)
  (fun c a b _ => s_ite ih n l h c a b rest)
  (fun i _ _ it body _ => s_for ih n l h i it body rest)
  (fun c body _ => s_while ih n l h c body rest)
  (fun e _ => withV (ih n (.e e) l h) fun y h => some (.fl (.ret y) l h))
  (fun e _ => withV (ih n (.e e) l h) fun _ h => ih n (.ss rest) l h)
  (fun i _ _ _ e _ _ => s_append ih n l h i e rest)
  (fun i _ _ e _ _ => s_del ih n l h i e rest)
  (fun i => s_freeze ih n l h i rest)
  (fun _ => none)
def j_whl (c : C) (body : List S) : Option Res := withB (ih n (.c c) l h) fun t h => Bool.casesOn t (some (.fl .next l h)) (withF (ih n (.ss body) l h) fun f l h => onF f l h (ih n (.whl c body) l h))
def j_forl (i : Nat) (xs : List V) (body : List S) : Option Res := List.casesOn xs (some (.fl .next l h)) fun x xs => withF (ih n (.ss body) (lput' l i (.v x)) h) fun f l h => onF f l h (ih n (.forl i xs body) l h)
def step (j : Job) : Option Res := Job.casesOn j (fun x => j_e pg ih n l h x) (fun x => j_es ih n l h x) (fun x => j_eo ih n l h x) (fun x => j_c ih n l h x) (fun x => j_and ih n l h x) (fun x => j_or ih n l h x) (fun x => j_it ih n l h x) (fun x => j_ss pg ih n l h x)
  (fun c b => j_whl ih n l h c b) (fun i xs b => j_forl ih n l h i xs b) (fun e xs => j_compl ih n l h e xs)
end
noncomputable def run (pg : Pg) (k : Nat) : IH := Nat.rec (motive := fun _ => IH) (fun _ _ _ _ => none) (fun _ ih n j l h => step pg ih n l h j) k

/-! ## what is looked at once -/
def compNm (nm : Nm) (sc : Scope) (x : Str) (cs : List Nat) : Nm := ⟨x :: cs.map fun j => (nm.ns[j]?).getD x, (sc.names.filter fun y => y.2 == .globalImplicit && decide (sc.names.lookup y.1 = some .globalImplicit)).map (·.1), [], []⟩
def okComp (nm : Nm) (sc : Scope) (x : Str) (cs : List Nat) : Bool :=
  decide (sc.kind = .function) && decide (sc.names.lookup x = some .local) && sc.names.all (fun y => decide (y.2 ≠ .cell) && (decide (y.2 ≠ .local) || decide (sc.names.lookup y.1 = some .local)) && (decide (y.2 ≠ .free) || (cs.map fun j => (nm.ns[j]?).getD x).contains y.1))
  && cs.all (fun j => decide (j < nm.ns.length) && nm.cs.contains ((nm.ns[j]?).getD x) && decide (sc.names.lookup ((nm.ns[j]?).getD x) = some .free))
def dbg (x : Str) : Bool := !(x == ("__debug__" : Str))
def Cal.ok (pg : Pg) (f : Cal) (x : Str) : Bool := match f with
  | .fn k => decide (pg.gname k = some x)
  | .cls k => decide (pg.cname k = some x)
  | .len => decide (x = ("len" : Str))
  | .sum => decide (x = ("sum" : Str))
  | .max => decide (x = ("max" : Str))
  | .list => decide (x = ("list" : Str))
  | .tuple => decide (x = ("tuple" : Str))
  | .range => decide (x = ("range" : Str))
mutual
def E.ok (pg : Pg) (nm : Nm) : E → Bool
  | .none _ => true
  | .int _ _ => true
  | .neg _ _ _ => true
  | .bool _ _ => true
  | .loc i x _ => decide (nm.ns[i]? = some x) && dbg x
  | .glob g x _ => nm.gs.contains x && decide ((pg.glob g).map (·.1) = some x) && dbg x
  | .bin _ a b _ => a.ok pg nm && b.ok pg nm
  | .cmp _ a b _ => a.ok pg nm && b.ok pg nm
  | .attr e f x _ => e.ok pg nm && decide (pg.aname f = some x) && e.nocall
  | .idx a b _ => a.ok pg nm && b.ok pg nm
  | .slice a lo hi _ _ => a.ok pg nm && Eo.ok pg nm lo && Eo.ok pg nm hi
  | .list es _ => Es.ok pg nm es
  | .tup es _ _ => Es.ok pg nm es
  | .call f x _ es _ => f.ok pg x && nm.gs.contains x && Es.ok pg nm es
  | .meth o f x q es p => o.ok pg nm && decide (pg.mname f = some x) && o.nocall && decide (es.length < 29) && (q.endLine == p.line) && Es.ok pg nm es
  | .comp elt cs x _ it sc _ => okComp nm sc x cs && it.ok pg nm && elt.ok pg (compNm nm sc x cs)
def Es.ok (pg : Pg) (nm : Nm) : List E → Bool
  | [] => true
  | e :: es => e.ok pg nm && Es.ok pg nm es
def Eo.ok (pg : Pg) (nm : Nm) : Option E → Bool
  | Option.none => true
  | some e => e.ok pg nm
end
mutual
def C.ok (pg : Pg) (nm : Nm) : C → Bool
  | .e x => x.ok pg nm && x.plain
  | .cmp _ a b _ => a.ok pg nm && b.ok pg nm
  | .not x _ => x.ok pg nm
  | .and xs _ => Cs.ok pg nm xs
  | .or xs _ => Cs.ok pg nm xs
def Cs.ok (pg : Pg) (nm : Nm) : List C → Bool
  | [] => true
  | e :: es => e.ok pg nm && Cs.ok pg nm es
end
def okAsg (nm : Nm) (x : Str) (q : Ps) (e : E) : Bool := e.nocomp || nm.cs.contains x || match e with
  | .comp _ _ _ _ _ sc p => nm.ls.contains x && (q.line == p.line) && !(sc.names.any fun (z : Str × NameKind) => z.1 == x && (z.2 == .local || z.2 == .cell))
  | _ => false
def E.notup : E → Bool
  | .tup .. => false
  | _ => true
mutual
def S.ok (pg : Pg) (nm : Nm) : S → Bool
  | .assign i x q e _ => decide (nm.ns[i]? = some x) && e.ok pg nm && okAsg nm x q e
  | .own i x _ es _ _ => decide (nm.ns[i]? = some x) && Es.ok pg nm es
  | .setattr o f x _ e _ => o.ok pg nm && e.ok pg nm && decide (pg.aname f = some x) && e.nocomp
  | .unpack is _ _ e _ => is.all (fun y => decide (nm.ns[y.1]? = some y.2.1)) && e.ok pg nm && e.nocomp && e.notup
  | .ite c a b _ => c.ok pg nm && Ss.ok pg nm a && Ss.ok pg nm b
  | .for i x _ it body _ => decide (nm.ns[i]? = some x) && it.ok pg nm && Ss.ok pg nm body
  | .while c body _ => c.ok pg nm && Ss.ok pg nm body
  | .ret e _ => e.ok pg nm
  | .expr e _ => e.ok pg nm && e.nocomp
  | .append i x _ ap e cp _ => decide (nm.ns[i]? = some x) && dbg x && e.ok pg nm && (ap.endLine == cp.line)
  | .del i x _ e _ _ => decide (nm.ns[i]? = some x) && dbg x && e.ok pg nm
  | .freeze i => decide (i < nm.ns.length)
  | .raw _ => false
def Ss.ok (pg : Pg) (nm : Nm) : List S → Bool
  | [] => true
  | s :: ss => s.ok pg nm && Ss.ok pg nm ss
end
end Mine

namespace Mine
open PySem PySem.W PySem.Calls PyProof.Rows

structure PgOk (c : Cn) (pg : Pg) : Prop where
  fn : ∀ k x, pg.gname k = some x → nsIn c.K mainGlobals x = some (some (.ref (pg.addr k))) ∧ keepIn c.K (.ref (pg.addr k)) = true ∧ (x == ("__debug__" : Str)) = false
  cls : ∀ k x, pg.cname k = some x → nsIn c.K mainGlobals x = some (some (.ref (c.cls k))) ∧ keepIn c.K (.ref (c.cls k)) = true ∧ (x == ("__debug__" : Str)) = false
  new : ∀ k x, pg.cname k = some x → NewOk c k (pg.addr (pg.init k))
  ast : ∀ k np pad nm body, pg.fns k = some (.ast np pad nm body) → pad = List.replicate (nm.ns.length - np) .unset ∧ Ss.ok pg nm body = true ∧ ∃ d, FnAt c (pg.addr k) d nm np body ∨ FnAtC c (pg.addr k) d nm np body
  nat : ∀ k d f, pg.fns k = some (.nat d f) → ∀ n vs st v st', d ≤ n → f vs st = some (v, st') → SCode c n (pg.addr k) vs st v st'
  attr : ∀ cl f j, pg.fpos cl f = some j → ∃ x, pg.aname f = some x ∧ (c.fld cl)[j]? = some x ∧ AttrOk c cl x ∧ SetOk c cl x
  nd : ∀ cl, (c.fld cl).Nodup
  mth : ∀ cl f k, pg.mth cl f = some k → ∃ x, pg.mname f = some x ∧ MethOk c cl x (pg.addr k)
  blt : ∀ x ∈ [("len" : Str), "sum", "max", "list", "tuple", "range"], nsIn c.K mainGlobals x = some none
  glob : ∀ g x v, pg.glob g = some (x, v) → ∃ w, nsIn c.K mainGlobals x = some (some w) ∧ ∀ (gh : Gh) (h : Heap) (st : List Inst), Wd c gh st h → RV c gh h v w

structure Snd (c : Cn) (pg : Pg) (ih : IH) : Prop where
  e : ∀ nm n x l h v h', ih n (.e x) l h = some (.v v h') → x.ok pg nm = true → SE c nm n x l h v h'
  es : ∀ nm n x l h v h', ih n (.es x) l h = some (.vs v h') → Es.ok pg nm x = true → SEs c nm n x l h v h'
  eo : ∀ nm n x l h v h', ih n (.eo x) l h = some (.o v h') → Eo.ok pg nm x = true → SEo c nm n x l h v h'
  ct : ∀ nm n x l h v h', ih n (.c x) l h = some (.b v h') → C.ok pg nm x = true → SC c nm n x l h v h'
  cand : ∀ nm n x l h v h', ih n (.cand x) l h = some (.b v h') → Cs.ok pg nm x = true → SAnd c nm n x l h v h'
  cor : ∀ nm n x l h v h', ih n (.cor x) l h = some (.b v h') → Cs.ok pg nm x = true → SOr c nm n x l h v h'
  it : ∀ nm n x l h v h', ih n (.it x) l h = some (.vs v h') → x.ok pg nm = true → SI c nm n x l h v h'
  ss : ∀ nm n x l h f l' h', ih n (.ss x) l h = some (.fl f l' h') → Ss.ok pg nm x = true → SS c nm n x l h f l' h'
  whl : ∀ nm n x b l h f l' h', ih n (.whl x b) l h = some (.fl f l' h') → C.ok pg nm x = true → Ss.ok pg nm b = true → ∃ k, WEv c nm n x b k l h f l' h'
  forl : ∀ nm n i xs b l h f l' h', ih n (.forl i xs b) l h = some (.fl f l' h') → Ss.ok pg nm b = true → FEv c nm n i b xs l h f l' h'
  compl : ∀ nm n x xs cv h ys h', ih n (.compl x xs) cv h = some (.vs ys h') → x.ok pg nm = true → CEv c nm n x cv xs h ys h'

section
variable {c : Cn} {nm : Nm} {n : Nat} {loc : List LV} {st st₁ : List Inst}
theorem si_rangeS1 {x : Str} {q p : Ps} {es : List E} {k : Nat} (ok : BtOk c nm x (.type "range")) (hs : SEs c nm n es loc st [.int k] st₁) (hz : k ≤ 1000000) : SI c nm n (.call .range x q es p) loc st (rng 0 1 k) st₁ := fun A env g s Q Ex r eo W L P => by
  show wpAny _ _ (eval (.Call (.Name x q) (Es.py es) [] p) env) _ _ s
  refine Call_Name rfl (blt_load eo W ok ?_)
  refine PyProof.Rows.callWith_type (plain_args es p env) (args_eval (hs A env g s _ Ex p r eo W L fun ws h₁ t₁ g₁ G₁ W₁ R₁ => ?_))
  cases R₁ with
  | cons R0 R' =>
    cases R'
    obtain ⟨t, rfl⟩ := R0.iv (i := (k : Int)) rfl
    refine call_range_1 (s := { s with heap := h₁, toks := t₁ }) ?_
    have G₂ := Gro.push g₁ h₁ { cls := .type "range", data := .fields #[.int 0 t₁, .int k t, .int 1 (t₁ + 1)] }
    refine range_it (s := { s with heap := h₁.push _, toks := t₁ + 1 + 1 }) (k := k) r (W₁.push _) (IsRange.new ..) ?_ ?_ hz fun I h' g' fp P' Stt G' W' n' ok' => P I h' _ g' fp P' Stt ((G₁.trans G₂).trans G') W' ((G₁.trans G₂).none n') ok'
    · exact small_one (by omega) (by omega) (by omega) (by omega)
    · rw [rangeSize_one]; split <;> omega
theorem si_rangeS3 {x : Str} {q p : Ps} {es : List E} {a b d : Int} {k : Nat} (ok : BtOk c nm x (.type "range")) (hs : SEs c nm n es loc st [.int a, .int b, .int d] st₁) (hd : d ≠ 0)
    (ha : a.natAbs < 100000) (hb : b.natAbs < 100000) (hd' : d.natAbs < 100000) (hk : Builtin.Range.rangeSize a b d = k) (hz : k ≤ 1000000) : SI c nm n (.call .range x q es p) loc st (rng a d k) st₁ := fun A env g s Q Ex r eo W L P => by
  show wpAny _ _ (eval (.Call (.Name x q) (Es.py es) [] p) env) _ _ s
  refine Call_Name rfl (blt_load eo W ok ?_)
  refine PyProof.Rows.callWith_type (plain_args es p env) (args_eval (hs A env g s _ Ex p r eo W L fun ws h₁ t₁ g₁ G₁ W₁ R₁ => ?_))
  cases R₁ with
  | cons R0 R' =>
    cases R' with
    | cons R1 R' =>
      cases R' with
      | cons R2 R' =>
        cases R'
        obtain ⟨t, rfl⟩ := R0.iv (i := a) rfl
        obtain ⟨u, rfl⟩ := R1.iv (i := b) rfl
        obtain ⟨v, rfl⟩ := R2.iv (i := d) rfl
        refine call_range_3 (s := { s with heap := h₁, toks := t₁ }) hd ?_ (Or.inl (PyProof.noPylong_small (by omega)))
        have G₂ := Gro.push g₁ h₁ { cls := .type "range", data := .fields #[.int a t, .int b u, .int d v] }
        refine range_it (s := { s with heap := h₁.push _, toks := t₁ }) (k := k) r (W₁.push _) (IsRange.new ..) ?_ hk hz fun I h' g' fp P' Stt G' W' n' ok' => P I h' _ g' fp P' Stt ((G₁.trans G₂).trans G') W' ((G₁.trans G₂).none n') ok'
        unfold Builtin.Range.small
        rw [hk]
        simp only [Builtin.Range.rangeFitsLong, Bool.and_eq_true, Bool.or_eq_true, decide_eq_true_eq, beq_iff_eq]
        refine ⟨⟨⟨⟨by omega, by omega⟩, by omega⟩, by omega⟩, .inr ?_⟩
        split <;> simp only [Bool.and_eq_true, decide_eq_true_eq] <;> omega
end

theorem okComp_ok {nm : Nm} {sc : Scope} {x : Str} {cs : List Nat} (h : okComp nm sc x cs = true) : CompOk nm (compNm nm sc x cs) sc x cs (cs.map fun j => (nm.ns[j]?).getD x) := by
  unfold okComp at h
  simp only [Bool.and_eq_true, decide_eq_true_eq, List.all_eq_true, Bool.or_eq_true, List.contains_iff_mem] at h
  obtain ⟨⟨⟨h1, h2⟩, h3⟩, h4⟩ := h
  refine ⟨h1, h2, fun y hy => (h3 y hy).1.1, fun y hy e => ?_, fun y hy e => ?_, ?_, fun y hy => ?_, fun y hy => ?_, rfl, fun y hy => ?_, rfl, rfl⟩
  · rcases (h3 y hy).1.2 with q | q
    · exact absurd e q
    · exact q
  · rcases (h3 y hy).2 with q | q
    · exact absurd e q
    · exact q
  · rw [List.map_map]
    apply List.map_congr_left
    intro j hj
    have := (h4 j hj).1.1
    show nm.ns[j]? = some ((nm.ns[j]?).getD x)
    rw [List.getElem?_eq_getElem this]; rfl
  · obtain ⟨j, hj, rfl⟩ := List.mem_map.mp hy
    exact (h4 j hj).1.2
  · obtain ⟨j, hj, rfl⟩ := List.mem_map.mp hy
    exact (h4 j hj).2
  · obtain ⟨z, hz, rfl⟩ := List.mem_map.mp hy
    have := (List.mem_filter.mp hz).2
    simp only [Bool.and_eq_true, decide_eq_true_eq] at this
    exact this.2
theorem caps_ok {l : List LV} : ∀ {cs : List Nat} {cv : List LV}, caps l cs = some cv → cv = capV l cs ∧ ∀ j ∈ cs, ∃ v, l[j]? = some (.v v) := by
  intro cs
  induction cs with
  | nil => intro cv h; cases h; exact ⟨rfl, fun j hj => by cases hj⟩
  | cons a cs ih =>
    intro cv h
    have h' : (Option.casesOn (caps l cs) none fun r => Option.casesOn (nth l a) none fun lv => LV.casesOn lv none (fun v => some (.v v :: r)) (fun _ => none) fun _ _ => none : Option (List LV)) = some cv := h
    cases q : caps l cs with
    | none => rw [q] at h'; cases h'
    | some r =>
      rw [q] at h'
      cases q2 : nth l a with
      | none => rw [q2] at h'; cases h'
      | some lv =>
        rw [q2] at h'
        cases lv <;> cases h'
        obtain ⟨e, h2⟩ := ih q
        rename_i v
        rw [nth_eq] at q2
        refine ⟨?_, fun j hj => ?_⟩
        · unfold capV; rw [List.map_cons, q2, e]; rfl
        · rcases List.mem_cons.mp hj with rfl | hj
          · exact ⟨v, q2⟩
          · exact h2 j hj
theorem setMany_ok {is : List (Nat × Str × Ps)} : ∀ {vs : List V} {l l' : List LV}, setMany' is vs l = some l' → vs.length = is.length ∧ l' = setMany (is.map (·.1)) vs l := by
  induction is with
  | nil =>
    intro vs l l' h
    cases vs with
    | nil => cases h; exact ⟨rfl, rfl⟩
    | cons => cases h
  | cons i is ih =>
    intro vs l l' h
    cases vs with
    | nil => cases h
    | cons v vs =>
      obtain ⟨e, rfl⟩ := ih (show setMany' is vs (lput' l i.1 (.v v)) = some l' from h)
      refine ⟨congrArg Nat.succ e, ?_⟩
      rw [lput_eq]; rfl

section
variable {c : Cn} {pg : Pg} {ih : IH}
theorem bt_ok (P : PgOk c pg) {nm : Nm} {x : Str} {f : Value} (gl : nm.gs.contains x = true) (hx : x ∈ [("len" : Str), "sum", "max", "list", "tuple", "range"]) (boot : bootBuiltins x = some f) (nn : x ≠ "__name__") (dbg : (x == ("__debug__" : Str)) = false) : BtOk c nm x f :=
  ⟨List.contains_iff_mem.mp gl, P.blt x hx, boot, nn, dbg⟩
theorem call_ok (P : PgOk c pg) (H : Snd c pg ih) {n k : Nat} {vs : List V} {h h' : List Inst} {v : V} (e : doCall pg ih n k vs h = some (.v v h')) : SCode c n (pg.addr k) vs h v h' := by
  obtain ⟨fn, e1, e⟩ := withO_inv e
  cases fn with
  | ast np pad nm body =>
    obtain ⟨hp, ok, d, hf⟩ := P.ast k np pad nm body e1
    cases n with
    | zero => cases e
    | succ n =>
      obtain ⟨hl, e⟩ := cond_inv (show doAst ih np pad body n vs h = _ from e)
      obtain ⟨f, l', h'', e2, e⟩ := withF_inv e
      rw [llen_eq] at hl
      have hl := Nat.eq_of_beq_eq_true hl
      have e3 : linit vs pad = locInit nm vs := by rw [linit_eq, hp, ← hl]; rfl
      rw [e3] at e2
      have hs := H.ss nm n body _ _ _ _ _ e2 ok
      have hv : FlV f v ∧ h'' = h' := by
        cases f with
        | next => cases e; exact ⟨.next, rfl⟩
        | ret u => cases e; exact ⟨.ret _, rfl⟩
      obtain ⟨hv, rfl⟩ := hv
      rcases hf with hf | hf
      · exact sCode_fn hf hl hs hv
      · exact sCode_fnC hf hl hs hv
  | nat d f =>
    obtain ⟨hd, e⟩ := cond_inv (show cond' (Nat.ble d n) (doNat f vs h) = _ from e)
    obtain ⟨r, e2, e⟩ := withO_inv e
    cases e
    exact P.nat k d f e1 n vs h r.1 r.2 (Nat.ble_eq.mp hd) e2
theorem new_ok (P : PgOk c pg) (H : Snd c pg ih) {n k : Nat} {x : Str} {vs : List V} {h h' : List Inst} {v : V} (hx : pg.cname k = some x) (e : doNew pg ih n k vs h = some (.v v h')) : SCode c n (c.cls k) vs h v h' := by
  cases n with
  | zero => cases e
  | succ n =>
    obtain ⟨r, h'', e1, e⟩ := withV_inv (show withV (doCall pg ih n (pg.init k) (.obj (llen h) :: vs) (lapp h [⟨k, []⟩])) (fun r h' => vNone r (some (.v (.obj (llen h)) h'))) = _ from e)
    rw [llen_eq, lapp_eq] at e1
    rw [llen_eq] at e
    cases r <;> cases e
    exact sCode_new (P.new k x hx) (call_ok P H e1)
theorem idxS_inv {xs : List V} {y v : V} {h h' : List Inst} (e : j_idxS xs y h = some (.v v h')) : ∃ k : Nat, y = .int (k : Int) ∧ xs[k]? = some v ∧ xs.length ≤ 1000000 ∧ h = h' := by
  obtain ⟨k, rfl, e⟩ := vNat_inv e
  obtain ⟨w, e1, e⟩ := withO_inv e
  obtain ⟨h1, e⟩ := cond_inv e
  cases e
  rw [nth_eq] at e1
  rw [llen_eq] at h1
  exact ⟨k, rfl, e1, Nat.ble_eq.mp h1, rfl⟩
theorem locOf_inv {e : E} {i : Nat} (h : locOf e = some i) : ∃ x p, e = .loc i x p := by
  cases e <;> cases h
  exact ⟨_, _, rfl⟩
theorem rngOf_inv {e : E} {es : List E} (h : rngOf e = some es) : ∃ x q p, e = .call .range x q es p := by
  cases e <;> try cases h
  rename_i f x q es' p
  cases f <;> cases h
  exact ⟨_, _, _, rfl⟩
theorem len1_inv {x v : V} {h h' : List Inst} (e : j_len1 x h = some (.v v h')) : ∃ xs : List V, (x = .list xs ∨ x = .tup xs) ∧ xs.length ≤ 1000000 ∧ v = .int xs.length ∧ h = h' := by
  obtain ⟨xs, hx, e⟩ := vSeq_inv e
  obtain ⟨hz, e⟩ := small_inv e
  cases e
  rw [llen_eq]
  exact ⟨xs, hx, hz, rfl, rfl⟩
theorem dbg_inv {x : Str} (h : dbg x = true) : (x == ("__debug__" : Str)) = false := by
  unfold dbg at h; rw [Bool.not_eq_true'] at h; exact h
theorem headE_inv {es : List E} {i : Nat} (h : headE es = some i) : ∃ x p, es = [.loc i x p] := by
  cases es with
  | nil => cases h
  | cons e es =>
    cases es with
    | nil => obtain ⟨x, p, rfl⟩ := locOf_inv (show locOf e = some i from h); exact ⟨x, p, rfl⟩
    | cons => cases h

theorem call_snd (P : PgOk c pg) (H : Snd c pg ih) {nm : Nm} {n : Nat} {f : Cal} {x : Str} {q p : Ps} {es : List E} {l : List LV} {h h' : List Inst} {v : V} (e : j_call pg ih n l h f es = some (.v v h')) (ok : (E.call f x q es p).ok pg nm = true) : SE c nm n (.call f x q es p) l h v h' := by
  rw [E.ok, Bool.and_eq_true, Bool.and_eq_true] at ok
  obtain ⟨⟨ok1, gl⟩, ok⟩ := ok
  cases f with
  | fn k =>
    obtain ⟨vs, h1, e1, e⟩ := withVs_inv (show withVs _ _ = _ from e)
    obtain ⟨a1, a2, a3⟩ := P.fn k x (of_decide_eq_true ok1)
    exact sE_call ⟨List.contains_iff_mem.mp gl, a1, a2, a3⟩ (H.es nm n es l h vs h1 e1 ok) (call_ok P H e).call
  | cls k =>
    obtain ⟨vs, h1, e1, e⟩ := withVs_inv (show withVs _ _ = _ from e)
    obtain ⟨a1, a2, a3⟩ := P.cls k x (of_decide_eq_true ok1)
    exact sE_new ⟨List.contains_iff_mem.mp gl, a1, a2, a3⟩ (H.es nm n es l h vs h1 e1 ok) (new_ok P H (of_decide_eq_true ok1) e).call
  | len =>
    have hx := of_decide_eq_true ok1
    subst hx
    have bt : BtOk c nm "len" (.builtin "len") := bt_ok P gl (by simp) rfl (by decide) (by decide)
    have e' : j_len ih n l h es = some (.v v h') := e
    unfold j_len at e'
    cases q1 : headE es with
    | none =>
      rw [q1] at e'
      obtain ⟨xs, h1, e1, e⟩ := withVs_inv e'
      have hs := H.es nm n es l h xs h1 e1 ok
      cases xs with
      | nil => cases e
      | cons x xs =>
        cases xs with
        | cons => cases e
        | nil =>
          obtain ⟨ys, hx, hz, rfl, rfl⟩ := len1_inv (show j_len1 x h1 = _ from e)
          rcases hx with rfl | rfl
          · exact sE_bltF bt hs (blt_len hz)
          · exact sE_bltF bt hs (blt_lenT hz)
    | some i =>
      rw [q1] at e'
      obtain ⟨y, p', rfl⟩ := headE_inv q1
      rw [Es.ok, Es.ok, E.ok, Bool.and_true, Bool.and_eq_true] at ok
      obtain ⟨lv, e1, e⟩ := withO_inv e'
      rw [nth_eq] at e1
      have hx := of_decide_eq_true ok.1
      cases lv with
      | unset => cases e
      | v w =>
        obtain ⟨ys, hw, hz, rfl, rfl⟩ := len1_inv (show j_len1 w h = _ from e)
        have hs : SEs c nm n [.loc i y p'] l h [w] h := sEs_cons (sE_loc hx e1 (dbg_inv ok.2)) sEs_nil
        rcases hw with rfl | rfl
        · exact sE_bltF bt hs (blt_len hz)
        · exact sE_bltF bt hs (blt_lenT hz)
      | own ys =>
        obtain ⟨hz, e⟩ := small_inv (show small ys _ = _ from e)
        cases e
        rw [llen_eq]
        exact sE_lenO bt hx e1 (dbg_inv ok.2) hz
      | dct f k => cases e
  | sum =>
    have hx := of_decide_eq_true ok1
    subst hx
    obtain ⟨xs, h1, e1, e⟩ := withVs_inv (show withVs _ _ = _ from e)
    have hs := H.es nm n es l h xs h1 e1 ok
    cases xs with
    | nil => cases e
    | cons x xs =>
      cases xs with
      | cons => cases e
      | nil =>
        obtain ⟨ys, rfl, e⟩ := vList_inv (show vList x _ = _ from e)
        obtain ⟨i, e2, e⟩ := withO_inv e
        cases e
        obtain ⟨is, e3, rfl⟩ := vsumL_eq c e2
        exact sE_bltF (bt_ok P gl (by simp) rfl (by decide) (by decide)) hs (blt_sum e3)
  | max =>
    have hx := of_decide_eq_true ok1
    subst hx
    obtain ⟨xs, h1, e1, e⟩ := withVs_inv (show withVs _ _ = _ from e)
    have hs := H.es nm n es l h xs h1 e1 ok
    cases xs with
    | nil => cases e
    | cons x xs =>
      cases xs with
      | nil => cases e
      | cons y xs =>
        cases xs with
        | cons => cases e
        | nil =>
          obtain ⟨i, rfl, e⟩ := vInt_inv (show vInt x _ = _ from e)
          obtain ⟨j, rfl, e⟩ := vInt_inv (show vInt y _ = _ from e)
          cases e
          have hb := blt_max (c := c) (n := n) (st := h') (a := .int i) (b := .int j) rfl rfl
          have he : (Bool.casesOn (ile j i) j i : Int) = if j > i then j else i := by
            rw [ile_eq]
            by_cases hh : j ≤ i
            · rw [decide_eq_true hh, if_neg (by omega)]
            · rw [decide_eq_false hh, if_pos (by omega)]
          rw [he]
          exact sE_bltF (bt_ok P gl (by simp) rfl (by decide) (by decide)) hs hb
  | list =>
    have hx := of_decide_eq_true ok1
    subst hx
    obtain ⟨xs, h1, e1, e⟩ := withVs_inv (show withVs _ _ = _ from e)
    have hs := H.es nm n es l h xs h1 e1 ok
    cases xs with
    | nil => cases e
    | cons x xs =>
      cases xs with
      | cons => cases e
      | nil =>
        obtain ⟨ys, hy, e⟩ := vSeq_inv (show vSeq x _ = _ from e)
        obtain ⟨hz, e⟩ := small_inv e
        cases e
        rcases hy with rfl | rfl
        · exact sE_bltT (bt_ok P gl (by simp) rfl (by decide) (by decide)) hs (blt_list hz)
        · exact sE_bltT (bt_ok P gl (by simp) rfl (by decide) (by decide)) hs (blt_listT hz)
  | tuple =>
    have hx := of_decide_eq_true ok1
    subst hx
    obtain ⟨xs, h1, e1, e⟩ := withVs_inv (show withVs _ _ = _ from e)
    have hs := H.es nm n es l h xs h1 e1 ok
    cases xs with
    | nil => cases e
    | cons x xs =>
      cases xs with
      | cons => cases e
      | nil =>
        obtain ⟨ys, rfl, e⟩ := vList_inv (show vList x _ = _ from e)
        obtain ⟨hz, e⟩ := small_inv e
        cases e
        exact sE_bltT (bt_ok P gl (by simp) rfl (by decide) (by decide)) hs (blt_tuple hz)
  | range => cases e
theorem comp_snd (H : Snd c pg ih) {nm : Nm} {n : Nat} {elt it : E} {cs : List Nat} {x : Str} {sc : Scope} {q p : Ps} {l : List LV} {h h' : List Inst} {v : V} (e : j_comp ih n l h elt cs it = some (.v v h')) (ok : (E.comp elt cs x q it sc p).ok pg nm = true) :
    CompOk nm (compNm nm sc x cs) sc x cs (cs.map fun j => (nm.ns[j]?).getD x) ∧ ∃ xs ys h1, v = .list ys ∧ (∀ j ∈ cs, ∃ v, l[j]? = some (.v v)) ∧ SI c nm n it l h xs h1 ∧ CEv c (compNm nm sc x cs) n elt (capV l cs) xs h1 ys h' := by
  rw [E.ok, Bool.and_eq_true, Bool.and_eq_true] at ok
  obtain ⟨⟨ok1, ok2⟩, ok3⟩ := ok
  obtain ⟨cv, e1, e⟩ := withO_inv (show withO _ _ = _ from e)
  obtain ⟨xs, h1, e2, e⟩ := withVs_inv e
  obtain ⟨ys, h2, e3, e⟩ := withVs_inv e
  cases e
  obtain ⟨rfl, hc⟩ := caps_ok e1
  exact ⟨okComp_ok ok1, xs, ys, h1, rfl, hc, H.it nm n it l h _ _ e2 ok2, H.compl _ n elt xs _ h1 _ _ e3 ok3⟩
theorem e_snd (P : PgOk c pg) (H : Snd c pg ih) {nm : Nm} {n : Nat} {x : E} {l : List LV} {h h' : List Inst} {v : V} (e : j_e pg ih n l h x = some (.v v h')) (ok : x.ok pg nm = true) : SE c nm n x l h v h' := by
  cases x with
  | none p => cases e; exact sE_none
  | int i p => cases e; exact sE_int
  | neg i q p =>
    cases e
    have : isub (.ofNat 0) i = -i := by rw [isub_eq]; simp
    rw [this]; exact sE_neg
  | bool b p => cases e; exact sE_bool
  | loc i x p =>
    rw [E.ok, Bool.and_eq_true] at ok
    obtain ⟨lv, e1, e⟩ := withO_inv (show withO _ _ = _ from e)
    obtain ⟨w, rfl, e⟩ := lvV_inv e
    cases e
    rw [nth_eq] at e1
    exact sE_loc (of_decide_eq_true ok.1) e1 (dbg_inv ok.2)
  | glob g x p =>
    rw [E.ok, Bool.and_eq_true, Bool.and_eq_true] at ok
    obtain ⟨⟨gl, ok1⟩, dg⟩ := ok
    obtain ⟨w, e1, e⟩ := withO_inv (show withO _ _ = _ from e)
    cases e
    obtain ⟨y, w⟩ := w
    have hx := of_decide_eq_true ok1
    rw [e1] at hx
    cases hx
    obtain ⟨u, a1, a2⟩ := P.glob g y w e1
    exact sE_glob (List.contains_iff_mem.mp gl) a1 (dbg_inv dg) a2
  | bin op a b p =>
    rw [E.ok, Bool.and_eq_true] at ok
    obtain ⟨x1, h1, e1, e⟩ := withV_inv (show withV _ _ = _ from e)
    obtain ⟨x2, h2, e2, e⟩ := withV_inv e
    obtain ⟨z, e3, e⟩ := withO_inv e
    cases e
    exact sE_bin (H.e nm n a l h x1 h1 e1 ok.1) (H.e nm n b l h1 x2 _ e2 ok.2) (binop_ok e3)
  | cmp op a b p =>
    rw [E.ok, Bool.and_eq_true] at ok
    obtain ⟨x1, h1, e1, e⟩ := withV_inv (show withV _ _ = _ from e)
    obtain ⟨x2, h2, e2, e⟩ := withV_inv e
    obtain ⟨z, e3, e⟩ := withO_inv e
    cases e
    exact sE_cmp (H.e nm n a l h x1 h1 e1 ok.1) (H.e nm n b l h1 x2 _ e2 ok.2) (cmpop_ok e3)
  | attr o f x p =>
    rw [E.ok, Bool.and_eq_true, Bool.and_eq_true] at ok
    obtain ⟨⟨ok1, ok2⟩, ok3⟩ := ok
    obtain ⟨x1, h1, e1, e⟩ := withV_inv (show withV _ _ = _ from e)
    obtain ⟨k, rfl, e⟩ := vObj_inv e
    obtain ⟨i, e2, e⟩ := withO_inv e
    obtain ⟨j, e3, e⟩ := withO_inv e
    obtain ⟨w, e4, e⟩ := withO_inv e
    cases e
    rw [nth_eq] at e2 e4
    obtain ⟨y, a1, a2, a3, a4⟩ := P.attr _ _ _ e3
    have hx := of_decide_eq_true ok2
    rw [a1] at hx
    cases hx
    exact sE_attr (f := j) (H.e nm n o l h _ _ e1 ok1) e2 a3 (P.nd _) a2 e4 ok3
  | idx a b p =>
    rw [E.ok, Bool.and_eq_true] at ok
    have e' : j_idx' ih n l h a b = some (.v v h') := e
    unfold j_idx' at e'
    cases q : locOf a with
    | none =>
      rw [q] at e'
      obtain ⟨x1, h1, e1, e⟩ := withV_inv (show withV _ _ = _ from e')
      obtain ⟨x2, h2, e2, e⟩ := withV_inv e
      obtain ⟨xs, hx, e⟩ := vSeq_inv e
      obtain ⟨k, rfl, a1, a2, rfl⟩ := idxS_inv e
      rcases hx with rfl | rfl
      · exact sE_idx (H.e nm n a l h _ h1 e1 ok.1) (H.e nm n b l h1 _ _ e2 ok.2) rfl a1 a2
      · exact sE_idxT (H.e nm n a l h _ h1 e1 ok.1) (H.e nm n b l h1 _ _ e2 ok.2) rfl a1 a2
    | some i =>
      rw [q] at e'
      obtain ⟨y, py, rfl⟩ := locOf_inv q
      obtain ⟨ok1, ok2⟩ := ok
      rw [E.ok, Bool.and_eq_true] at ok1
      obtain ⟨lv, e1, e⟩ := withO_inv (show withO _ _ = _ from e')
      rw [nth_eq] at e1
      cases lv with
      | unset => cases e
      | v w =>
        obtain ⟨x2, h2, e2, e⟩ := withV_inv (show withV _ _ = _ from e)
        obtain ⟨xs, hx, e⟩ := vSeq_inv e
        obtain ⟨k, rfl, a1, a2, rfl⟩ := idxS_inv e
        have hw : SE c nm n (.loc i y py) l h w h := sE_loc (of_decide_eq_true ok1.1) e1 (dbg_inv ok1.2)
        rcases hx with rfl | rfl
        · exact sE_idx hw (H.e nm n b l h _ _ e2 ok2) rfl a1 a2
        · exact sE_idxT hw (H.e nm n b l h _ _ e2 ok2) rfl a1 a2
      | own xs =>
        obtain ⟨x2, h2, e2, e⟩ := withV_inv (show withV _ _ = _ from e)
        obtain ⟨k, rfl, a1, a2, rfl⟩ := idxS_inv e
        exact sE_idxO (of_decide_eq_true ok1.1) e1 (dbg_inv ok1.2) (H.e nm n b l h _ _ e2 ok2) rfl a1 a2
      | dct f k => cases e
  | slice a lo hi q p =>
    rw [E.ok, Bool.and_eq_true, Bool.and_eq_true] at ok
    obtain ⟨x1, h1, e1, e⟩ := withV_inv (show withV _ _ = _ from e)
    obtain ⟨x2, h2, e2, e⟩ := withI_inv e
    obtain ⟨x3, h3, e3, e⟩ := withI_inv e
    obtain ⟨xs, rfl, e⟩ := vList_inv e
    obtain ⟨hz, e⟩ := small_inv e
    cases e
    rw [spick_eq]
    exact sE_slice (H.e nm n a l h _ h1 e1 ok.1.1) (H.eo nm n lo l h1 _ _ e2 ok.1.2) (H.eo nm n hi l h2 _ _ e3 ok.2) hz
  | list es p =>
    rw [E.ok] at ok
    obtain ⟨xs, h1, e1, e⟩ := withVs_inv (show withVs _ _ = _ from e)
    obtain ⟨hz, e⟩ := small_inv e
    cases e
    exact sE_list (H.es nm n es l h _ _ e1 ok) hz
  | tup es k p =>
    rw [E.ok] at ok
    obtain ⟨xs, h1, e1, e⟩ := withVs_inv (show withVs _ _ = _ from e)
    obtain ⟨hz, e⟩ := small_inv e
    cases e
    exact sE_tup (H.es nm n es l h _ _ e1 ok) hz
  | call f x q es p => exact call_snd P H e ok
  | meth o f x q es p =>
    rw [E.ok] at ok
    simp only [Bool.and_eq_true] at ok
    obtain ⟨⟨⟨⟨⟨ok1, ok2⟩, ok3⟩, ok4⟩, ok5⟩, ok6⟩ := ok
    obtain ⟨x1, h1, e1, e⟩ := withV_inv (show withV _ _ = _ from e)
    obtain ⟨k, rfl, e⟩ := vObj_inv e
    obtain ⟨i, e2, e⟩ := withO_inv e
    obtain ⟨m, e3, e⟩ := withO_inv e
    obtain ⟨vs, h2, e4, e⟩ := withVs_inv e
    rw [nth_eq] at e2
    obtain ⟨y, a1, a2⟩ := P.mth _ _ _ e3
    have hx := of_decide_eq_true ok2
    rw [a1] at hx
    cases hx
    exact sE_meth (H.e nm n o l h _ _ e1 ok1) e2 a2 (H.es nm n es l h1 _ _ e4 ok6) (call_ok P H e).call ok3 (of_decide_eq_true ok4) ok5
  | comp elt cs x q it sc p =>
    obtain ⟨ok1, xs, ys, h1, rfl, hc, a1, a2⟩ := comp_snd (sc := sc) (x := x) (q := q) (p := p) H (show j_comp ih n l h elt cs it = _ from e) ok
    exact sE_comp ok1 hc a1 a2
end
end Mine

namespace Mine
open PySem PySem.W PySem.Calls PyProof.Rows
section
variable {c : Cn} {pg : Pg} {ih : IH}
theorem it_snd (P : PgOk c pg) (H : Snd c pg ih) {nm : Nm} {n : Nat} {x : E} {l : List LV} {h h' : List Inst} {v : List V} (e : j_it ih n l h x = some (.vs v h')) (ok : x.ok pg nm = true) : SI c nm n x l h v h' := by
  unfold j_it at e
  cases q : rngOf x with
  | none =>
    rw [q] at e
    obtain ⟨y, h1, e1, e⟩ := withV_inv (show withV _ _ = _ from e)
    obtain ⟨xs, hx, e⟩ := vSeq_inv e
    obtain ⟨hz, e⟩ := small_inv e
    cases e
    rcases hx with rfl | rfl
    · exact si_list (H.e nm n x l h _ _ e1 ok) hz
    · exact si_tup (H.e nm n x l h _ _ e1 ok) hz
  | some es =>
    rw [q] at e
    obtain ⟨y, q', p, rfl⟩ := rngOf_inv q
    rw [E.ok, Bool.and_eq_true, Bool.and_eq_true] at ok
    obtain ⟨⟨ok1, gl⟩, ok⟩ := ok
    have hx := of_decide_eq_true ok1
    subst hx
    have bt : BtOk c nm "range" (.type "range") := bt_ok P gl (by simp) rfl (by decide) (by decide)
    obtain ⟨vs, h1, e1, e⟩ := withVs_inv (show withVs _ _ = _ from e)
    have hs := H.es nm n es l h vs h1 e1 ok
    unfold j_range at e
    cases vs with
    | nil => cases e
    | cons a vs =>
      cases vs with
      | nil =>
        obtain ⟨k, rfl, e⟩ := vNat_inv (show vNat a _ = _ from e)
        obtain ⟨hz, e⟩ := cond_inv e
        cases e
        rw [rgen_eq]
        exact si_rangeS1 bt hs (Nat.ble_eq.mp hz)
      | cons b vs =>
        cases vs with
        | nil => cases e
        | cons d vs =>
          cases vs with
          | cons => cases e
          | nil =>
            obtain ⟨i, rfl, e⟩ := vInt_inv (show vInt a _ = _ from e)
            obtain ⟨j, rfl, e⟩ := vInt_inv (show vInt b _ = _ from e)
            obtain ⟨k, rfl, e⟩ := vInt_inv (show vInt d _ = _ from e)
            obtain ⟨z1, e⟩ := cond_inv (show cond' _ _ = _ from e)
            obtain ⟨z2, e⟩ := cond_inv (show cond' _ _ = _ from e)
            obtain ⟨z3, e⟩ := cond_inv (show cond' _ _ = _ from e)
            obtain ⟨z4, e⟩ := cond_inv (show cond' _ _ = _ from e)
            obtain ⟨z5, e⟩ := cond_inv (show cond' _ _ = _ from e)
            cases e
            have hd : k ≠ 0 := fun q => by subst q; cases z4
            have z1 := Nat.ble_eq.mp z1
            have z2 := Nat.ble_eq.mp z2
            have z3 := Nat.ble_eq.mp z3
            rw [rgen_eq]
            exact si_rangeS3 bt hs hd (by omega) (by omega) (by omega) (rsize_eq hd) (Nat.ble_eq.mp z5)
theorem onF_inv {f f' : Fl} {l l' : List LV} {h h' : List Inst} {k : Option Res} (e : onF f l h k = some (.fl f' l' h')) : (f = .next ∧ k = some (.fl f' l' h')) ∨ (∃ v, f = .ret v ∧ f' = .ret v ∧ l = l' ∧ h = h') := by
  cases f with
  | next => exact .inl ⟨rfl, e⟩
  | ret v => cases e; exact .inr ⟨v, rfl, rfl, rfl, rfl⟩
theorem sx_rest {nm : Nm} {n : Nat} {x : S} {t : PySem.Stmt} {rest : List S} {f f' : Fl} {l l₁ l' : List LV} {h h₁ h' : List Inst} {k : Option Res} (hx : x.py = [t]) (sx : SX c nm n t l h f l₁ h₁) (e : onF f l₁ h₁ k = some (.fl f' l' h'))
    (hr : k = some (.fl f' l' h') → SS c nm n rest l₁ h₁ f' l' h') : SS c nm n (x :: rest) l h f' l' h' := by
  rcases onF_inv e with ⟨rfl, e⟩ | ⟨v, rfl, rfl, rfl, rfl⟩
  · exact ss_cons hx sx (hr e)
  · exact ss_ret hx sx
theorem notup_inv {e : E} (h : e.notup = true) : ∀ es k p, e ≠ .tup es k p := fun es k p q => by subst q; cases h
theorem ss_snd (P : PgOk c pg) (H : Snd c pg ih) {nm : Nm} {n : Nat} {xs : List S} {l l' : List LV} {h h' : List Inst} {f : Fl} (e : j_ss pg ih n l h xs = some (.fl f l' h')) (ok : Ss.ok pg nm xs = true) : SS c nm n xs l h f l' h' := by
  cases xs with
  | nil => cases e; exact ss_nil
  | cons x rest =>
    rw [Ss.ok, Bool.and_eq_true] at ok
    obtain ⟨ok, okr⟩ := ok
    cases x with
    | assign i x q ex p =>
      rw [S.ok, Bool.and_eq_true, Bool.and_eq_true] at ok
      obtain ⟨⟨hx, ok⟩, oa⟩ := ok
      have hx := of_decide_eq_true hx
      obtain ⟨y, h1, e1, e⟩ := withV_inv (show withV _ _ = _ from e)
      rw [lput_eq] at e
      refine ss_cons (x := .assign i x q ex p) (t := .Assign [.Name x q] ex.py p) rfl ?_ (H.ss nm n rest _ _ _ _ _ e okr)
      unfold okAsg at oa
      rw [Bool.or_eq_true, Bool.or_eq_true] at oa
      cases ex with
      | comp elt cs x' q' it sc p' =>
        obtain ⟨ok1, xs, ys, h2, rfl, hc, a1, a2⟩ := comp_snd (sc := sc) (x := x') (q := q') (p := p') H (show j_comp ih n l h elt cs it = _ from e1) ok
        rcases oa with (oa | oa) | oa
        · cases oa
        · exact sx_assignK hx (List.contains_iff_mem.mp oa) (sE_comp ok1 hc a1 a2)
        · simp only [Bool.and_eq_true, Bool.not_eq_true'] at oa
          exact sx_assignC hx (List.contains_iff_mem.mp oa.1.1) oa.1.2 oa.2 ok1 hc a1 a2
      | _ => exact sx_assign hx (H.e nm n _ l h y h1 e1 ok) rfl
    | own i x q es lp p =>
      rw [S.ok, Bool.and_eq_true] at ok
      obtain ⟨vs, h1, e1, e⟩ := withVs_inv (show withVs _ _ = _ from e)
      obtain ⟨hz, e⟩ := small_inv e
      rw [lput_eq] at e
      exact ss_cons (x := .own i x q es lp p) rfl (sx_own (of_decide_eq_true ok.1) (H.es nm n es l h vs h1 e1 ok.2) hz) (H.ss nm n rest _ _ _ _ _ e okr)
    | setattr o a x q ex p =>
      rw [S.ok, Bool.and_eq_true, Bool.and_eq_true, Bool.and_eq_true] at ok
      obtain ⟨⟨⟨ok1, ok2⟩, ok3⟩, ok4⟩ := ok
      obtain ⟨y, h1, e1, e⟩ := withV_inv (show withV _ _ = _ from e)
      obtain ⟨w, h2, e2, e⟩ := withV_inv e
      obtain ⟨k, rfl, e⟩ := vObj_inv e
      obtain ⟨i, e3, e⟩ := withO_inv e
      obtain ⟨j, e4, e⟩ := withO_inv e
      obtain ⟨hz, e⟩ := cond_inv e
      obtain ⟨fs, e5, e⟩ := withO_inv e
      rw [nth_eq] at e3
      rw [llen_eq] at hz
      rw [lput_eq] at e
      obtain ⟨hf, rfl⟩ := fput_eq _ _ _ _ e5
      obtain ⟨z, a1, a2, a3, a4⟩ := P.attr _ _ _ e4
      have hx := of_decide_eq_true ok3
      rw [a1] at hx
      cases hx
      exact ss_cons (x := .setattr o a x q ex p) rfl (sx_setattr (H.e nm n ex l h y h1 e1 ok2) (H.e nm n o l h1 _ h2 e2 ok1) e3 a4 (P.nd _) a2 hf (Nat.ble_eq.mp hz) ok4) (H.ss nm n rest _ _ _ _ _ e okr)
    | unpack is k q ex p =>
      rw [S.ok, Bool.and_eq_true, Bool.and_eq_true, Bool.and_eq_true] at ok
      obtain ⟨⟨⟨ok1, ok2⟩, ok3⟩, ok4⟩ := ok
      obtain ⟨y, h1, e1, e⟩ := withV_inv (show withV _ _ = _ from e)
      obtain ⟨vs, rfl, e⟩ := vTup_inv e
      obtain ⟨l1, e2, e⟩ := withO_inv e
      obtain ⟨hl, rfl⟩ := setMany_ok e2
      exact ss_cons (x := .unpack is k q ex p) rfl (sx_unpack (fun y hy => of_decide_eq_true (List.all_eq_true.mp ok1 y hy)) (H.e nm n ex l h _ h1 e1 ok2) hl ok3 (notup_inv ok4)) (H.ss nm n rest _ _ _ _ _ e okr)
    | ite x a b p =>
      rw [S.ok, Bool.and_eq_true, Bool.and_eq_true] at ok
      obtain ⟨⟨ok1, ok2⟩, ok3⟩ := ok
      obtain ⟨t, h1, e1, e⟩ := withB_inv (show withB _ _ = _ from e)
      obtain ⟨f1, l1, h2, e2, e⟩ := withF_inv e
      have hc := H.ct nm n x l h t h1 e1 ok1
      refine sx_rest (x := .ite x a b p) rfl ?_ e fun q => H.ss nm n rest _ _ _ _ _ q okr
      cases t with
      | true => exact sx_if_t hc (H.ss nm n a _ _ _ _ _ e2 ok2)
      | false => exact sx_if_f hc (H.ss nm n b _ _ _ _ _ e2 ok3)
    | «for» i x q it body p =>
      rw [S.ok, Bool.and_eq_true, Bool.and_eq_true] at ok
      obtain ⟨⟨ok1, ok2⟩, ok3⟩ := ok
      obtain ⟨xs, h1, e1, e⟩ := withVs_inv (show withVs _ _ = _ from e)
      obtain ⟨f1, l1, h2, e2, e⟩ := withF_inv e
      exact sx_rest (x := .for i x q it body p) rfl (sx_for (of_decide_eq_true ok1) (H.it nm n it l h xs h1 e1 ok2) (H.forl nm n i xs body _ _ _ _ _ e2 ok3)) e fun q => H.ss nm n rest _ _ _ _ _ q okr
    | «while» x body p =>
      rw [S.ok, Bool.and_eq_true] at ok
      obtain ⟨f1, l1, h2, e2, e⟩ := withF_inv (show withF _ _ = _ from e)
      obtain ⟨k, hw⟩ := H.whl nm n x body _ _ _ _ _ e2 ok.1 ok.2
      exact sx_rest (x := .while x body p) rfl (sx_while hw) e fun q => H.ss nm n rest _ _ _ _ _ q okr
    | ret ex p =>
      rw [S.ok] at ok
      obtain ⟨y, h1, e1, e⟩ := withV_inv (show withV _ _ = _ from e)
      cases e
      exact ss_ret (x := .ret ex p) rfl (sx_ret (H.e nm n ex _ h y _ e1 ok))
    | expr ex p =>
      rw [S.ok, Bool.and_eq_true] at ok
      obtain ⟨y, h1, e1, e⟩ := withV_inv (show withV _ _ = _ from e)
      exact ss_cons (x := .expr ex p) rfl (sx_expr (H.e nm n ex l h y h1 e1 ok.1) ok.2) (H.ss nm n rest _ _ _ _ _ e okr)
    | append i x xp ap ex cp p =>
      rw [S.ok, Bool.and_eq_true, Bool.and_eq_true, Bool.and_eq_true] at ok
      obtain ⟨⟨⟨ok1, ok2⟩, ok3⟩, ok4⟩ := ok
      obtain ⟨lv, e1, e⟩ := withO_inv (show withO _ _ = _ from e)
      obtain ⟨xs, rfl, e⟩ := lvO_inv e
      obtain ⟨hz, e⟩ := small_inv e
      obtain ⟨y, h1, e2, e⟩ := withV_inv e
      rw [nth_eq] at e1
      rw [lput_eq, lapp_eq] at e
      exact ss_cons (x := .append i x xp ap ex cp p) rfl (sx_append (of_decide_eq_true ok1) e1 (dbg_inv ok2) (H.e nm n ex l h y h1 e2 ok3) ok4 hz) (H.ss nm n rest _ _ _ _ _ e okr)
    | del i x xp ex sp p =>
      rw [S.ok, Bool.and_eq_true, Bool.and_eq_true] at ok
      obtain ⟨⟨ok1, ok2⟩, ok3⟩ := ok
      obtain ⟨lv, e1, e⟩ := withO_inv (show withO _ _ = _ from e)
      obtain ⟨xs, rfl, e⟩ := lvO_inv e
      obtain ⟨hz, e⟩ := small_inv e
      obtain ⟨y, h1, e2, e⟩ := withV_inv e
      obtain ⟨k, rfl, e⟩ := vNat_inv e
      obtain ⟨hk, e⟩ := cond_inv e
      rw [nth_eq] at e1
      rw [lput_eq, ltake_eq] at e
      rw [llen_eq] at hk
      exact ss_cons (x := .del i x xp ex sp p) rfl (sx_del (of_decide_eq_true ok1) e1 (dbg_inv ok2) (H.e nm n ex l h _ h1 e2 ok3) rfl (Nat.eq_of_beq_eq_true hk) hz) (H.ss nm n rest _ _ _ _ _ e okr)
    | freeze i =>
      rw [S.ok] at ok
      obtain ⟨lv, e1, e⟩ := withO_inv (show withO _ _ = _ from e)
      obtain ⟨xs, rfl, e⟩ := lvO_inv (show lvO lv _ = _ from e)
      have e : ih n (.ss rest) (lput' l i (.v (.list xs))) h = some (.fl f l' h') := e
      rw [nth_eq] at e1
      rw [lput_eq] at e
      have hi := of_decide_eq_true ok
      exact ss_freeze (List.getElem?_eq_getElem hi) e1 (H.ss nm n rest _ _ _ _ _ e okr)
    | raw t => cases e
-- (a raw statement is not run)
theorem step_snd (P : PgOk c pg) (H : Snd c pg ih) : Snd c pg (fun n j l h => step pg ih n l h j) where
  e nm n x l h v h' e ok := e_snd P H e ok
  es nm n x l h v h' e ok := by
    have e : j_es ih n l h x = _ := e
    cases x with
    | nil => cases e; exact sEs_nil
    | cons x xs =>
      rw [Es.ok, Bool.and_eq_true] at ok
      obtain ⟨y, h1, e1, e⟩ := withV_inv (show withV _ _ = _ from e)
      obtain ⟨ys, h2, e2, e⟩ := withVs_inv e
      cases e
      exact sEs_cons (H.e nm n x l h y h1 e1 ok.1) (H.es nm n xs l h1 ys _ e2 ok.2)
  eo nm n x l h v h' e ok := by
    have e : j_eo ih n l h x = _ := e
    cases x with
    | none => cases e; exact sEo_none
    | some x =>
      rw [Eo.ok] at ok
      obtain ⟨y, h1, e1, e⟩ := withV_inv (show withV _ _ = _ from e)
      obtain ⟨i, rfl, e⟩ := vInt_inv e
      cases e
      exact sEo_some (H.e nm n x l h _ _ e1 ok) rfl
  ct nm n x l h v h' e ok := by
    have e : j_c ih n l h x = _ := e
    cases x with
    | e x =>
      rw [C.ok, Bool.and_eq_true] at ok
      obtain ⟨y, h1, e1, e⟩ := withV_inv (show withV _ _ = _ from e)
      obtain ⟨b, rfl, e⟩ := vBool_inv e
      cases e
      exact sC_bool (H.e nm n x l h _ _ e1 ok.1) ok.2
    | cmp op a b p =>
      rw [C.ok, Bool.and_eq_true] at ok
      obtain ⟨x1, h1, e1, e⟩ := withV_inv (show withV _ _ = _ from e)
      obtain ⟨x2, h2, e2, e⟩ := withV_inv e
      obtain ⟨z, e3, e⟩ := withO_inv e
      cases e
      exact sC_cmp (H.e nm n a l h x1 h1 e1 ok.1) (H.e nm n b l h1 x2 _ e2 ok.2) (cmpop_ok e3)
    | not x p =>
      rw [C.ok] at ok
      obtain ⟨b, h1, e1, e⟩ := withB_inv (show withB _ _ = _ from e)
      cases e
      rw [bnot_eq]
      exact sC_not (H.ct nm n x l h b _ e1 ok)
    | and xs p => rw [C.ok] at ok; exact sC_and (H.cand nm n xs l h v h' e ok)
    | or xs p => rw [C.ok] at ok; exact sC_or (H.cor nm n xs l h v h' e ok)
  cand nm n x l h v h' e ok := by
    have e : j_and ih n l h x = _ := e
    cases x with
    | nil => cases e; exact sAnd_nil
    | cons x xs =>
      rw [Cs.ok, Bool.and_eq_true] at ok
      obtain ⟨b, h1, e1, e⟩ := withB_inv (show withB _ _ = _ from e)
      have hc := H.ct nm n x l h b h1 e1 ok.1
      cases b with
      | false => cases e; exact sAnd_f hc
      | true => exact sAnd_t hc (H.cand nm n xs l h1 v h' e ok.2)
  cor nm n x l h v h' e ok := by
    have e : j_or ih n l h x = _ := e
    cases x with
    | nil => cases e; exact sOr_nil
    | cons x xs =>
      rw [Cs.ok, Bool.and_eq_true] at ok
      obtain ⟨b, h1, e1, e⟩ := withB_inv (show withB _ _ = _ from e)
      have hc := H.ct nm n x l h b h1 e1 ok.1
      cases b with
      | true => cases e; exact sOr_t hc
      | false => exact sOr_f hc (H.cor nm n xs l h1 v h' e ok.2)
  it nm n x l h v h' e ok := it_snd P H e ok
  ss nm n x l h f l' h' e ok := ss_snd P H e ok
  whl nm n x b l h f l' h' e ok okb := by
    have e : j_whl ih n l h x b = _ := e
    obtain ⟨t, h1, e1, e⟩ := withB_inv (show withB _ _ = _ from e)
    have hc := H.ct nm n x l h t h1 e1 ok
    cases t with
    | false => cases e; exact ⟨0, .stop hc⟩
    | true =>
      obtain ⟨f1, l1, h2, e2, e⟩ := withF_inv (show withF _ _ = _ from e)
      have hb := H.ss nm n b _ _ _ _ _ e2 okb
      rcases onF_inv e with ⟨rfl, e⟩ | ⟨v, rfl, rfl, rfl, rfl⟩
      · obtain ⟨k, hw⟩ := H.whl nm n x b _ _ _ _ _ e ok okb
        exact ⟨k + 1, .turn hc hb hw⟩
      · exact ⟨0, .ret hc hb⟩
  forl nm n i xs b l h f l' h' e okb := by
    have e : j_forl ih n l h i xs b = _ := e
    cases xs with
    | nil => cases e; exact .nil
    | cons x xs =>
      obtain ⟨f1, l1, h2, e2, e⟩ := withF_inv (show withF _ _ = _ from e)
      rw [lput_eq] at e2
      have hb := H.ss nm n b _ _ _ _ _ e2 okb
      rcases onF_inv e with ⟨rfl, e⟩ | ⟨v, rfl, rfl, rfl, rfl⟩
      · exact .cons hb (H.forl nm n i xs b _ _ _ _ _ e okb)
      · exact .ret hb
  compl nm n x xs cv h ys h' e ok := by
    have e : j_compl ih n cv h x xs = _ := e
    cases xs with
    | nil => cases e; exact .nil
    | cons y xs =>
      obtain ⟨z, h1, e1, e⟩ := withV_inv (show withV _ _ = _ from e)
      obtain ⟨zs, h2, e2, e⟩ := withVs_inv e
      cases e
      exact .cons (H.e nm n x _ h z h1 e1 ok) (H.compl nm n x xs cv h1 zs _ e2 ok)
theorem run_snd (P : PgOk c pg) (k : Nat) : Snd c pg (run pg k) := by
  induction k with
  | zero => exact ⟨fun _ _ _ _ _ _ _ e => (by cases e), fun _ _ _ _ _ _ _ e => (by cases e), fun _ _ _ _ _ _ _ e => (by cases e), fun _ _ _ _ _ _ _ e => (by cases e), fun _ _ _ _ _ _ _ e => (by cases e), fun _ _ _ _ _ _ _ e => (by cases e), fun _ _ _ _ _ _ _ e => (by cases e),
      fun _ _ _ _ _ _ _ _ e => (by cases e), fun _ _ _ _ _ _ _ _ _ e => (by cases e), fun _ _ _ _ _ _ _ _ _ _ e => (by cases e), fun _ _ _ _ _ _ _ _ e => (by cases e)⟩
  | succ k ih => exact step_snd P ih
end
end Mine

namespace Mine
open PySem PySem.W PySem.Calls PyProof.Rows
theorem Ss_app (xs ys : List S) : Ss.py (xs ++ ys) = Ss.py xs ++ Ss.py ys := by
  induction xs with
  | nil => rfl
  | cons x xs ih => rw [List.cons_append, Ss.py, Ss.py, ih, List.append_assoc]
theorem execs_app (a b : List PySem.Stmt) (env : Env) : execs (a ++ b) env = (do match ← execs a env with | .next => execs b env | f => pure f) := by
  induction a with
  | nil => exact (pure_bind _ _).symm
  | cons t a ih =>
    rw [List.cons_append, execs_cons, execs_cons, bind_assoc]
    congr 1
    funext f
    cases f <;> first | exact ih | exact (pure_bind _ _).symm
section
variable {c : Cn} {nm : Nm} {n : Nat} {loc loc₁ loc₂ : List LV} {st st₁ st₂ : List Inst} {fl : Fl}
theorem ss_append {xs ys : List S} (h1 : SS c nm n xs loc st .next loc₁ st₁) (h2 : SS c nm n ys loc₁ st₁ fl loc₂ st₂) : SS c nm n (xs ++ ys) loc st fl loc₂ st₂ := fun A env g₀ h₀ oa g s Q Ex r G W F P => by
  rw [Ss_app, execs_app]
  refine wpAny_bind (h1 A env g₀ h₀ oa g s _ Ex r G W F fun f h' tk' g' oa' G' W' F' fr => ?_)
  cases fr with
  | next => exact h2 A env g₀ h₀ oa' g' _ Q Ex r G' W' F' fun f h'' tk'' g'' oa'' G'' W'' F'' fr'' => P f h'' tk'' g'' oa'' G'' W'' F'' fr''
/-- the statement alone -/
theorem ss_run {pg : Pg} (P : PgOk c pg) (k : Nat) {xs : List S} (h : run pg k n (.ss xs) loc st = some (.fl fl loc₁ st₁)) (ok : Ss.ok pg nm xs = true) : SS c nm n xs loc st fl loc₁ st₁ :=
  (run_snd P k).ss nm n xs _ _ _ _ _ h ok
end
end Mine

namespace Mine
open PySem PySem.W PySem.Calls PyProof.Rows
section
variable {c : Cn} {nm nm' : Nm} {n : Nat} {loc loc₁ loc₂ : List LV} {st st₁ st₂ st₃ : List Inst} {fl : Fl}
/-- rows of statements, by their first one -/
theorem ss_assign {i : Nat} {x : Str} {q p : Ps} {e : E} {v : V} {rest : List S} (hx : nm.ns[i]? = some x) (he : SE c nm n e loc st v st₁) (hc : e.nocomp = true) (hr : SS c nm n rest (loc.set i (.v v)) st₁ fl loc₂ st₂) : SS c nm n (.assign i x q e p :: rest) loc st fl loc₂ st₂ :=
  ss_cons (x := .assign i x q e p) rfl (sx_assign hx he hc) hr
theorem ss_own {i : Nat} {x : Str} {q lp p : Ps} {es : List E} {vs : List V} {rest : List S} (hx : nm.ns[i]? = some x) (hs : SEs c nm n es loc st vs st₁) (hz : vs.length ≤ 1000000) (hr : SS c nm n rest (loc.set i (.own vs)) st₁ fl loc₂ st₂) : SS c nm n (.own i x q es lp p :: rest) loc st fl loc₂ st₂ :=
  ss_cons (x := .own i x q es lp p) rfl (sx_own hx hs hz) hr
theorem ss_return {e : E} {p : Ps} {v : V} {rest : List S} (he : SE c nm n e loc st v st₁) : SS c nm n (.ret e p :: rest) loc st (.ret v) loc st₁ :=
  ss_ret (x := .ret e p) rfl (sx_ret he)
theorem ss_if_t {x : C} {a b : List S} {p : Ps} {rest : List S} (hc : SC c nm n x loc st true st₁) (ha : SS c nm n a loc st₁ .next loc₁ st₂) (hr : SS c nm n rest loc₁ st₂ fl loc₂ st₃) : SS c nm n (.ite x a b p :: rest) loc st fl loc₂ st₃ :=
  ss_cons (x := .ite x a b p) rfl (sx_if_t hc ha) hr
theorem ss_if_tr {x : C} {a b : List S} {p : Ps} {rest : List S} {v : V} (hc : SC c nm n x loc st true st₁) (ha : SS c nm n a loc st₁ (.ret v) loc₁ st₂) : SS c nm n (.ite x a b p :: rest) loc st (.ret v) loc₁ st₂ :=
  ss_ret (x := .ite x a b p) rfl (sx_if_t hc ha)
theorem ss_if_f {x : C} {a b : List S} {p : Ps} {rest : List S} (hc : SC c nm n x loc st false st₁) (ha : SS c nm n b loc st₁ .next loc₁ st₂) (hr : SS c nm n rest loc₁ st₂ fl loc₂ st₃) : SS c nm n (.ite x a b p :: rest) loc st fl loc₂ st₃ :=
  ss_cons (x := .ite x a b p) rfl (sx_if_f hc ha) hr
theorem ss_if_fr {x : C} {a b : List S} {p : Ps} {rest : List S} {v : V} (hc : SC c nm n x loc st false st₁) (ha : SS c nm n b loc st₁ (.ret v) loc₁ st₂) : SS c nm n (.ite x a b p :: rest) loc st (.ret v) loc₁ st₂ :=
  ss_ret (x := .ite x a b p) rfl (sx_if_f hc ha)
theorem ss_for {i : Nat} {x : Str} {q p : Ps} {it : E} {body : List S} {xs : List V} {rest : List S} (hx : nm.ns[i]? = some x) (hi : SI c nm n it loc st xs st₁) (h : FEv c nm n i body xs loc st₁ .next loc₁ st₂) (hr : SS c nm n rest loc₁ st₂ fl loc₂ st₃) : SS c nm n (.for i x q it body p :: rest) loc st fl loc₂ st₃ :=
  ss_cons (x := .for i x q it body p) rfl (sx_for hx hi h) hr
theorem ss_forr {i : Nat} {x : Str} {q p : Ps} {it : E} {body : List S} {xs : List V} {rest : List S} {v : V} (hx : nm.ns[i]? = some x) (hi : SI c nm n it loc st xs st₁) (h : FEv c nm n i body xs loc st₁ (.ret v) loc₁ st₂) : SS c nm n (.for i x q it body p :: rest) loc st (.ret v) loc₁ st₂ :=
  ss_ret (x := .for i x q it body p) rfl (sx_for hx hi h)
theorem ss_while {x : C} {body : List S} {p : Ps} {k : Nat} {rest : List S} (h : WEv c nm n x body k loc st .next loc₁ st₁) (hr : SS c nm n rest loc₁ st₁ fl loc₂ st₂) : SS c nm n (.while x body p :: rest) loc st fl loc₂ st₂ :=
  ss_cons (x := .while x body p) rfl (sx_while h) hr
theorem ss_whiler {x : C} {body : List S} {p : Ps} {k : Nat} {rest : List S} {v : V} (h : WEv c nm n x body k loc st (.ret v) loc₁ st₁) : SS c nm n (.while x body p :: rest) loc st (.ret v) loc₁ st₁ :=
  ss_ret (x := .while x body p) rfl (sx_while h)
theorem ss_app {i : Nat} {x : Str} {xp ap cp p : Ps} {e : E} {xs : List V} {v : V} {rest : List S} (hx : nm.ns[i]? = some x) (hl : loc[i]? = some (.own xs)) (hd : (x == ("__debug__" : Str)) = false) (he : SE c nm n e loc st v st₁) (hline : (ap.endLine == cp.line) = true) (hz : xs.length ≤ 1000000) (hr : SS c nm n rest (loc.set i (.own (xs ++ [v]))) st₁ fl loc₂ st₂) :
    SS c nm n (.append i x xp ap e cp p :: rest) loc st fl loc₂ st₂ :=
  ss_cons (x := .append i x xp ap e cp p) rfl (sx_append hx hl hd he hline hz) hr
theorem ss_del {i : Nat} {x : Str} {xp sp p : Ps} {e : E} {xs : List V} {y : V} {k : Nat} {rest : List S} (hx : nm.ns[i]? = some x) (hl : loc[i]? = some (.own xs)) (hd : (x == ("__debug__" : Str)) = false) (he : SE c nm n e loc st y st₁) (hy : y.iv c = some (k : Int)) (hk : xs.length = k + 1) (hz : xs.length ≤ 1000000) (hr : SS c nm n rest (loc.set i (.own (xs.take k))) st₁ fl loc₂ st₂) :
    SS c nm n (.del i x xp e sp p :: rest) loc st fl loc₂ st₂ :=
  ss_cons (x := .del i x xp e sp p) rfl (sx_del hx hl hd he hy hk hz) hr
theorem ss_assignC {i : Nat} {y : Str} {py p' : Ps} {elt it : E} {sc : Scope} {x : Str} {q p : Ps} {cs : List Nat} {cn : List Str} {xs ys : List V} {rest : List S} (hy : nm.ns[i]? = some y) (hl : y ∈ nm.ls) (hline : (py.line == p.line) = true) (hno : (sc.names.any fun (z : Str × NameKind) => z.1 == y && (z.2 == .local || z.2 == .cell)) = false)
    (ok : CompOk nm nm' sc x cs cn) (hcap : ∀ j ∈ cs, ∃ v, loc[j]? = some (.v v)) (hi : SI c nm n it loc st xs st₁) (ev : CEv c nm' n elt (capV loc cs) xs st₁ ys st₂) (hr : SS c nm n rest (loc.set i (.v (.list ys))) st₂ fl loc₂ st₃) :
    SS c nm n (.assign i y py (.comp elt cs x q it sc p) p' :: rest) loc st fl loc₂ st₃ :=
  ss_cons (x := .assign i y py (.comp elt cs x q it sc p) p') rfl (sx_assignC hy hl hline hno ok hcap hi ev) hr

/-- the script -/
theorem Wd.scr {g : Gh} {h : Heap} (W : Wd c g st h) : h.IsList c.scr c.sws.toArray := by
  obtain ⟨o, e, r⟩ := c.hscr
  exact ⟨o, (W.base _ _ e).1, r⟩
theorem ints_get {ws : List Value} {ns : List Int} (h : IntsAre ws ns) {k : Nat} {i : Int} (e : ns[k]? = some i) : ∃ t, ws[k]? = some (.int i t) := by
  induction h generalizing k with
  | nil => cases e
  | cons =>
    rename_i ih
    cases k with
    | zero => cases e; exact ⟨_, rfl⟩
    | succ k => exact ih e
theorem blt_lenS (hz : c.sns.length ≤ 1000000) : SBlt c n (.builtin "len") [.scr] st (.int c.sns.length) st := fun A g s ws Q Ex r W R P => by
  cases R with
  | cons R1 R0 =>
    cases R0
    cases R1
    have hl := W.scr
    refine len_list hl (by rw [List.size_toArray, c.hsns.length]; omega) ?_
    rw [List.size_toArray, c.hsns.length]
    exact P.here W (.int _ _)
theorem sE_idxS {a b : E} {p : Ps} {k : Nat} {y : V} {i : Int} (ha : SE c nm n a loc st .scr st₁) (hb : SE c nm n b loc st₁ y st₂) (hy : y.iv c = some (k : Int)) (hx : c.sns[k]? = some i) (hz : c.sns.length ≤ 1000000) : SE c nm n (.idx a b p) loc st (.int i) st₂ := fun A env g s Q Ex r eo W L P => by
  show wpAny _ _ (eval (.Subscript a.py b.py p) env) Q Ex s
  refine Subscript_ (ha A env g s _ Ex r eo W L fun wa h₁ t₁ g₁ G₁ W₁ R₁ => ?_)
  refine hb A env g₁ _ _ Ex r eo W₁ (L.gro W G₁) fun wb h₂ t₂ g₂ G₂ W₂ R₂ => ?_
  obtain ⟨t, rfl⟩ := R₂.iv hy
  cases R₁
  have hl : Heap.IsList h₂ c.scr c.sws.toArray := W₂.scr
  obtain ⟨t', hw⟩ := ints_get c.hsns hx
  have hk := (List.getElem?_eq_some_iff.mp hx).1
  exact tail_any (s := { s with heap := h₂, toks := t₂ }) hl.typeIs slot_list_getitem.lookup (wpAny_getItem_list hl (by omega) (by omega) (by rw [Int.toNat_natCast, List.getElem?_toArray]; exact hw) (P _ h₂ t₂ g₂ (G₁.trans G₂) W₂ (.int _ _))) (py_sub b _ _)
theorem fn_code {pg : Pg} (P : PgOk c pg) {k np : Nat} {pad : List LV} {body : List S} {vs : List V} {v : V} (hk : pg.fns k = some (.ast np pad nm body)) (hl : vs.length = np) (h : SS c nm n body (locInit nm vs) st fl loc st₂) (hv : FlV fl v) : SCode c (n + 1) (pg.addr k) vs st v st₂ := by
  obtain ⟨_, _, d, hf⟩ := P.ast k np pad nm body hk
  rcases hf with hf | hf
  · exact sCode_fn hf hl h hv
  · exact sCode_fnC hf hl h hv
theorem fn_ok {pg : Pg} (P : PgOk c pg) {k : Nat} {x : Str} (hx : pg.gname k = some x) (gl : x ∈ nm.gs) : FnOk c nm x (pg.addr k) :=
  let ⟨a1, a2, a3⟩ := P.fn k x hx; ⟨gl, a1, a2, a3⟩
theorem SCode.mono {a : Addr} {vs : List V} {v : V} (h : SCode c n a vs st v st₁) {m : Nat} (hm : n ≤ m) : SCode c m a vs st v st₁ := fun A g s ws R r W RR P => h A g s ws R ⟨r.hd, (by have := r.dep; omega), (by have := r.uni; omega)⟩ W RR P
/-- an int that is a key, a value -/
theorem se_key {e : E} {i : Nat} {k : Int} (h : SE c nm n e loc st (.int k) st₁) (hk : k = c.kv i) : SE c nm n e loc st (.key i) st₁ := fun A env g s Q Ex r eo W L P => h A env g s Q Ex r eo W L fun w h₁ t₁ g₁ G₁ W₁ R₁ => by
  subst hk
  cases R₁ with
  | int _ t => exact P _ h₁ t₁ g₁ G₁ W₁ (.key i t)
theorem se_val {e : E} {i : Nat} {k : Int} (h : SE c nm n e loc st (.int k) st₁) (hk : k = c.vv i) : SE c nm n e loc st (.val i) st₁ := fun A env g s Q Ex r eo W L P => h A env g s Q Ex r eo W L fun w h₁ t₁ g₁ G₁ W₁ R₁ => by
  subst hk
  cases R₁ with
  | int _ t => exact P _ h₁ t₁ g₁ G₁ W₁ (.val i t)
end
end Mine

namespace Mine
open PySem PySem.W PySem.Calls PyProof.Rows
section
variable {c : Cn} {nm : Nm} {n : Nat} {loc loc₁ loc₂ : List LV} {st st₁ st₂ : List Inst} {fl : Fl}

theorem getO {i : Nat} {lv : LV} (h : loc[i]? = some lv) : i < loc.length := (List.getElem?_eq_some_iff.mp h).1
/-- len(x) - 1, x an owned list that is not empty -/
theorem sE_last {i : Nat} {x y : Str} {p1 p2 p3 p4 p5 : Ps} {S : List V} {v : V} (bt : BtOk c nm x (.builtin "len")) (hx : nm.ns[i]? = some y) (hl : loc[i]? = some (.own (S ++ [v]))) (hd : (y == ("__debug__" : Str)) = false) (hz : S.length < 1000000) :
    SE c nm n (.bin .sub (.call .len x p1 [.loc i y p2] p3) (.int 1 p4) p5) loc st (.int (S.length : Int)) st := by
  have h := sE_bin (p := p5) (sE_lenO (q := p1) (p := p3) (p' := p2) (n := n) (st := st) bt hx hl hd (by rw [List.length_append]; simp; omega)) (sE_int (i := 1) (p := p4)) (bin_sub rfl rfl)
  have e : (((S ++ [v]).length : Nat) : Int) - 1 = (S.length : Int) := by rw [List.length_append]; simp
  rw [e] at h
  exact h
/-- y = x[len(x) - 1]; del x[len(x) - 1] -/
theorem ss_pop {i j : Nat} {x y L : Str} {a1 a2 a3 a4 a5 a6 a7 a8 a9 b1 b2 b3 b4 b5 b6 b7 b8 : Ps} {S : List V} {v : V} {rest : List Mine.S} (bt : BtOk c nm L (.builtin "len")) (hx : nm.ns[i]? = some x) (hy : nm.ns[j]? = some y) (hij : j ≠ i) (hl : loc[i]? = some (.own (S ++ [v]))) (hd : (x == ("__debug__" : Str)) = false) (hz : S.length < 1000000)
    (hr : SS c nm n rest ((loc.set j (.v v)).set i (.own S)) st fl loc₂ st₂) :
    SS c nm n (.assign j y a1 (.idx (.loc i x a2) (.bin .sub (.call .len L a3 [.loc i x a4] a5) (.int 1 a6) a7) a8) a9 :: .del i x b1 (.bin .sub (.call .len L b2 [.loc i x b3] b4) (.int 1 b5) b6) b7 b8 :: rest) loc st fl loc₂ st₂ := by
  refine ss_assign (st₁ := st) (v := v) hy (sE_idxO (k := S.length) (z := .int (S.length : Int)) hx hl hd (sE_last bt hx hl hd hz) rfl ?_ ?_) rfl ?_
  · rw [List.getElem?_append_right (Nat.le_refl _), Nat.sub_self]; rfl
  · rw [List.length_append]; simp; omega
  · have hl' : (loc.set j (.v v))[i]? = some (.own (S ++ [v])) := by rw [List.getElem?_set_ne hij]; exact hl
    refine ss_del (st₁ := st) (y := .int (S.length : Int)) (k := S.length) hx hl' hd (sE_last bt hx hl' hd hz) rfl ?_ ?_ ?_
    · rw [List.length_append]; rfl
    · rw [List.length_append]; simp; omega
    · rw [List.take_left]
      exact hr
/-- len(x) > 0 -/
theorem sC_more {i : Nat} {x L : Str} {a1 a2 a3 a4 a5 : Ps} {S : List V} (bt : BtOk c nm L (.builtin "len")) (hx : nm.ns[i]? = some x) (hl : loc[i]? = some (.own S)) (hd : (x == ("__debug__" : Str)) = false) (hz : S.length ≤ 1000000) :
    SC c nm n (.cmp .gt (.call .len L a1 [.loc i x a2] a3) (.int 0 a4) a5) loc st (decide ((0 : Int) < (S.length : Int))) st :=
  sC_cmp (sE_lenO bt hx hl hd hz) sE_int (cmp_gt rfl rfl)
theorem sC_more_t {i : Nat} {x L : Str} {a1 a2 a3 a4 a5 : Ps} {S : List V} {v : V} (bt : BtOk c nm L (.builtin "len")) (hx : nm.ns[i]? = some x) (hl : loc[i]? = some (.own (S ++ [v]))) (hd : (x == ("__debug__" : Str)) = false) (hz : S.length < 1000000) :
    SC c nm n (.cmp .gt (.call .len L a1 [.loc i x a2] a3) (.int 0 a4) a5) loc st true st := by
  have h := sC_more (n := n) (st := st) (a1 := a1) (a2 := a2) (a3 := a3) (a4 := a4) (a5 := a5) bt hx hl hd (by rw [List.length_append]; simp; omega)
  rw [decide_eq_true (by rw [List.length_append, List.length_singleton]; omega)] at h
  exact h
theorem sC_more_f {i : Nat} {x L : Str} {a1 a2 a3 a4 a5 : Ps} (bt : BtOk c nm L (.builtin "len")) (hx : nm.ns[i]? = some x) (hl : loc[i]? = some (.own [])) (hd : (x == ("__debug__" : Str)) = false) :
    SC c nm n (.cmp .gt (.call .len L a1 [.loc i x a2] a3) (.int 0 a4) a5) loc st false st :=
  sC_more (S := []) bt hx hl hd (by simp)
/-- for y in ..: x.append(e), e's value f y -/
theorem fe_push {i j : Nat} {x : Str} {a1 a2 a3 a4 : Ps} {e : E} (f : V → V) (hx : nm.ns[i]? = some x) (hij : j ≠ i) (hd : (x == ("__debug__" : Str)) = false) (hline : (a2.endLine == a3.line) = true) :
    ∀ (ys S : List V) (loc : List LV), loc[i]? = some (.own S) → j < loc.length → S.length + ys.length ≤ 1000000 → (∀ y ∈ ys, ∀ S', SE c nm n e ((loc.set i (.own S')).set j (.v y)) st (f y) st) →
      ∃ lv, FEv c nm n j [.append i x a1 a2 e a3 a4] ys loc st .next ((loc.set i (.own (S ++ ys.map f))).set j lv) st := by
  intro ys
  induction ys with
  | nil =>
    intro S loc hl hj hz he
    have hi := getO hl
    refine ⟨loc[j], ?_⟩
    have e1 : loc.set i (.own (S ++ [].map f)) = loc := by
      rw [List.map_nil, List.append_nil]
      apply List.ext_getElem?
      intro k
      by_cases hk : k = i
      · subst hk; rw [List.getElem?_set_self hi, hl]
      · rw [List.getElem?_set_ne (Ne.symm hk)]
    have e2 : loc.set j loc[j] = loc := List.set_getElem_self hj
    rw [e1, e2]
    exact .nil
  | cons y ys ih =>
    intro S loc hl hj hz he
    have hi := getO hl
    have hS : loc.set i (.own S) = loc := by
      apply List.ext_getElem?
      intro k
      by_cases hk : k = i
      · subst hk; rw [List.getElem?_set_self hi, hl]
      · rw [List.getElem?_set_ne (Ne.symm hk)]
    have h1 : SS c nm n [.append i x a1 a2 e a3 a4] (loc.set j (.v y)) st .next ((loc.set j (.v y)).set i (.own (S ++ [f y]))) st := by
      refine ss_app (st₁ := st) hx (by rw [List.getElem?_set_ne hij]; exact hl) hd ?_ hline (by simp at hz; omega) ss_nil
      have := he y (.head _) S
      rw [hS] at this
      exact this
    obtain ⟨lv, ev⟩ := ih (S ++ [f y]) ((loc.set j (.v y)).set i (.own (S ++ [f y]))) (by rw [List.getElem?_set_self (by rw [List.length_set]; exact hi)]) (by rw [List.length_set, List.length_set]; exact hj) (by rw [List.length_append]; simp at hz ⊢; omega) (fun z hz' S' => by
      have := he z (.tail _ hz') S'
      rw [List.set_set]
      have e3 : ((loc.set j (.v y)).set i (.own S')).set j (.v z) = (loc.set i (.own S')).set j (.v z) := by
        rw [List.set_comm _ _ hij, List.set_set]
      rw [e3]
      exact this)
    refine ⟨lv, .cons h1 ?_⟩
    have e4 : ((((loc.set j (.v y)).set i (.own (S ++ [f y]))).set i (.own (S ++ [f y] ++ ys.map f))).set j lv) = (loc.set i (.own (S ++ (y :: ys).map f))).set j lv := by
      rw [List.set_set, List.set_comm _ _ hij, List.set_set, List.map_cons, List.append_assoc]; rfl
    rw [e4] at ev
    exact ev
end
end Mine

namespace Mine
open PySem PySem.W PySem.Calls PyProof.Rows

/-- row_with -/
noncomputable def b0 : List S :=
 [.ret (.bin .add (.bin .add (.slice (.loc 0 "row" ⟨6, 11, 6, 14⟩) Option.none (some (.loc 1 "i" ⟨6, 16, 6, 17⟩)) ⟨6, 15, 6, 17⟩ ⟨6, 11, 6, 18⟩) (.list [(.loc 2 "item" ⟨6, 22, 6, 26⟩)] ⟨6, 21, 6, 27⟩) ⟨6, 11, 6, 27⟩) (.slice (.loc 0 "row" ⟨6, 30, 6, 33⟩) (some (.bin .add (.loc 1 "i" ⟨6, 34, 6, 35⟩) (.int 1 ⟨6, 38, 6, 39⟩) ⟨6, 34, 6, 39⟩)) Option.none ⟨6, 34, 6, 40⟩ ⟨6, 30, 6, 41⟩) ⟨6, 11, 6, 41⟩) ⟨6, 4, 6, 41⟩]
noncomputable def nm0 : Nm := ⟨["row", "i", "item"], [], [], ["row", "i", "item"]⟩
noncomputable def f0 : Fn := .ast 3 [] nm0 b0

/-- row_without -/
noncomputable def b1 : List S :=
 [.ret (.bin .add (.slice (.loc 0 "row" ⟨8, 11, 8, 14⟩) Option.none (some (.loc 1 "i" ⟨8, 16, 8, 17⟩)) ⟨8, 15, 8, 17⟩ ⟨8, 11, 8, 18⟩) (.slice (.loc 0 "row" ⟨8, 21, 8, 24⟩) (some (.bin .add (.loc 1 "i" ⟨8, 25, 8, 26⟩) (.int 1 ⟨8, 29, 8, 30⟩) ⟨8, 25, 8, 30⟩)) Option.none ⟨8, 25, 8, 31⟩ ⟨8, 21, 8, 32⟩) ⟨8, 11, 8, 32⟩) ⟨8, 4, 8, 32⟩]
noncomputable def nm1 : Nm := ⟨["row", "i"], [], [], ["row", "i"]⟩
noncomputable def f1 : Fn := .ast 2 [] nm1 b1

/-- _law_cell -/
noncomputable def b2 : List S :=
 [.ite (.cmp .lt (.loc 1 "n" ⟨167, 7, 167, 8⟩) (.call .len "len" ⟨167, 11, 167, 14⟩ [(.loc 0 "script" ⟨167, 15, 167, 21⟩)] ⟨167, 11, 167, 22⟩) ⟨167, 7, 167, 22⟩) [.ret (.idx (.loc 0 "script" ⟨168, 15, 168, 21⟩) (.loc 1 "n" ⟨168, 22, 168, 23⟩) ⟨168, 15, 168, 24⟩) ⟨168, 8, 168, 24⟩] [] ⟨167, 4, 168, 24⟩,
   .ret (.int 0 ⟨169, 11, 169, 12⟩) ⟨169, 4, 169, 12⟩]
noncomputable def nm2 : Nm := ⟨["script", "n"], ["len"], [], ["script", "n"]⟩
noncomputable def f2 : Fn := .ast 2 [] nm2 b2

/-- _law_walk -/
noncomputable def b3 : List S :=
 [.assign 2 "key" ⟨171, 4, 171, 7⟩ (.call (.fn 2) "_law_cell" ⟨171, 10, 171, 19⟩ [(.loc 0 "script" ⟨171, 20, 171, 26⟩), (.int 6 ⟨171, 28, 171, 29⟩)] ⟨171, 10, 171, 30⟩) ⟨171, 4, 171, 30⟩,
   .own 3 "out" ⟨172, 4, 172, 7⟩ [] ⟨172, 10, 172, 12⟩ ⟨172, 4, 172, 12⟩,
   .for 4 "n" ⟨173, 8, 173, 9⟩ (.call .range "range" ⟨173, 13, 173, 18⟩ [(.loc 1 "count" ⟨173, 19, 173, 24⟩)] ⟨173, 13, 173, 25⟩) [.assign 5 "cell" ⟨174, 8, 174, 12⟩ (.call (.fn 2) "_law_cell" ⟨174, 15, 174, 24⟩ [(.loc 0 "script" ⟨174, 25, 174, 31⟩), (.bin .add (.int 7 ⟨174, 33, 174, 34⟩) (.bin .mod (.loc 4 "n" ⟨174, 37, 174, 38⟩) (.int 16 ⟨174, 41, 174, 43⟩) ⟨174, 37, 174, 43⟩) ⟨174, 33, 174, 43⟩)] ⟨174, 15, 174, 44⟩) ⟨174, 8, 174, 44⟩,
     .assign 2 "key" ⟨175, 8, 175, 11⟩ (.bin .add (.bin .add (.loc 2 "key" ⟨175, 14, 175, 17⟩) (.int 1 ⟨175, 20, 175, 21⟩) ⟨175, 14, 175, 21⟩) (.bin .mod (.loc 5 "cell" ⟨175, 24, 175, 28⟩) (.int 5 ⟨175, 31, 175, 32⟩) ⟨175, 24, 175, 32⟩) ⟨175, 14, 175, 32⟩) ⟨175, 8, 175, 32⟩,
     .append 3 "out" ⟨176, 8, 176, 11⟩ ⟨176, 8, 176, 18⟩ (.tup [(.loc 2 "key" ⟨176, 20, 176, 23⟩), (.bin .add (.bin .mul (.loc 5 "cell" ⟨176, 25, 176, 29⟩) (.int 32 ⟨176, 32, 176, 34⟩) ⟨176, 25, 176, 34⟩) (.loc 4 "n" ⟨176, 37, 176, 38⟩) ⟨176, 25, 176, 38⟩)] 0 ⟨176, 19, 176, 39⟩) ⟨176, 8, 176, 40⟩ ⟨176, 8, 176, 40⟩] ⟨173, 4, 176, 40⟩,
   .freeze 3,
   .ret (.loc 3 "out" ⟨177, 11, 177, 14⟩) ⟨177, 4, 177, 14⟩]
noncomputable def nm3 : Nm := ⟨["script", "count", "key", "out", "n", "cell"], ["_law_cell", "range"], [], ["script", "count", "key", "out", "n", "cell"]⟩
noncomputable def f3 : Fn := .ast 2 [.unset, .unset, .unset, .unset] nm3 b3

/-- _law_node -/
noncomputable def b4 : List S :=
 [.ret (.call (.cls 0) "Node" ⟨179, 11, 179, 15⟩ [(.comp (.idx (.loc 0 "p" ⟨179, 17, 179, 18⟩) (.int 0 ⟨179, 19, 179, 20⟩) ⟨179, 17, 179, 21⟩) [] "p" ⟨179, 26, 179, 27⟩ (.loc 0 "pairs" ⟨179, 31, 179, 36⟩) ⟨.function, [(".0", .local), ("p", .local)], false, false, []⟩ ⟨179, 16, 179, 37⟩), (.comp (.idx (.loc 0 "p" ⟨179, 40, 179, 41⟩) (.int 1 ⟨179, 42, 179, 43⟩) ⟨179, 40, 179, 44⟩) [] "p" ⟨179, 49, 179, 50⟩ (.loc 0 "pairs" ⟨179, 54, 179, 59⟩) ⟨.function, [(".0", .local), ("p", .local)], false, false, []⟩ ⟨179, 39, 179, 60⟩), (.loc 1 "below" ⟨179, 62, 179, 67⟩)] ⟨179, 11, 179, 68⟩) ⟨179, 4, 179, 68⟩]
noncomputable def nm4 : Nm := ⟨["pairs", "below"], ["Node"], [], ["pairs", "below"]⟩
noncomputable def f4 : Fn := .ast 2 [] nm4 b4

/-- _law_rows -/
noncomputable def b5 : List S :=
 [.own 3 "rows" ⟨181, 4, 181, 8⟩ [] ⟨181, 11, 181, 13⟩ ⟨181, 4, 181, 13⟩,
   .assign 4 "low" ⟨182, 4, 182, 7⟩ (.int 0 ⟨182, 10, 182, 11⟩) ⟨182, 4, 182, 11⟩,
   .for 5 "high" ⟨183, 8, 183, 12⟩ (.bin .add (.loc 2 "cuts" ⟨183, 16, 183, 20⟩) (.list [(.call .len "len" ⟨183, 24, 183, 27⟩ [(.loc 0 "line" ⟨183, 28, 183, 32⟩)] ⟨183, 24, 183, 33⟩)] ⟨183, 23, 183, 34⟩) ⟨183, 16, 183, 34⟩) [.append 3 "rows" ⟨184, 8, 184, 12⟩ ⟨184, 8, 184, 19⟩ (.tup [(.slice (.loc 0 "line" ⟨184, 21, 184, 25⟩) (some (.loc 4 "low" ⟨184, 26, 184, 29⟩)) (some (.loc 5 "high" ⟨184, 30, 184, 34⟩)) ⟨184, 26, 184, 34⟩ ⟨184, 21, 184, 35⟩), (.slice (.loc 1 "under" ⟨184, 37, 184, 42⟩) (some (.loc 4 "low" ⟨184, 43, 184, 46⟩)) (some (.bin .add (.loc 5 "high" ⟨184, 47, 184, 51⟩) (.int 1 ⟨184, 54, 184, 55⟩) ⟨184, 47, 184, 55⟩)) ⟨184, 43, 184, 55⟩ ⟨184, 37, 184, 56⟩)] 0 ⟨184, 20, 184, 57⟩) ⟨184, 8, 184, 58⟩ ⟨184, 8, 184, 58⟩,
     .assign 4 "low" ⟨185, 8, 185, 11⟩ (.bin .add (.loc 5 "high" ⟨185, 14, 185, 18⟩) (.int 1 ⟨185, 21, 185, 22⟩) ⟨185, 14, 185, 22⟩) ⟨185, 8, 185, 22⟩] ⟨183, 4, 185, 22⟩,
   .freeze 3,
   .ret (.loc 3 "rows" ⟨186, 11, 186, 15⟩) ⟨186, 4, 186, 15⟩]
noncomputable def nm5 : Nm := ⟨["line", "under", "cuts", "rows", "low", "high"], ["len"], [], ["line", "under", "cuts", "rows", "low", "high"]⟩
noncomputable def f5 : Fn := .ast 3 [.unset, .unset, .unset] nm5 b5

/-- _law_due -/
noncomputable def b6 : List S :=
 [.ite (.cmp .ge (.idx (.loc 2 "sizes" ⟨188, 7, 188, 12⟩) (.loc 3 "i" ⟨188, 13, 188, 14⟩) ⟨188, 7, 188, 15⟩) (.loc 0 "t" ⟨188, 19, 188, 20⟩) ⟨188, 7, 188, 20⟩) [.ret (.tup [(.loc 3 "i" ⟨189, 16, 189, 17⟩), (.loc 1 "cuts" ⟨189, 19, 189, 23⟩)] 0 ⟨189, 15, 189, 24⟩) ⟨189, 8, 189, 24⟩] [] ⟨188, 4, 189, 24⟩,
   .ite (.and [(.cmp .gt (.loc 3 "i" ⟨190, 7, 190, 8⟩) (.int 0 ⟨190, 11, 190, 12⟩) ⟨190, 7, 190, 12⟩), (.cmp .ge (.idx (.loc 2 "sizes" ⟨190, 17, 190, 22⟩) (.bin .sub (.loc 3 "i" ⟨190, 23, 190, 24⟩) (.int 1 ⟨190, 27, 190, 28⟩) ⟨190, 23, 190, 28⟩) ⟨190, 17, 190, 29⟩) (.loc 0 "t" ⟨190, 33, 190, 34⟩) ⟨190, 17, 190, 34⟩)] ⟨190, 7, 190, 34⟩) [.ret (.tup [(.loc 3 "i" ⟨191, 16, 191, 17⟩), (.bin .add (.bin .add (.slice (.loc 1 "cuts" ⟨191, 19, 191, 23⟩) Option.none (some (.bin .sub (.loc 3 "i" ⟨191, 25, 191, 26⟩) (.int 1 ⟨191, 29, 191, 30⟩) ⟨191, 25, 191, 30⟩)) ⟨191, 24, 191, 30⟩ ⟨191, 19, 191, 31⟩) (.list [(.bin .sub (.idx (.loc 1 "cuts" ⟨191, 35, 191, 39⟩) (.bin .sub (.loc 3 "i" ⟨191, 40, 191, 41⟩) (.int 1 ⟨191, 44, 191, 45⟩) ⟨191, 40, 191, 45⟩) ⟨191, 35, 191, 46⟩) (.int 1 ⟨191, 49, 191, 50⟩) ⟨191, 35, 191, 50⟩)] ⟨191, 34, 191, 51⟩) ⟨191, 19, 191, 51⟩) (.slice (.loc 1 "cuts" ⟨191, 54, 191, 58⟩) (some (.loc 3 "i" ⟨191, 59, 191, 60⟩)) Option.none ⟨191, 59, 191, 61⟩ ⟨191, 54, 191, 62⟩) ⟨191, 19, 191, 62⟩)] 0 ⟨191, 15, 191, 63⟩) ⟨191, 8, 191, 63⟩] [] ⟨190, 4, 191, 63⟩,
   .ite (.and [(.cmp .lt (.bin .add (.loc 3 "i" ⟨192, 7, 192, 8⟩) (.int 1 ⟨192, 11, 192, 12⟩) ⟨192, 7, 192, 12⟩) (.call .len "len" ⟨192, 15, 192, 18⟩ [(.loc 2 "sizes" ⟨192, 19, 192, 24⟩)] ⟨192, 15, 192, 25⟩) ⟨192, 7, 192, 25⟩), (.cmp .ge (.idx (.loc 2 "sizes" ⟨192, 30, 192, 35⟩) (.bin .add (.loc 3 "i" ⟨192, 36, 192, 37⟩) (.int 1 ⟨192, 40, 192, 41⟩) ⟨192, 36, 192, 41⟩) ⟨192, 30, 192, 42⟩) (.loc 0 "t" ⟨192, 46, 192, 47⟩) ⟨192, 30, 192, 47⟩)] ⟨192, 7, 192, 47⟩) [.ret (.tup [(.loc 3 "i" ⟨193, 16, 193, 17⟩), (.bin .add (.bin .add (.slice (.loc 1 "cuts" ⟨193, 19, 193, 23⟩) Option.none (some (.loc 3 "i" ⟨193, 25, 193, 26⟩)) ⟨193, 24, 193, 26⟩ ⟨193, 19, 193, 27⟩) (.list [(.bin .add (.idx (.loc 1 "cuts" ⟨193, 31, 193, 35⟩) (.loc 3 "i" ⟨193, 36, 193, 37⟩) ⟨193, 31, 193, 38⟩) (.int 1 ⟨193, 41, 193, 42⟩) ⟨193, 31, 193, 42⟩)] ⟨193, 30, 193, 43⟩) ⟨193, 19, 193, 43⟩) (.slice (.loc 1 "cuts" ⟨193, 46, 193, 50⟩) (some (.bin .add (.loc 3 "i" ⟨193, 51, 193, 52⟩) (.int 1 ⟨193, 55, 193, 56⟩) ⟨193, 51, 193, 56⟩)) Option.none ⟨193, 51, 193, 57⟩ ⟨193, 46, 193, 58⟩) ⟨193, 19, 193, 58⟩)] 0 ⟨193, 15, 193, 59⟩) ⟨193, 8, 193, 59⟩] [] ⟨192, 4, 193, 59⟩,
   .assign 4 "gone" ⟨194, 4, 194, 8⟩ (.call .max "max" ⟨194, 11, 194, 14⟩ [(.bin .sub (.loc 3 "i" ⟨194, 15, 194, 16⟩) (.int 1 ⟨194, 19, 194, 20⟩) ⟨194, 15, 194, 20⟩), (.int 0 ⟨194, 22, 194, 23⟩)] ⟨194, 11, 194, 24⟩) ⟨194, 4, 194, 24⟩,
   .ret (.tup [(.loc 4 "gone" ⟨195, 12, 195, 16⟩), (.bin .add (.slice (.loc 1 "cuts" ⟨195, 18, 195, 22⟩) Option.none (some (.loc 4 "gone" ⟨195, 24, 195, 28⟩)) ⟨195, 23, 195, 28⟩ ⟨195, 18, 195, 29⟩) (.slice (.loc 1 "cuts" ⟨195, 32, 195, 36⟩) (some (.bin .add (.loc 4 "gone" ⟨195, 37, 195, 41⟩) (.int 1 ⟨195, 44, 195, 45⟩) ⟨195, 37, 195, 45⟩)) Option.none ⟨195, 37, 195, 46⟩ ⟨195, 32, 195, 47⟩) ⟨195, 18, 195, 47⟩)] 0 ⟨195, 11, 195, 48⟩) ⟨195, 4, 195, 48⟩]
noncomputable def nm6 : Nm := ⟨["t", "cuts", "sizes", "i", "gone"], ["len", "max"], [], ["t", "cuts", "sizes", "i", "gone"]⟩
noncomputable def f6 : Fn := .ast 4 [.unset] nm6 b6

/-- _law_same -/
noncomputable def b7 : List S :=
 [.ite (.cmp .isnot (.loc 0 "child" ⟨197, 7, 197, 12⟩) (.loc 1 "old" ⟨197, 20, 197, 23⟩) ⟨197, 7, 197, 23⟩) [.ret (.bool false ⟨198, 15, 198, 20⟩) ⟨198, 8, 198, 20⟩] [] ⟨197, 4, 198, 20⟩,
   .ite (.cmp .ne (.attr (.loc 0 "child" ⟨199, 7, 199, 12⟩) 0 "key_row" ⟨199, 7, 199, 20⟩) (.comp (.idx (.loc 0 "p" ⟨199, 25, 199, 26⟩) (.int 0 ⟨199, 27, 199, 28⟩) ⟨199, 25, 199, 29⟩) [] "p" ⟨199, 34, 199, 35⟩ (.idx (.loc 2 "row" ⟨199, 39, 199, 42⟩) (.int 0 ⟨199, 43, 199, 44⟩) ⟨199, 39, 199, 45⟩) ⟨.function, [(".0", .local), ("p", .local)], false, false, []⟩ ⟨199, 24, 199, 46⟩) ⟨199, 7, 199, 46⟩) [.ret (.bool false ⟨200, 15, 200, 20⟩) ⟨200, 8, 200, 20⟩] [] ⟨199, 4, 200, 20⟩,
   .ite (.cmp .ne (.attr (.loc 0 "child" ⟨201, 7, 201, 12⟩) 1 "value_row" ⟨201, 7, 201, 22⟩) (.comp (.idx (.loc 0 "p" ⟨201, 27, 201, 28⟩) (.int 1 ⟨201, 29, 201, 30⟩) ⟨201, 27, 201, 31⟩) [] "p" ⟨201, 36, 201, 37⟩ (.idx (.loc 2 "row" ⟨201, 41, 201, 44⟩) (.int 0 ⟨201, 45, 201, 46⟩) ⟨201, 41, 201, 47⟩) ⟨.function, [(".0", .local), ("p", .local)], false, false, []⟩ ⟨201, 26, 201, 48⟩) ⟨201, 7, 201, 48⟩) [.ret (.bool false ⟨202, 15, 202, 20⟩) ⟨202, 8, 202, 20⟩] [] ⟨201, 4, 202, 20⟩,
   .ite (.cmp .ne (.call .len "len" ⟨203, 7, 203, 10⟩ [(.attr (.loc 0 "child" ⟨203, 11, 203, 16⟩) 2 "children" ⟨203, 11, 203, 25⟩)] ⟨203, 7, 203, 26⟩) (.call .len "len" ⟨203, 30, 203, 33⟩ [(.idx (.loc 2 "row" ⟨203, 34, 203, 37⟩) (.int 1 ⟨203, 38, 203, 39⟩) ⟨203, 34, 203, 40⟩)] ⟨203, 30, 203, 41⟩) ⟨203, 7, 203, 41⟩) [.ret (.bool false ⟨204, 15, 204, 20⟩) ⟨204, 8, 204, 20⟩] [] ⟨203, 4, 204, 20⟩,
   .for 3 "g" ⟨205, 8, 205, 9⟩ (.call .range "range" ⟨205, 13, 205, 18⟩ [(.call .len "len" ⟨205, 19, 205, 22⟩ [(.idx (.loc 2 "row" ⟨205, 23, 205, 26⟩) (.int 1 ⟨205, 27, 205, 28⟩) ⟨205, 23, 205, 29⟩)] ⟨205, 19, 205, 30⟩)] ⟨205, 13, 205, 31⟩) [.ite (.cmp .isnot (.idx (.attr (.loc 0 "child" ⟨206, 11, 206, 16⟩) 2 "children" ⟨206, 11, 206, 25⟩) (.loc 3 "g" ⟨206, 26, 206, 27⟩) ⟨206, 11, 206, 28⟩) (.idx (.idx (.loc 2 "row" ⟨206, 36, 206, 39⟩) (.int 1 ⟨206, 40, 206, 41⟩) ⟨206, 36, 206, 42⟩) (.loc 3 "g" ⟨206, 43, 206, 44⟩) ⟨206, 36, 206, 45⟩) ⟨206, 11, 206, 45⟩) [.ret (.bool false ⟨207, 19, 207, 24⟩) ⟨207, 12, 207, 24⟩] [] ⟨206, 8, 207, 24⟩] ⟨205, 4, 207, 24⟩,
   .ret (.bool true ⟨208, 11, 208, 15⟩) ⟨208, 4, 208, 15⟩]
noncomputable def nm7 : Nm := ⟨["child", "old", "row", "g"], ["len", "range"], [], ["child", "old", "row", "g"]⟩
noncomputable def f7 : Fn := .ast 3 [.unset] nm7 b7

/-- law -/
noncomputable def b8a : List S :=
 [.assign 1 "mode" ⟨210, 4, 210, 8⟩ (.bin .mod (.call (.fn 2) "_law_cell" ⟨210, 11, 210, 20⟩ [(.loc 0 "script" ⟨210, 21, 210, 27⟩), (.int 0 ⟨210, 29, 210, 30⟩)] ⟨210, 11, 210, 31⟩) (.int 3 ⟨210, 34, 210, 35⟩) ⟨210, 11, 210, 35⟩) ⟨210, 4, 210, 35⟩,
  .assign 2 "t" ⟨211, 4, 211, 5⟩ (.int 2 ⟨211, 8, 211, 9⟩) ⟨211, 4, 211, 9⟩,
  .ite (.cmp .eq (.loc 1 "mode" ⟨212, 7, 212, 11⟩) (.int 1 ⟨212, 15, 212, 16⟩) ⟨212, 7, 212, 16⟩) [.assign 2 "t" ⟨213, 8, 213, 9⟩ (.int 3 ⟨213, 12, 213, 13⟩) ⟨213, 8, 213, 13⟩] [] ⟨212, 4, 213, 13⟩,
  .assign 3 "wide" ⟨214, 4, 214, 8⟩ (.bin .add (.int 2 ⟨214, 11, 214, 12⟩) (.bin .mod (.call (.fn 2) "_law_cell" ⟨214, 15, 214, 24⟩ [(.loc 0 "script" ⟨214, 25, 214, 31⟩), (.int 1 ⟨214, 33, 214, 34⟩)] ⟨214, 15, 214, 35⟩) (.int 2 ⟨214, 38, 214, 39⟩) ⟨214, 15, 214, 39⟩) ⟨214, 11, 214, 39⟩) ⟨214, 4, 214, 39⟩,
  .assign 4 "i" ⟨215, 4, 215, 5⟩ (.bin .mod (.call (.fn 2) "_law_cell" ⟨215, 8, 215, 17⟩ [(.loc 0 "script" ⟨215, 18, 215, 24⟩), (.int 2 ⟨215, 26, 215, 27⟩)] ⟨215, 8, 215, 28⟩) (.loc 3 "wide" ⟨215, 31, 215, 35⟩) ⟨215, 8, 215, 35⟩) ⟨215, 4, 215, 35⟩,
  .assign 5 "sizes" ⟨216, 4, 216, 9⟩ (.comp (.bin .add (.bin .sub (.loc 2 "t" ⟨216, 13, 216, 14⟩) (.int 1 ⟨216, 17, 216, 18⟩) ⟨216, 13, 216, 18⟩) (.idx (.glob 0 "_law_extra" ⟨216, 21, 216, 31⟩) (.bin .mod (.call (.fn 2) "_law_cell" ⟨216, 32, 216, 41⟩ [(.loc 1 "script" ⟨216, 42, 216, 48⟩), (.bin .add (.int 3 ⟨216, 50, 216, 51⟩) (.loc 0 "j" ⟨216, 54, 216, 55⟩) ⟨216, 50, 216, 55⟩)] ⟨216, 32, 216, 56⟩) (.int 5 ⟨216, 59, 216, 60⟩) ⟨216, 32, 216, 60⟩) ⟨216, 21, 216, 61⟩) ⟨216, 13, 216, 61⟩) [0, 2] "j" ⟨216, 66, 216, 67⟩ (.call .range "range" ⟨216, 71, 216, 76⟩ [(.loc 3 "wide" ⟨216, 77, 216, 81⟩)] ⟨216, 71, 216, 82⟩) ⟨.function, [(".0", .local), ("j", .local), ("_law_extra", .globalImplicit), ("_law_cell", .globalImplicit), ("script", .free), ("t", .free)], false, false, []⟩ ⟨216, 12, 216, 83⟩) ⟨216, 4, 216, 83⟩]
noncomputable def b8b : List S :=
 [.own 6 "seps" ⟨217, 4, 217, 8⟩ [] ⟨217, 11, 217, 13⟩ ⟨217, 4, 217, 13⟩,
  .assign 7 "at" ⟨218, 4, 218, 6⟩ (.neg 1 ⟨218, 10, 218, 11⟩ ⟨218, 9, 218, 11⟩) ⟨218, 4, 218, 11⟩,
  .for 8 "j" ⟨219, 8, 219, 9⟩ (.call .range "range" ⟨219, 13, 219, 18⟩ [(.bin .sub (.loc 3 "wide" ⟨219, 19, 219, 23⟩) (.int 1 ⟨219, 26, 219, 27⟩) ⟨219, 19, 219, 27⟩)] ⟨219, 13, 219, 28⟩) [.assign 7 "at" ⟨220, 8, 220, 10⟩ (.bin .add (.bin .add (.loc 7 "at" ⟨220, 13, 220, 15⟩) (.idx (.loc 5 "sizes" ⟨220, 18, 220, 23⟩) (.loc 8 "j" ⟨220, 24, 220, 25⟩) ⟨220, 18, 220, 26⟩) ⟨220, 13, 220, 26⟩) (.int 1 ⟨220, 29, 220, 30⟩) ⟨220, 13, 220, 30⟩) ⟨220, 8, 220, 30⟩,
     .append 6 "seps" ⟨221, 8, 221, 12⟩ ⟨221, 8, 221, 19⟩ (.loc 7 "at" ⟨221, 20, 221, 22⟩) ⟨221, 8, 221, 23⟩ ⟨221, 8, 221, 23⟩] ⟨219, 4, 221, 23⟩,
  .assign 9 "count" ⟨222, 4, 222, 9⟩ (.bin .sub (.bin .add (.call .sum "sum" ⟨222, 12, 222, 15⟩ [(.loc 5 "sizes" ⟨222, 16, 222, 21⟩)] ⟨222, 12, 222, 22⟩) (.loc 3 "wide" ⟨222, 25, 222, 29⟩) ⟨222, 12, 222, 29⟩) (.int 1 ⟨222, 32, 222, 33⟩) ⟨222, 12, 222, 33⟩) ⟨222, 4, 222, 33⟩,
  .assign 10 "level" ⟨223, 4, 223, 9⟩ (.int 1 ⟨223, 12, 223, 13⟩) ⟨223, 4, 223, 13⟩,
  .assign 11 "whole" ⟨224, 4, 224, 9⟩ (.call (.fn 3) "_law_walk" ⟨224, 12, 224, 21⟩ [(.loc 0 "script" ⟨224, 22, 224, 28⟩), (.loc 9 "count" ⟨224, 30, 224, 35⟩)] ⟨224, 12, 224, 36⟩) ⟨224, 4, 224, 36⟩,
  .assign 12 "line" ⟨225, 4, 225, 8⟩ (.loc 11 "whole" ⟨225, 11, 225, 16⟩) ⟨225, 4, 225, 16⟩,
  .assign 13 "under" ⟨226, 4, 226, 9⟩ (.list [] ⟨226, 12, 226, 14⟩) ⟨226, 4, 226, 14⟩,
  .ite (.cmp .eq (.loc 1 "mode" ⟨227, 7, 227, 11⟩) (.int 2 ⟨227, 15, 227, 16⟩) ⟨227, 7, 227, 16⟩) [.assign 10 "level" ⟨228, 8, 228, 13⟩ (.int 2 ⟨228, 16, 228, 17⟩) ⟨228, 8, 228, 17⟩,
     .assign 11 "whole" ⟨229, 8, 229, 13⟩ (.call (.fn 3) "_law_walk" ⟨229, 16, 229, 25⟩ [(.loc 0 "script" ⟨229, 26, 229, 32⟩), (.bin .add (.bin .mul (.int 2 ⟨229, 34, 229, 35⟩) (.loc 9 "count" ⟨229, 38, 229, 43⟩) ⟨229, 34, 229, 43⟩) (.int 1 ⟨229, 46, 229, 47⟩) ⟨229, 34, 229, 47⟩)] ⟨229, 16, 229, 48⟩) ⟨229, 8, 229, 48⟩,
     .assign 12 "line" ⟨230, 8, 230, 12⟩ (.comp (.idx (.loc 1 "whole" ⟨230, 16, 230, 21⟩) (.loc 0 "n" ⟨230, 22, 230, 23⟩) ⟨230, 16, 230, 24⟩) [11] "n" ⟨230, 29, 230, 30⟩ (.call .range "range" ⟨230, 34, 230, 39⟩ [(.int 1 ⟨230, 40, 230, 41⟩), (.bin .add (.bin .mul (.int 2 ⟨230, 43, 230, 44⟩) (.loc 9 "count" ⟨230, 47, 230, 52⟩) ⟨230, 43, 230, 52⟩) (.int 1 ⟨230, 55, 230, 56⟩) ⟨230, 43, 230, 56⟩), (.int 2 ⟨230, 58, 230, 59⟩)] ⟨230, 34, 230, 60⟩) ⟨.function, [(".0", .local), ("n", .local), ("whole", .free)], false, false, []⟩ ⟨230, 15, 230, 61⟩) ⟨230, 8, 230, 61⟩,
     .assign 13 "under" ⟨231, 8, 231, 13⟩ (.comp (.call (.fn 4) "_law_node" ⟨231, 17, 231, 26⟩ [(.list [(.idx (.loc 1 "whole" ⟨231, 28, 231, 33⟩) (.loc 0 "n" ⟨231, 34, 231, 35⟩) ⟨231, 28, 231, 36⟩)] ⟨231, 27, 231, 37⟩), (.list [] ⟨231, 39, 231, 41⟩)] ⟨231, 17, 231, 42⟩) [11] "n" ⟨231, 47, 231, 48⟩ (.call .range "range" ⟨231, 52, 231, 57⟩ [(.int 0 ⟨231, 58, 231, 59⟩), (.bin .add (.bin .mul (.int 2 ⟨231, 61, 231, 62⟩) (.loc 9 "count" ⟨231, 65, 231, 70⟩) ⟨231, 61, 231, 70⟩) (.int 1 ⟨231, 73, 231, 74⟩) ⟨231, 61, 231, 74⟩), (.int 2 ⟨231, 76, 231, 77⟩)] ⟨231, 52, 231, 78⟩) ⟨.function, [(".0", .local), ("n", .local), ("_law_node", .globalImplicit), ("whole", .free)], false, false, []⟩ ⟨231, 16, 231, 79⟩) ⟨231, 8, 231, 79⟩] [] ⟨227, 4, 231, 79⟩,
  .freeze 6,
  .assign 14 "rows" ⟨232, 4, 232, 8⟩ (.call (.fn 5) "_law_rows" ⟨232, 11, 232, 20⟩ [(.loc 12 "line" ⟨232, 21, 232, 25⟩), (.loc 13 "under" ⟨232, 27, 232, 32⟩), (.loc 6 "seps" ⟨232, 34, 232, 38⟩)] ⟨232, 11, 232, 39⟩) ⟨232, 4, 232, 39⟩,
  .assign 15 "held" ⟨233, 4, 233, 8⟩ (.comp (.idx (.loc 0 "p" ⟨233, 12, 233, 13⟩) (.int 0 ⟨233, 14, 233, 15⟩) ⟨233, 12, 233, 16⟩) [] "p" ⟨233, 21, 233, 22⟩ (.idx (.idx (.loc 14 "rows" ⟨233, 26, 233, 30⟩) (.loc 4 "i" ⟨233, 31, 233, 32⟩) ⟨233, 26, 233, 33⟩) (.int 0 ⟨233, 34, 233, 35⟩) ⟨233, 26, 233, 36⟩) ⟨.function, [(".0", .local), ("p", .local)], false, false, []⟩ ⟨233, 11, 233, 37⟩) ⟨233, 4, 233, 37⟩,
  .assign 16 "kids" ⟨234, 4, 234, 8⟩ (.comp (.call (.fn 4) "_law_node" ⟨234, 12, 234, 21⟩ [(.idx (.loc 0 "row" ⟨234, 22, 234, 25⟩) (.int 0 ⟨234, 26, 234, 27⟩) ⟨234, 22, 234, 28⟩), (.call .list "list" ⟨234, 30, 234, 34⟩ [(.idx (.loc 0 "row" ⟨234, 35, 234, 38⟩) (.int 1 ⟨234, 39, 234, 40⟩) ⟨234, 35, 234, 41⟩)] ⟨234, 30, 234, 42⟩)] ⟨234, 12, 234, 43⟩) [] "row" ⟨234, 48, 234, 51⟩ (.loc 14 "rows" ⟨234, 55, 234, 59⟩) ⟨.function, [(".0", .local), ("row", .local), ("_law_node", .globalImplicit), ("list", .globalImplicit)], false, false, []⟩ ⟨234, 11, 234, 60⟩) ⟨234, 4, 234, 60⟩,
  .assign 17 "parent" ⟨235, 4, 235, 10⟩ (.call (.fn 4) "_law_node" ⟨235, 13, 235, 22⟩ [(.comp (.idx (.loc 1 "line" ⟨235, 24, 235, 28⟩) (.loc 0 "p" ⟨235, 29, 235, 30⟩) ⟨235, 24, 235, 31⟩) [12] "p" ⟨235, 36, 235, 37⟩ (.loc 6 "seps" ⟨235, 41, 235, 45⟩) ⟨.function, [(".0", .local), ("p", .local), ("line", .free)], false, false, []⟩ ⟨235, 23, 235, 46⟩), (.call .list "list" ⟨235, 48, 235, 52⟩ [(.loc 16 "kids" ⟨235, 53, 235, 57⟩)] ⟨235, 48, 235, 58⟩)] ⟨235, 13, 235, 59⟩) ⟨235, 4, 235, 59⟩,
  .assign 18 "m" ⟨236, 4, 236, 5⟩ (.call (.cls 1) "Canopy" ⟨236, 8, 236, 14⟩ [(.loc 2 "t" ⟨236, 15, 236, 16⟩)] ⟨236, 8, 236, 17⟩) ⟨236, 4, 236, 17⟩,
  .ite (.or [(.cmp .ne (.meth (.loc 18 "m" ⟨237, 7, 237, 8⟩) 6 "pairs_below" ⟨237, 7, 237, 20⟩ [(.loc 17 "parent" ⟨237, 21, 237, 27⟩)] ⟨237, 7, 237, 28⟩) (.loc 11 "whole" ⟨237, 32, 237, 37⟩) ⟨237, 7, 237, 37⟩), (.cmp .ne (.meth (.loc 18 "m" ⟨237, 41, 237, 42⟩) 8 "leaf_level" ⟨237, 41, 237, 53⟩ [(.loc 17 "parent" ⟨237, 54, 237, 60⟩)] ⟨237, 41, 237, 61⟩) (.loc 10 "level" ⟨237, 65, 237, 70⟩) ⟨237, 41, 237, 70⟩)] ⟨237, 7, 237, 70⟩) [.ret (.bool false ⟨238, 15, 238, 20⟩) ⟨238, 8, 238, 20⟩] [] ⟨237, 4, 238, 20⟩,
  .unpack [(19, "place", ⟨239, 4, 239, 9⟩), (20, "cuts", ⟨239, 11, 239, 15⟩)] 0 ⟨239, 4, 239, 15⟩ (.call (.fn 6) "_law_due" ⟨239, 18, 239, 26⟩ [(.loc 2 "t" ⟨239, 27, 239, 28⟩), (.loc 6 "seps" ⟨239, 30, 239, 34⟩), (.loc 5 "sizes" ⟨239, 36, 239, 41⟩), (.loc 4 "i" ⟨239, 43, 239, 44⟩)] ⟨239, 18, 239, 45⟩) ⟨239, 4, 239, 45⟩,
  .assign 21 "stay" ⟨240, 4, 240, 8⟩ (.loc 16 "kids" ⟨240, 11, 240, 15⟩) ⟨240, 4, 240, 15⟩,
  .ite (.cmp .lt (.call .len "len" ⟨241, 7, 241, 10⟩ [(.loc 20 "cuts" ⟨241, 11, 241, 15⟩)] ⟨241, 7, 241, 16⟩) (.call .len "len" ⟨241, 19, 241, 22⟩ [(.loc 6 "seps" ⟨241, 23, 241, 27⟩)] ⟨241, 19, 241, 28⟩) ⟨241, 7, 241, 28⟩) [.assign 21 "stay" ⟨242, 8, 242, 12⟩ (.bin .add (.slice (.loc 16 "kids" ⟨242, 15, 242, 19⟩) Option.none (some (.bin .add (.loc 19 "place" ⟨242, 21, 242, 26⟩) (.int 1 ⟨242, 29, 242, 30⟩) ⟨242, 21, 242, 30⟩)) ⟨242, 20, 242, 30⟩ ⟨242, 15, 242, 31⟩) (.slice (.loc 16 "kids" ⟨242, 34, 242, 38⟩) (some (.bin .add (.loc 19 "place" ⟨242, 39, 242, 44⟩) (.int 2 ⟨242, 47, 242, 48⟩) ⟨242, 39, 242, 48⟩)) Option.none ⟨242, 39, 242, 49⟩ ⟨242, 34, 242, 50⟩) ⟨242, 15, 242, 50⟩) ⟨242, 8, 242, 50⟩] [] ⟨241, 4, 242, 50⟩,
  .assign 22 "got" ⟨243, 4, 243, 7⟩ (.meth (.loc 18 "m" ⟨243, 10, 243, 11⟩) 5 "fill_child" ⟨243, 10, 243, 22⟩ [(.loc 17 "parent" ⟨243, 23, 243, 29⟩), (.loc 4 "i" ⟨243, 31, 243, 32⟩)] ⟨243, 10, 243, 33⟩) ⟨243, 4, 243, 33⟩,
  .ite (.cmp .ne (.loc 22 "got" ⟨244, 7, 244, 10⟩) (.loc 19 "place" ⟨244, 14, 244, 19⟩) ⟨244, 7, 244, 19⟩) [.ret (.bool false ⟨245, 15, 245, 20⟩) ⟨245, 8, 245, 20⟩] [] ⟨244, 4, 245, 20⟩,
  .ite (.cmp .ne (.attr (.loc 17 "parent" ⟨246, 7, 246, 13⟩) 0 "key_row" ⟨246, 7, 246, 21⟩) (.comp (.idx (.idx (.loc 1 "line" ⟨246, 26, 246, 30⟩) (.loc 0 "p" ⟨246, 31, 246, 32⟩) ⟨246, 26, 246, 33⟩) (.int 0 ⟨246, 34, 246, 35⟩) ⟨246, 26, 246, 36⟩) [12] "p" ⟨246, 41, 246, 42⟩ (.loc 20 "cuts" ⟨246, 46, 246, 50⟩) ⟨.function, [(".0", .local), ("p", .local), ("line", .free)], false, false, []⟩ ⟨246, 25, 246, 51⟩) ⟨246, 7, 246, 51⟩) [.ret (.bool false ⟨247, 15, 247, 20⟩) ⟨247, 8, 247, 20⟩] [] ⟨246, 4, 247, 20⟩,
  .ite (.cmp .ne (.attr (.loc 17 "parent" ⟨248, 7, 248, 13⟩) 1 "value_row" ⟨248, 7, 248, 23⟩) (.comp (.idx (.idx (.loc 1 "line" ⟨248, 28, 248, 32⟩) (.loc 0 "p" ⟨248, 33, 248, 34⟩) ⟨248, 28, 248, 35⟩) (.int 1 ⟨248, 36, 248, 37⟩) ⟨248, 28, 248, 38⟩) [12] "p" ⟨248, 43, 248, 44⟩ (.loc 20 "cuts" ⟨248, 48, 248, 52⟩) ⟨.function, [(".0", .local), ("p", .local), ("line", .free)], false, false, []⟩ ⟨248, 27, 248, 53⟩) ⟨248, 7, 248, 53⟩) [.ret (.bool false ⟨249, 15, 249, 20⟩) ⟨249, 8, 249, 20⟩] [] ⟨248, 4, 249, 20⟩,
  .assign 23 "due" ⟨250, 4, 250, 7⟩ (.call (.fn 5) "_law_rows" ⟨250, 10, 250, 19⟩ [(.loc 12 "line" ⟨250, 20, 250, 24⟩), (.loc 13 "under" ⟨250, 26, 250, 31⟩), (.loc 20 "cuts" ⟨250, 33, 250, 37⟩)] ⟨250, 10, 250, 38⟩) ⟨250, 4, 250, 38⟩,
  .ite (.cmp .ne (.call .len "len" ⟨251, 7, 251, 10⟩ [(.attr (.loc 17 "parent" ⟨251, 11, 251, 17⟩) 2 "children" ⟨251, 11, 251, 26⟩)] ⟨251, 7, 251, 27⟩) (.call .len "len" ⟨251, 31, 251, 34⟩ [(.loc 23 "due" ⟨251, 35, 251, 38⟩)] ⟨251, 31, 251, 39⟩) ⟨251, 7, 251, 39⟩) [.ret (.bool false ⟨252, 15, 252, 20⟩) ⟨252, 8, 252, 20⟩] [] ⟨251, 4, 252, 20⟩,
  .for 8 "j" ⟨253, 8, 253, 9⟩ (.call .range "range" ⟨253, 13, 253, 18⟩ [(.call .len "len" ⟨253, 19, 253, 22⟩ [(.loc 23 "due" ⟨253, 23, 253, 26⟩)] ⟨253, 19, 253, 27⟩)] ⟨253, 13, 253, 28⟩) [.ite (.not (.e (.call (.fn 7) "_law_same" ⟨254, 15, 254, 24⟩ [(.idx (.attr (.loc 17 "parent" ⟨254, 25, 254, 31⟩) 2 "children" ⟨254, 25, 254, 40⟩) (.loc 8 "j" ⟨254, 41, 254, 42⟩) ⟨254, 25, 254, 43⟩), (.idx (.loc 21 "stay" ⟨254, 45, 254, 49⟩) (.loc 8 "j" ⟨254, 50, 254, 51⟩) ⟨254, 45, 254, 52⟩), (.idx (.loc 23 "due" ⟨254, 54, 254, 57⟩) (.loc 8 "j" ⟨254, 58, 254, 59⟩) ⟨254, 54, 254, 60⟩)] ⟨254, 15, 254, 61⟩)) ⟨254, 11, 254, 61⟩) [.ret (.bool false ⟨255, 19, 255, 24⟩) ⟨255, 12, 255, 24⟩] [] ⟨254, 8, 255, 24⟩] ⟨253, 4, 255, 24⟩,
  .assign 24 "there" ⟨256, 4, 256, 9⟩ (.attr (.idx (.attr (.loc 17 "parent" ⟨256, 12, 256, 18⟩) 2 "children" ⟨256, 12, 256, 27⟩) (.loc 19 "place" ⟨256, 28, 256, 33⟩) ⟨256, 12, 256, 34⟩) 0 "key_row" ⟨256, 12, 256, 42⟩) ⟨256, 4, 256, 42⟩,
  .ite (.cmp .lt (.call .len "len" ⟨257, 7, 257, 10⟩ [(.loc 24 "there" ⟨257, 11, 257, 16⟩)] ⟨257, 7, 257, 17⟩) (.loc 2 "t" ⟨257, 20, 257, 21⟩) ⟨257, 7, 257, 21⟩) [.ret (.bool false ⟨258, 15, 258, 20⟩) ⟨258, 8, 258, 20⟩] [] ⟨257, 4, 258, 20⟩,
  .for 25 "key" ⟨259, 8, 259, 11⟩ (.loc 15 "held" ⟨259, 15, 259, 19⟩) [.ite (.cmp .notin (.loc 25 "key" ⟨260, 11, 260, 14⟩) (.loc 24 "there" ⟨260, 22, 260, 27⟩) ⟨260, 11, 260, 27⟩) [.ret (.bool false ⟨261, 19, 261, 24⟩) ⟨261, 12, 261, 24⟩] [] ⟨260, 8, 261, 24⟩] ⟨259, 4, 261, 24⟩,
  .ite (.or [(.cmp .ne (.meth (.loc 18 "m" ⟨262, 7, 262, 8⟩) 6 "pairs_below" ⟨262, 7, 262, 20⟩ [(.loc 17 "parent" ⟨262, 21, 262, 27⟩)] ⟨262, 7, 262, 28⟩) (.loc 11 "whole" ⟨262, 32, 262, 37⟩) ⟨262, 7, 262, 37⟩), (.cmp .ne (.meth (.loc 18 "m" ⟨262, 41, 262, 42⟩) 8 "leaf_level" ⟨262, 41, 262, 53⟩ [(.loc 17 "parent" ⟨262, 54, 262, 60⟩)] ⟨262, 41, 262, 61⟩) (.loc 10 "level" ⟨262, 65, 262, 70⟩) ⟨262, 41, 262, 70⟩)] ⟨262, 7, 262, 70⟩) [.ret (.bool false ⟨263, 15, 263, 20⟩) ⟨263, 8, 263, 20⟩] [] ⟨262, 4, 263, 20⟩,
  .assign 26 "thin" ⟨264, 4, 264, 8⟩ (.slice (.loc 12 "line" ⟨264, 11, 264, 15⟩) Option.none (some (.bin .sub (.loc 2 "t" ⟨264, 17, 264, 18⟩) (.int 1 ⟨264, 21, 264, 22⟩) ⟨264, 17, 264, 22⟩)) ⟨264, 16, 264, 22⟩ ⟨264, 11, 264, 23⟩) ⟨264, 4, 264, 23⟩,
  .assign 27 "alone" ⟨265, 4, 265, 9⟩ (.call (.fn 4) "_law_node" ⟨265, 12, 265, 21⟩ [(.list [] ⟨265, 22, 265, 24⟩), (.list [(.call (.fn 4) "_law_node" ⟨265, 27, 265, 36⟩ [(.loc 26 "thin" ⟨265, 37, 265, 41⟩), (.list [] ⟨265, 43, 265, 45⟩)] ⟨265, 27, 265, 46⟩)] ⟨265, 26, 265, 47⟩)] ⟨265, 12, 265, 48⟩) ⟨265, 4, 265, 48⟩,
  .ite (.or [(.cmp .ne (.meth (.loc 18 "m" ⟨266, 7, 266, 8⟩) 5 "fill_child" ⟨266, 7, 266, 19⟩ [(.loc 27 "alone" ⟨266, 20, 266, 25⟩), (.int 0 ⟨266, 27, 266, 28⟩)] ⟨266, 7, 266, 29⟩) (.int 0 ⟨266, 33, 266, 34⟩) ⟨266, 7, 266, 34⟩), (.cmp .ne (.meth (.loc 18 "m" ⟨266, 38, 266, 39⟩) 6 "pairs_below" ⟨266, 38, 266, 51⟩ [(.loc 27 "alone" ⟨266, 52, 266, 57⟩)] ⟨266, 38, 266, 58⟩) (.loc 26 "thin" ⟨266, 62, 266, 66⟩) ⟨266, 38, 266, 66⟩)] ⟨266, 7, 266, 66⟩) [.ret (.bool false ⟨267, 15, 267, 20⟩) ⟨267, 8, 267, 20⟩] [] ⟨266, 4, 267, 20⟩,
  .ite (.cmp .eq (.loc 10 "level" ⟨268, 7, 268, 12⟩) (.int 2 ⟨268, 16, 268, 17⟩) ⟨268, 7, 268, 17⟩) [.assign 28 "deep" ⟨269, 8, 269, 12⟩ (.call (.fn 4) "_law_node" ⟨269, 15, 269, 24⟩ [(.slice (.loc 11 "whole" ⟨269, 25, 269, 30⟩) (some (.int 3 ⟨269, 31, 269, 32⟩)) (some (.int 4 ⟨269, 33, 269, 34⟩)) ⟨269, 31, 269, 34⟩ ⟨269, 25, 269, 35⟩), (.list [(.call (.fn 4) "_law_node" ⟨269, 38, 269, 47⟩ [(.slice (.loc 11 "whole" ⟨269, 48, 269, 53⟩) (some (.int 2 ⟨269, 54, 269, 55⟩)) (some (.int 3 ⟨269, 56, 269, 57⟩)) ⟨269, 54, 269, 57⟩ ⟨269, 48, 269, 58⟩), (.list [] ⟨269, 60, 269, 62⟩)] ⟨269, 38, 269, 63⟩), (.call (.fn 4) "_law_node" ⟨269, 65, 269, 74⟩ [(.slice (.loc 11 "whole" ⟨269, 75, 269, 80⟩) (some (.int 4 ⟨269, 81, 269, 82⟩)) (some (.int 5 ⟨269, 83, 269, 84⟩)) ⟨269, 81, 269, 84⟩ ⟨269, 75, 269, 85⟩), (.list [] ⟨269, 87, 269, 89⟩)] ⟨269, 65, 269, 90⟩)] ⟨269, 37, 269, 91⟩)] ⟨269, 15, 269, 92⟩) ⟨269, 8, 269, 92⟩,
     .assign 29 "uneven" ⟨270, 8, 270, 14⟩ (.call (.fn 4) "_law_node" ⟨270, 17, 270, 26⟩ [(.slice (.loc 11 "whole" ⟨270, 27, 270, 32⟩) (some (.int 1 ⟨270, 33, 270, 34⟩)) (some (.int 2 ⟨270, 35, 270, 36⟩)) ⟨270, 33, 270, 36⟩ ⟨270, 27, 270, 37⟩), (.list [(.call (.fn 4) "_law_node" ⟨270, 40, 270, 49⟩ [(.slice (.loc 11 "whole" ⟨270, 50, 270, 55⟩) Option.none (some (.int 1 ⟨270, 57, 270, 58⟩)) ⟨270, 56, 270, 58⟩ ⟨270, 50, 270, 59⟩), (.list [] ⟨270, 61, 270, 63⟩)] ⟨270, 40, 270, 64⟩), (.loc 28 "deep" ⟨270, 66, 270, 70⟩)] ⟨270, 39, 270, 71⟩)] ⟨270, 17, 270, 72⟩) ⟨270, 8, 270, 72⟩,
     .ite (.cmp .ne (.meth (.loc 18 "m" ⟨271, 11, 271, 12⟩) 8 "leaf_level" ⟨271, 11, 271, 23⟩ [(.loc 29 "uneven" ⟨271, 24, 271, 30⟩)] ⟨271, 11, 271, 31⟩) (.neg 1 ⟨271, 36, 271, 37⟩ ⟨271, 35, 271, 37⟩) ⟨271, 11, 271, 37⟩) [.ret (.bool false ⟨272, 19, 272, 24⟩) ⟨272, 12, 272, 24⟩] [] ⟨271, 8, 272, 24⟩] [] ⟨268, 4, 272, 24⟩,
  .ite (.or [(.cmp .ne (.attr (.loc 18 "m" ⟨273, 7, 273, 8⟩) 3 "t" ⟨273, 7, 273, 10⟩) (.loc 2 "t" ⟨273, 14, 273, 15⟩) ⟨273, 7, 273, 15⟩), (.cmp .ne (.attr (.loc 18 "m" ⟨273, 19, 273, 20⟩) 5 "size" ⟨273, 19, 273, 25⟩) (.int 0 ⟨273, 29, 273, 30⟩) ⟨273, 19, 273, 30⟩), (.cmp .ne (.meth (.loc 18 "m" ⟨273, 34, 273, 35⟩) 7 "pairs" ⟨273, 34, 273, 41⟩ [] ⟨273, 34, 273, 43⟩) (.list [] ⟨273, 47, 273, 49⟩) ⟨273, 34, 273, 49⟩)] ⟨273, 7, 273, 49⟩) [.ret (.bool false ⟨274, 15, 274, 20⟩) ⟨274, 8, 274, 20⟩] [] ⟨273, 4, 274, 20⟩,
  .ret (.bool true ⟨275, 11, 275, 15⟩) ⟨275, 4, 275, 15⟩]
noncomputable def b8 : List S := b8a ++ b8b
noncomputable def nm8 : Nm := ⟨["script", "mode", "t", "wide", "i", "sizes", "seps", "at", "j", "count", "level", "whole", "line", "under", "rows", "held", "kids", "parent", "m", "place", "cuts", "stay", "got", "due", "there", "key", "thin", "alone", "deep", "uneven"], ["_law_cell", "range", "sum", "_law_walk", "_law_rows", "_law_node", "list", "Canopy", "_law_due", "len", "_law_same"], ["script", "t", "whole", "line"], ["mode", "wide", "i", "sizes", "seps", "at", "j", "count", "level", "under", "rows", "held", "kids", "parent", "m", "place", "cuts", "stay", "got", "due", "there", "key", "thin", "alone", "deep", "uneven"]⟩
noncomputable def f8 : Fn := .ast 1 [.unset, .unset, .unset, .unset, .unset, .unset, .unset, .unset, .unset, .unset, .unset, .unset, .unset, .unset, .unset, .unset, .unset, .unset, .unset, .unset, .unset, .unset, .unset, .unset, .unset, .unset, .unset, .unset, .unset] nm8 b8

/-- Node.__init__ -/
noncomputable def b9 : List S :=
 [.setattr (.loc 0 "self" ⟨12, 8, 12, 12⟩) 0 "key_row" ⟨12, 8, 12, 20⟩ (.loc 1 "keys" ⟨12, 23, 12, 27⟩) ⟨12, 8, 12, 27⟩,
   .setattr (.loc 0 "self" ⟨13, 8, 13, 12⟩) 1 "value_row" ⟨13, 8, 13, 22⟩ (.loc 2 "values" ⟨13, 25, 13, 31⟩) ⟨13, 8, 13, 31⟩,
   .setattr (.loc 0 "self" ⟨14, 8, 14, 12⟩) 2 "children" ⟨14, 8, 14, 21⟩ (.loc 3 "children" ⟨14, 24, 14, 32⟩) ⟨14, 8, 14, 32⟩]
noncomputable def nm9 : Nm := ⟨["self", "keys", "values", "children"], [], [], ["self", "keys", "values", "children"]⟩
noncomputable def f9 : Fn := .ast 4 [] nm9 b9

/-- Node.is_leaf -/
noncomputable def b10 : List S :=
 [.ret (.cmp .eq (.call .len "len" ⟨17, 15, 17, 18⟩ [(.attr (.loc 0 "self" ⟨17, 19, 17, 23⟩) 2 "children" ⟨17, 19, 17, 32⟩)] ⟨17, 15, 17, 33⟩) (.int 0 ⟨17, 37, 17, 38⟩) ⟨17, 15, 17, 38⟩) ⟨17, 8, 17, 38⟩]
noncomputable def nm10 : Nm := ⟨["self"], ["len"], [], ["self"]⟩
noncomputable def f10 : Fn := .ast 1 [] nm10 b10

/-- Node.lay -/
noncomputable def b11 : List S :=
 [.setattr (.loc 0 "self" ⟨23, 8, 23, 12⟩) 0 "key_row" ⟨23, 8, 23, 20⟩ (.loc 1 "keys" ⟨23, 23, 23, 27⟩) ⟨23, 8, 23, 27⟩,
   .setattr (.loc 0 "self" ⟨24, 8, 24, 12⟩) 1 "value_row" ⟨24, 8, 24, 22⟩ (.loc 2 "values" ⟨24, 25, 24, 31⟩) ⟨24, 8, 24, 31⟩,
   .setattr (.loc 0 "self" ⟨25, 8, 25, 12⟩) 2 "children" ⟨25, 8, 25, 21⟩ (.loc 3 "children" ⟨25, 24, 25, 32⟩) ⟨25, 8, 25, 32⟩]
noncomputable def nm11 : Nm := ⟨["self", "keys", "values", "children"], [], [], ["self", "keys", "values", "children"]⟩
noncomputable def f11 : Fn := .ast 4 [] nm11 b11

/-- Canopy.__init__ -/
noncomputable def b12 : List S :=
 [.setattr (.loc 0 "self" ⟨29, 8, 29, 12⟩) 3 "t" ⟨29, 8, 29, 14⟩ (.loc 1 "t" ⟨29, 17, 29, 18⟩) ⟨29, 8, 29, 18⟩,
   .setattr (.loc 0 "self" ⟨30, 8, 30, 12⟩) 4 "root" ⟨30, 8, 30, 17⟩ (.call (.cls 0) "Node" ⟨30, 20, 30, 24⟩ [(.list [] ⟨30, 25, 30, 27⟩), (.list [] ⟨30, 29, 30, 31⟩), (.list [] ⟨30, 33, 30, 35⟩)] ⟨30, 20, 30, 36⟩) ⟨30, 8, 30, 36⟩,
   .setattr (.loc 0 "self" ⟨31, 8, 31, 12⟩) 5 "size" ⟨31, 8, 31, 17⟩ (.int 0 ⟨31, 20, 31, 21⟩) ⟨31, 8, 31, 21⟩]
noncomputable def nm12 : Nm := ⟨["self", "t"], ["Node"], [], ["self", "t"]⟩
noncomputable def f12 : Fn := .ast 2 [] nm12 b12

/-- Canopy.merge_children -/
noncomputable def b13 : List S :=
 [.assign 3 "left" ⟨49, 8, 49, 12⟩ (.idx (.attr (.loc 1 "parent" ⟨49, 15, 49, 21⟩) 2 "children" ⟨49, 15, 49, 30⟩) (.loc 2 "i" ⟨49, 31, 49, 32⟩) ⟨49, 15, 49, 33⟩) ⟨49, 8, 49, 33⟩,
   .assign 4 "right" ⟨50, 8, 50, 13⟩ (.idx (.attr (.loc 1 "parent" ⟨50, 16, 50, 22⟩) 2 "children" ⟨50, 16, 50, 31⟩) (.bin .add (.loc 2 "i" ⟨50, 32, 50, 33⟩) (.int 1 ⟨50, 36, 50, 37⟩) ⟨50, 32, 50, 37⟩) ⟨50, 16, 50, 38⟩) ⟨50, 8, 50, 38⟩,
   .expr (.meth (.loc 3 "left" ⟨51, 8, 51, 12⟩) 1 "lay" ⟨51, 8, 51, 16⟩ [(.bin .add (.bin .add (.attr (.loc 3 "left" ⟨51, 17, 51, 21⟩) 0 "key_row" ⟨51, 17, 51, 29⟩) (.list [(.idx (.attr (.loc 1 "parent" ⟨51, 33, 51, 39⟩) 0 "key_row" ⟨51, 33, 51, 47⟩) (.loc 2 "i" ⟨51, 48, 51, 49⟩) ⟨51, 33, 51, 50⟩)] ⟨51, 32, 51, 51⟩) ⟨51, 17, 51, 51⟩) (.attr (.loc 4 "right" ⟨51, 54, 51, 59⟩) 0 "key_row" ⟨51, 54, 51, 67⟩) ⟨51, 17, 51, 67⟩), (.bin .add (.bin .add (.attr (.loc 3 "left" ⟨51, 69, 51, 73⟩) 1 "value_row" ⟨51, 69, 51, 83⟩) (.list [(.idx (.attr (.loc 1 "parent" ⟨51, 87, 51, 93⟩) 1 "value_row" ⟨51, 87, 51, 103⟩) (.loc 2 "i" ⟨51, 104, 51, 105⟩) ⟨51, 87, 51, 106⟩)] ⟨51, 86, 51, 107⟩) ⟨51, 69, 51, 107⟩) (.attr (.loc 4 "right" ⟨51, 110, 51, 115⟩) 1 "value_row" ⟨51, 110, 51, 125⟩) ⟨51, 69, 51, 125⟩), (.bin .add (.attr (.loc 3 "left" ⟨51, 127, 51, 131⟩) 2 "children" ⟨51, 127, 51, 140⟩) (.attr (.loc 4 "right" ⟨51, 143, 51, 148⟩) 2 "children" ⟨51, 143, 51, 157⟩) ⟨51, 127, 51, 157⟩)] ⟨51, 8, 51, 158⟩) ⟨51, 8, 51, 158⟩,
   .expr (.meth (.loc 1 "parent" ⟨52, 8, 52, 14⟩) 1 "lay" ⟨52, 8, 52, 18⟩ [(.call (.fn 1) "row_without" ⟨52, 19, 52, 30⟩ [(.attr (.loc 1 "parent" ⟨52, 31, 52, 37⟩) 0 "key_row" ⟨52, 31, 52, 45⟩), (.loc 2 "i" ⟨52, 47, 52, 48⟩)] ⟨52, 19, 52, 49⟩), (.call (.fn 1) "row_without" ⟨52, 51, 52, 62⟩ [(.attr (.loc 1 "parent" ⟨52, 63, 52, 69⟩) 1 "value_row" ⟨52, 63, 52, 79⟩), (.loc 2 "i" ⟨52, 81, 52, 82⟩)] ⟨52, 51, 52, 83⟩), (.call (.fn 1) "row_without" ⟨52, 85, 52, 96⟩ [(.attr (.loc 1 "parent" ⟨52, 97, 52, 103⟩) 2 "children" ⟨52, 97, 52, 112⟩), (.bin .add (.loc 2 "i" ⟨52, 114, 52, 115⟩) (.int 1 ⟨52, 118, 52, 119⟩) ⟨52, 114, 52, 119⟩)] ⟨52, 85, 52, 120⟩)] ⟨52, 8, 52, 121⟩) ⟨52, 8, 52, 121⟩]
noncomputable def nm13 : Nm := ⟨["self", "parent", "i", "left", "right"], ["row_without"], [], ["self", "parent", "i", "left", "right"]⟩
noncomputable def f13 : Fn := .ast 3 [.unset, .unset] nm13 b13

/-- Canopy.borrow_from_left -/
noncomputable def b14 : List S :=
 [.assign 3 "left" ⟨55, 8, 55, 12⟩ (.idx (.attr (.loc 1 "parent" ⟨55, 15, 55, 21⟩) 2 "children" ⟨55, 15, 55, 30⟩) (.bin .sub (.loc 2 "i" ⟨55, 31, 55, 32⟩) (.int 1 ⟨55, 35, 55, 36⟩) ⟨55, 31, 55, 36⟩) ⟨55, 15, 55, 37⟩) ⟨55, 8, 55, 37⟩,
   .assign 4 "child" ⟨56, 8, 56, 13⟩ (.idx (.attr (.loc 1 "parent" ⟨56, 16, 56, 22⟩) 2 "children" ⟨56, 16, 56, 31⟩) (.loc 2 "i" ⟨56, 32, 56, 33⟩) ⟨56, 16, 56, 34⟩) ⟨56, 8, 56, 34⟩,
   .assign 5 "last" ⟨57, 8, 57, 12⟩ (.bin .sub (.call .len "len" ⟨57, 15, 57, 18⟩ [(.attr (.loc 3 "left" ⟨57, 19, 57, 23⟩) 0 "key_row" ⟨57, 19, 57, 31⟩)] ⟨57, 15, 57, 32⟩) (.int 1 ⟨57, 35, 57, 36⟩) ⟨57, 15, 57, 36⟩) ⟨57, 8, 57, 36⟩,
   .assign 6 "moved" ⟨58, 8, 58, 13⟩ (.slice (.attr (.loc 3 "left" ⟨58, 16, 58, 20⟩) 2 "children" ⟨58, 16, 58, 29⟩) (some (.bin .add (.loc 5 "last" ⟨58, 30, 58, 34⟩) (.int 1 ⟨58, 37, 58, 38⟩) ⟨58, 30, 58, 38⟩)) Option.none ⟨58, 30, 58, 39⟩ ⟨58, 16, 58, 40⟩) ⟨58, 8, 58, 40⟩,
   .expr (.meth (.loc 4 "child" ⟨59, 8, 59, 13⟩) 1 "lay" ⟨59, 8, 59, 17⟩ [(.bin .add (.list [(.idx (.attr (.loc 1 "parent" ⟨59, 19, 59, 25⟩) 0 "key_row" ⟨59, 19, 59, 33⟩) (.bin .sub (.loc 2 "i" ⟨59, 34, 59, 35⟩) (.int 1 ⟨59, 38, 59, 39⟩) ⟨59, 34, 59, 39⟩) ⟨59, 19, 59, 40⟩)] ⟨59, 18, 59, 41⟩) (.attr (.loc 4 "child" ⟨59, 44, 59, 49⟩) 0 "key_row" ⟨59, 44, 59, 57⟩) ⟨59, 18, 59, 57⟩), (.bin .add (.list [(.idx (.attr (.loc 1 "parent" ⟨59, 60, 59, 66⟩) 1 "value_row" ⟨59, 60, 59, 76⟩) (.bin .sub (.loc 2 "i" ⟨59, 77, 59, 78⟩) (.int 1 ⟨59, 81, 59, 82⟩) ⟨59, 77, 59, 82⟩) ⟨59, 60, 59, 83⟩)] ⟨59, 59, 59, 84⟩) (.attr (.loc 4 "child" ⟨59, 87, 59, 92⟩) 1 "value_row" ⟨59, 87, 59, 102⟩) ⟨59, 59, 59, 102⟩), (.bin .add (.loc 6 "moved" ⟨59, 104, 59, 109⟩) (.attr (.loc 4 "child" ⟨59, 112, 59, 117⟩) 2 "children" ⟨59, 112, 59, 126⟩) ⟨59, 104, 59, 126⟩)] ⟨59, 8, 59, 127⟩) ⟨59, 8, 59, 127⟩,
   .expr (.meth (.loc 1 "parent" ⟨60, 8, 60, 14⟩) 1 "lay" ⟨60, 8, 60, 18⟩ [(.call (.fn 0) "row_with" ⟨60, 19, 60, 27⟩ [(.attr (.loc 1 "parent" ⟨60, 28, 60, 34⟩) 0 "key_row" ⟨60, 28, 60, 42⟩), (.bin .sub (.loc 2 "i" ⟨60, 44, 60, 45⟩) (.int 1 ⟨60, 48, 60, 49⟩) ⟨60, 44, 60, 49⟩), (.idx (.attr (.loc 3 "left" ⟨60, 51, 60, 55⟩) 0 "key_row" ⟨60, 51, 60, 63⟩) (.loc 5 "last" ⟨60, 64, 60, 68⟩) ⟨60, 51, 60, 69⟩)] ⟨60, 19, 60, 70⟩), (.call (.fn 0) "row_with" ⟨60, 72, 60, 80⟩ [(.attr (.loc 1 "parent" ⟨60, 81, 60, 87⟩) 1 "value_row" ⟨60, 81, 60, 97⟩), (.bin .sub (.loc 2 "i" ⟨60, 99, 60, 100⟩) (.int 1 ⟨60, 103, 60, 104⟩) ⟨60, 99, 60, 104⟩), (.idx (.attr (.loc 3 "left" ⟨60, 106, 60, 110⟩) 1 "value_row" ⟨60, 106, 60, 120⟩) (.loc 5 "last" ⟨60, 121, 60, 125⟩) ⟨60, 106, 60, 126⟩)] ⟨60, 72, 60, 127⟩), (.slice (.attr (.loc 1 "parent" ⟨60, 129, 60, 135⟩) 2 "children" ⟨60, 129, 60, 144⟩) Option.none Option.none ⟨60, 145, 60, 146⟩ ⟨60, 129, 60, 147⟩)] ⟨60, 8, 60, 148⟩) ⟨60, 8, 60, 148⟩,
   .expr (.meth (.loc 3 "left" ⟨61, 8, 61, 12⟩) 1 "lay" ⟨61, 8, 61, 16⟩ [(.slice (.attr (.loc 3 "left" ⟨61, 17, 61, 21⟩) 0 "key_row" ⟨61, 17, 61, 29⟩) Option.none (some (.loc 5 "last" ⟨61, 31, 61, 35⟩)) ⟨61, 30, 61, 35⟩ ⟨61, 17, 61, 36⟩), (.slice (.attr (.loc 3 "left" ⟨61, 38, 61, 42⟩) 1 "value_row" ⟨61, 38, 61, 52⟩) Option.none (some (.loc 5 "last" ⟨61, 54, 61, 58⟩)) ⟨61, 53, 61, 58⟩ ⟨61, 38, 61, 59⟩), (.slice (.attr (.loc 3 "left" ⟨61, 61, 61, 65⟩) 2 "children" ⟨61, 61, 61, 74⟩) Option.none (some (.bin .add (.loc 5 "last" ⟨61, 76, 61, 80⟩) (.int 1 ⟨61, 83, 61, 84⟩) ⟨61, 76, 61, 84⟩)) ⟨61, 75, 61, 84⟩ ⟨61, 61, 61, 85⟩)] ⟨61, 8, 61, 86⟩) ⟨61, 8, 61, 86⟩]
noncomputable def nm14 : Nm := ⟨["self", "parent", "i", "left", "child", "last", "moved"], ["len", "row_with"], [], ["self", "parent", "i", "left", "child", "last", "moved"]⟩
noncomputable def f14 : Fn := .ast 3 [.unset, .unset, .unset, .unset] nm14 b14

/-- Canopy.borrow_from_right -/
noncomputable def b15 : List S :=
 [.assign 3 "child" ⟨64, 8, 64, 13⟩ (.idx (.attr (.loc 1 "parent" ⟨64, 16, 64, 22⟩) 2 "children" ⟨64, 16, 64, 31⟩) (.loc 2 "i" ⟨64, 32, 64, 33⟩) ⟨64, 16, 64, 34⟩) ⟨64, 8, 64, 34⟩,
   .assign 4 "right" ⟨65, 8, 65, 13⟩ (.idx (.attr (.loc 1 "parent" ⟨65, 16, 65, 22⟩) 2 "children" ⟨65, 16, 65, 31⟩) (.bin .add (.loc 2 "i" ⟨65, 32, 65, 33⟩) (.int 1 ⟨65, 36, 65, 37⟩) ⟨65, 32, 65, 37⟩) ⟨65, 16, 65, 38⟩) ⟨65, 8, 65, 38⟩,
   .assign 5 "moved" ⟨66, 8, 66, 13⟩ (.slice (.attr (.loc 4 "right" ⟨66, 16, 66, 21⟩) 2 "children" ⟨66, 16, 66, 30⟩) Option.none (some (.int 1 ⟨66, 32, 66, 33⟩)) ⟨66, 31, 66, 33⟩ ⟨66, 16, 66, 34⟩) ⟨66, 8, 66, 34⟩,
   .expr (.meth (.loc 3 "child" ⟨67, 8, 67, 13⟩) 1 "lay" ⟨67, 8, 67, 17⟩ [(.bin .add (.attr (.loc 3 "child" ⟨67, 18, 67, 23⟩) 0 "key_row" ⟨67, 18, 67, 31⟩) (.list [(.idx (.attr (.loc 1 "parent" ⟨67, 35, 67, 41⟩) 0 "key_row" ⟨67, 35, 67, 49⟩) (.loc 2 "i" ⟨67, 50, 67, 51⟩) ⟨67, 35, 67, 52⟩)] ⟨67, 34, 67, 53⟩) ⟨67, 18, 67, 53⟩), (.bin .add (.attr (.loc 3 "child" ⟨67, 55, 67, 60⟩) 1 "value_row" ⟨67, 55, 67, 70⟩) (.list [(.idx (.attr (.loc 1 "parent" ⟨67, 74, 67, 80⟩) 1 "value_row" ⟨67, 74, 67, 90⟩) (.loc 2 "i" ⟨67, 91, 67, 92⟩) ⟨67, 74, 67, 93⟩)] ⟨67, 73, 67, 94⟩) ⟨67, 55, 67, 94⟩), (.bin .add (.attr (.loc 3 "child" ⟨67, 96, 67, 101⟩) 2 "children" ⟨67, 96, 67, 110⟩) (.loc 5 "moved" ⟨67, 113, 67, 118⟩) ⟨67, 96, 67, 118⟩)] ⟨67, 8, 67, 119⟩) ⟨67, 8, 67, 119⟩,
   .expr (.meth (.loc 1 "parent" ⟨68, 8, 68, 14⟩) 1 "lay" ⟨68, 8, 68, 18⟩ [(.call (.fn 0) "row_with" ⟨68, 19, 68, 27⟩ [(.attr (.loc 1 "parent" ⟨68, 28, 68, 34⟩) 0 "key_row" ⟨68, 28, 68, 42⟩), (.loc 2 "i" ⟨68, 44, 68, 45⟩), (.idx (.attr (.loc 4 "right" ⟨68, 47, 68, 52⟩) 0 "key_row" ⟨68, 47, 68, 60⟩) (.int 0 ⟨68, 61, 68, 62⟩) ⟨68, 47, 68, 63⟩)] ⟨68, 19, 68, 64⟩), (.call (.fn 0) "row_with" ⟨68, 66, 68, 74⟩ [(.attr (.loc 1 "parent" ⟨68, 75, 68, 81⟩) 1 "value_row" ⟨68, 75, 68, 91⟩), (.loc 2 "i" ⟨68, 93, 68, 94⟩), (.idx (.attr (.loc 4 "right" ⟨68, 96, 68, 101⟩) 1 "value_row" ⟨68, 96, 68, 111⟩) (.int 0 ⟨68, 112, 68, 113⟩) ⟨68, 96, 68, 114⟩)] ⟨68, 66, 68, 115⟩), (.slice (.attr (.loc 1 "parent" ⟨68, 117, 68, 123⟩) 2 "children" ⟨68, 117, 68, 132⟩) Option.none Option.none ⟨68, 133, 68, 134⟩ ⟨68, 117, 68, 135⟩)] ⟨68, 8, 68, 136⟩) ⟨68, 8, 68, 136⟩,
   .expr (.meth (.loc 4 "right" ⟨69, 8, 69, 13⟩) 1 "lay" ⟨69, 8, 69, 17⟩ [(.slice (.attr (.loc 4 "right" ⟨69, 18, 69, 23⟩) 0 "key_row" ⟨69, 18, 69, 31⟩) (some (.int 1 ⟨69, 32, 69, 33⟩)) Option.none ⟨69, 32, 69, 34⟩ ⟨69, 18, 69, 35⟩), (.slice (.attr (.loc 4 "right" ⟨69, 37, 69, 42⟩) 1 "value_row" ⟨69, 37, 69, 52⟩) (some (.int 1 ⟨69, 53, 69, 54⟩)) Option.none ⟨69, 53, 69, 55⟩ ⟨69, 37, 69, 56⟩), (.slice (.attr (.loc 4 "right" ⟨69, 58, 69, 63⟩) 2 "children" ⟨69, 58, 69, 72⟩) (some (.int 1 ⟨69, 73, 69, 74⟩)) Option.none ⟨69, 73, 69, 75⟩ ⟨69, 58, 69, 76⟩)] ⟨69, 8, 69, 77⟩) ⟨69, 8, 69, 77⟩]
noncomputable def nm15 : Nm := ⟨["self", "parent", "i", "child", "right", "moved"], ["row_with"], [], ["self", "parent", "i", "child", "right", "moved"]⟩
noncomputable def f15 : Fn := .ast 3 [.unset, .unset, .unset] nm15 b15

/-- Canopy.fill_child -/
noncomputable def b16 : List S :=
 [.assign 3 "t" ⟨72, 8, 72, 9⟩ (.attr (.loc 0 "self" ⟨72, 12, 72, 16⟩) 3 "t" ⟨72, 12, 72, 18⟩) ⟨72, 8, 72, 18⟩,
   .ite (.or [(.cmp .ge (.call .len "len" ⟨73, 11, 73, 14⟩ [(.attr (.idx (.attr (.loc 1 "parent" ⟨73, 15, 73, 21⟩) 2 "children" ⟨73, 15, 73, 30⟩) (.loc 2 "i" ⟨73, 31, 73, 32⟩) ⟨73, 15, 73, 33⟩) 0 "key_row" ⟨73, 15, 73, 41⟩)] ⟨73, 11, 73, 42⟩) (.loc 3 "t" ⟨73, 46, 73, 47⟩) ⟨73, 11, 73, 47⟩), (.cmp .lt (.call .len "len" ⟨73, 51, 73, 54⟩ [(.attr (.loc 1 "parent" ⟨73, 55, 73, 61⟩) 2 "children" ⟨73, 55, 73, 70⟩)] ⟨73, 51, 73, 71⟩) (.int 2 ⟨73, 74, 73, 75⟩) ⟨73, 51, 73, 75⟩)] ⟨73, 11, 73, 75⟩) [.ret (.loc 2 "i" ⟨74, 19, 74, 20⟩) ⟨74, 12, 74, 20⟩] [] ⟨73, 8, 74, 20⟩,
   .ite (.and [(.cmp .gt (.loc 2 "i" ⟨75, 11, 75, 12⟩) (.int 0 ⟨75, 15, 75, 16⟩) ⟨75, 11, 75, 16⟩), (.cmp .ge (.call .len "len" ⟨75, 21, 75, 24⟩ [(.attr (.idx (.attr (.loc 1 "parent" ⟨75, 25, 75, 31⟩) 2 "children" ⟨75, 25, 75, 40⟩) (.bin .sub (.loc 2 "i" ⟨75, 41, 75, 42⟩) (.int 1 ⟨75, 45, 75, 46⟩) ⟨75, 41, 75, 46⟩) ⟨75, 25, 75, 47⟩) 0 "key_row" ⟨75, 25, 75, 55⟩)] ⟨75, 21, 75, 56⟩) (.loc 3 "t" ⟨75, 60, 75, 61⟩) ⟨75, 21, 75, 61⟩)] ⟨75, 11, 75, 61⟩) [.expr (.meth (.loc 0 "self" ⟨76, 12, 76, 16⟩) 3 "borrow_from_left" ⟨76, 12, 76, 33⟩ [(.loc 1 "parent" ⟨76, 34, 76, 40⟩), (.loc 2 "i" ⟨76, 42, 76, 43⟩)] ⟨76, 12, 76, 44⟩) ⟨76, 12, 76, 44⟩,
     .ret (.loc 2 "i" ⟨77, 19, 77, 20⟩) ⟨77, 12, 77, 20⟩] [] ⟨75, 8, 77, 20⟩,
   .ite (.and [(.cmp .lt (.loc 2 "i" ⟨78, 11, 78, 12⟩) (.bin .sub (.call .len "len" ⟨78, 15, 78, 18⟩ [(.attr (.loc 1 "parent" ⟨78, 19, 78, 25⟩) 2 "children" ⟨78, 19, 78, 34⟩)] ⟨78, 15, 78, 35⟩) (.int 1 ⟨78, 38, 78, 39⟩) ⟨78, 15, 78, 39⟩) ⟨78, 11, 78, 39⟩), (.cmp .ge (.call .len "len" ⟨78, 44, 78, 47⟩ [(.attr (.idx (.attr (.loc 1 "parent" ⟨78, 48, 78, 54⟩) 2 "children" ⟨78, 48, 78, 63⟩) (.bin .add (.loc 2 "i" ⟨78, 64, 78, 65⟩) (.int 1 ⟨78, 68, 78, 69⟩) ⟨78, 64, 78, 69⟩) ⟨78, 48, 78, 70⟩) 0 "key_row" ⟨78, 48, 78, 78⟩)] ⟨78, 44, 78, 79⟩) (.loc 3 "t" ⟨78, 83, 78, 84⟩) ⟨78, 44, 78, 84⟩)] ⟨78, 11, 78, 84⟩) [.expr (.meth (.loc 0 "self" ⟨79, 12, 79, 16⟩) 4 "borrow_from_right" ⟨79, 12, 79, 34⟩ [(.loc 1 "parent" ⟨79, 35, 79, 41⟩), (.loc 2 "i" ⟨79, 43, 79, 44⟩)] ⟨79, 12, 79, 45⟩) ⟨79, 12, 79, 45⟩,
     .ret (.loc 2 "i" ⟨80, 19, 80, 20⟩) ⟨80, 12, 80, 20⟩] [] ⟨78, 8, 80, 20⟩,
   .ite (.cmp .gt (.loc 2 "i" ⟨81, 11, 81, 12⟩) (.int 0 ⟨81, 15, 81, 16⟩) ⟨81, 11, 81, 16⟩) [.expr (.meth (.loc 0 "self" ⟨82, 12, 82, 16⟩) 2 "merge_children" ⟨82, 12, 82, 31⟩ [(.loc 1 "parent" ⟨82, 32, 82, 38⟩), (.bin .sub (.loc 2 "i" ⟨82, 40, 82, 41⟩) (.int 1 ⟨82, 44, 82, 45⟩) ⟨82, 40, 82, 45⟩)] ⟨82, 12, 82, 46⟩) ⟨82, 12, 82, 46⟩,
     .ret (.bin .sub (.loc 2 "i" ⟨83, 19, 83, 20⟩) (.int 1 ⟨83, 23, 83, 24⟩) ⟨83, 19, 83, 24⟩) ⟨83, 12, 83, 24⟩] [] ⟨81, 8, 83, 24⟩,
   .expr (.meth (.loc 0 "self" ⟨84, 8, 84, 12⟩) 2 "merge_children" ⟨84, 8, 84, 27⟩ [(.loc 1 "parent" ⟨84, 28, 84, 34⟩), (.loc 2 "i" ⟨84, 36, 84, 37⟩)] ⟨84, 8, 84, 38⟩) ⟨84, 8, 84, 38⟩,
   .ret (.loc 2 "i" ⟨85, 15, 85, 16⟩) ⟨85, 8, 85, 16⟩]
noncomputable def nm16 : Nm := ⟨["self", "parent", "i", "t"], ["len"], [], ["self", "parent", "i", "t"]⟩
noncomputable def f16 : Fn := .ast 3 [.unset] nm16 b16

/-- Canopy.pairs_below -/
noncomputable def b17 : List S :=
 [.own 2 "out" ⟨97, 8, 97, 11⟩ [] ⟨97, 14, 97, 16⟩ ⟨97, 8, 97, 16⟩,
   .own 3 "stack" ⟨98, 8, 98, 13⟩ [(.tup [(.loc 1 "node" ⟨98, 18, 98, 22⟩), (.neg 1 ⟨98, 25, 98, 26⟩ ⟨98, 24, 98, 26⟩)] 0 ⟨98, 17, 98, 27⟩)] ⟨98, 16, 98, 28⟩ ⟨98, 8, 98, 28⟩,
   .while (.cmp .gt (.call .len "len" ⟨99, 14, 99, 17⟩ [(.loc 3 "stack" ⟨99, 18, 99, 23⟩)] ⟨99, 14, 99, 24⟩) (.int 0 ⟨99, 27, 99, 28⟩) ⟨99, 14, 99, 28⟩) [.assign 4 "top" ⟨100, 12, 100, 15⟩ (.idx (.loc 3 "stack" ⟨100, 18, 100, 23⟩) (.bin .sub (.call .len "len" ⟨100, 24, 100, 27⟩ [(.loc 3 "stack" ⟨100, 28, 100, 33⟩)] ⟨100, 24, 100, 34⟩) (.int 1 ⟨100, 37, 100, 38⟩) ⟨100, 24, 100, 38⟩) ⟨100, 18, 100, 39⟩) ⟨100, 12, 100, 39⟩,
     .del 3 "stack" ⟨101, 16, 101, 21⟩ (.bin .sub (.call .len "len" ⟨101, 22, 101, 25⟩ [(.loc 3 "stack" ⟨101, 26, 101, 31⟩)] ⟨101, 22, 101, 32⟩) (.int 1 ⟨101, 35, 101, 36⟩) ⟨101, 22, 101, 36⟩) ⟨101, 16, 101, 37⟩ ⟨101, 12, 101, 37⟩,
     .assign 5 "here" ⟨102, 12, 102, 16⟩ (.idx (.loc 4 "top" ⟨102, 19, 102, 22⟩) (.int 0 ⟨102, 23, 102, 24⟩) ⟨102, 19, 102, 25⟩) ⟨102, 12, 102, 25⟩,
     .ite (.cmp .ge (.idx (.loc 4 "top" ⟨103, 15, 103, 18⟩) (.int 1 ⟨103, 19, 103, 20⟩) ⟨103, 15, 103, 21⟩) (.int 0 ⟨103, 25, 103, 26⟩) ⟨103, 15, 103, 26⟩) [.append 2 "out" ⟨104, 16, 104, 19⟩ ⟨104, 16, 104, 26⟩ (.tup [(.idx (.attr (.loc 5 "here" ⟨104, 28, 104, 32⟩) 0 "key_row" ⟨104, 28, 104, 40⟩) (.idx (.loc 4 "top" ⟨104, 41, 104, 44⟩) (.int 1 ⟨104, 45, 104, 46⟩) ⟨104, 41, 104, 47⟩) ⟨104, 28, 104, 48⟩), (.idx (.attr (.loc 5 "here" ⟨104, 50, 104, 54⟩) 1 "value_row" ⟨104, 50, 104, 64⟩) (.idx (.loc 4 "top" ⟨104, 65, 104, 68⟩) (.int 1 ⟨104, 69, 104, 70⟩) ⟨104, 65, 104, 71⟩) ⟨104, 50, 104, 72⟩)] 0 ⟨104, 27, 104, 73⟩) ⟨104, 16, 104, 74⟩ ⟨104, 16, 104, 74⟩] [.ite (.e (.meth (.loc 5 "here" ⟨105, 17, 105, 21⟩) 0 "is_leaf" ⟨105, 17, 105, 29⟩ [] ⟨105, 17, 105, 31⟩)) [.for 6 "i" ⟨106, 20, 106, 21⟩ (.call .range "range" ⟨106, 25, 106, 30⟩ [(.call .len "len" ⟨106, 31, 106, 34⟩ [(.attr (.loc 5 "here" ⟨106, 35, 106, 39⟩) 0 "key_row" ⟨106, 35, 106, 47⟩)] ⟨106, 31, 106, 48⟩)] ⟨106, 25, 106, 49⟩) [.append 2 "out" ⟨107, 20, 107, 23⟩ ⟨107, 20, 107, 30⟩ (.tup [(.idx (.attr (.loc 5 "here" ⟨107, 32, 107, 36⟩) 0 "key_row" ⟨107, 32, 107, 44⟩) (.loc 6 "i" ⟨107, 45, 107, 46⟩) ⟨107, 32, 107, 47⟩), (.idx (.attr (.loc 5 "here" ⟨107, 49, 107, 53⟩) 1 "value_row" ⟨107, 49, 107, 63⟩) (.loc 6 "i" ⟨107, 64, 107, 65⟩) ⟨107, 49, 107, 66⟩)] 0 ⟨107, 31, 107, 67⟩) ⟨107, 20, 107, 68⟩ ⟨107, 20, 107, 68⟩] ⟨106, 16, 107, 68⟩] [.for 7 "j" ⟨109, 20, 109, 21⟩ (.call .range "range" ⟨109, 25, 109, 30⟩ [(.bin .sub (.call .max "max" ⟨109, 31, 109, 34⟩ [(.call .len "len" ⟨109, 35, 109, 38⟩ [(.attr (.loc 5 "here" ⟨109, 39, 109, 43⟩) 2 "children" ⟨109, 39, 109, 52⟩)] ⟨109, 35, 109, 53⟩), (.bin .add (.call .len "len" ⟨109, 55, 109, 58⟩ [(.attr (.loc 5 "here" ⟨109, 59, 109, 63⟩) 0 "key_row" ⟨109, 59, 109, 71⟩)] ⟨109, 55, 109, 72⟩) (.int 1 ⟨109, 75, 109, 76⟩) ⟨109, 55, 109, 76⟩)] ⟨109, 31, 109, 77⟩) (.int 1 ⟨109, 80, 109, 81⟩) ⟨109, 31, 109, 81⟩), (.neg 1 ⟨109, 84, 109, 85⟩ ⟨109, 83, 109, 85⟩), (.neg 1 ⟨109, 88, 109, 89⟩ ⟨109, 87, 109, 89⟩)] ⟨109, 25, 109, 90⟩) [.ite (.cmp .lt (.loc 7 "j" ⟨110, 23, 110, 24⟩) (.call .len "len" ⟨110, 27, 110, 30⟩ [(.attr (.loc 5 "here" ⟨110, 31, 110, 35⟩) 2 "children" ⟨110, 31, 110, 44⟩)] ⟨110, 27, 110, 45⟩) ⟨110, 23, 110, 45⟩) [.append 3 "stack" ⟨111, 24, 111, 29⟩ ⟨111, 24, 111, 36⟩ (.tup [(.idx (.attr (.loc 5 "here" ⟨111, 38, 111, 42⟩) 2 "children" ⟨111, 38, 111, 51⟩) (.loc 7 "j" ⟨111, 52, 111, 53⟩) ⟨111, 38, 111, 54⟩), (.neg 1 ⟨111, 57, 111, 58⟩ ⟨111, 56, 111, 58⟩)] 0 ⟨111, 37, 111, 59⟩) ⟨111, 24, 111, 60⟩ ⟨111, 24, 111, 60⟩] [] ⟨110, 20, 111, 60⟩,
           .ite (.cmp .gt (.loc 7 "j" ⟨112, 23, 112, 24⟩) (.int 0 ⟨112, 27, 112, 28⟩) ⟨112, 23, 112, 28⟩) [.append 3 "stack" ⟨113, 24, 113, 29⟩ ⟨113, 24, 113, 36⟩ (.tup [(.loc 5 "here" ⟨113, 38, 113, 42⟩), (.bin .sub (.loc 7 "j" ⟨113, 44, 113, 45⟩) (.int 1 ⟨113, 48, 113, 49⟩) ⟨113, 44, 113, 49⟩)] 0 ⟨113, 37, 113, 50⟩) ⟨113, 24, 113, 51⟩ ⟨113, 24, 113, 51⟩] [] ⟨112, 20, 113, 51⟩] ⟨109, 16, 113, 51⟩] ⟨105, 12, 113, 51⟩] ⟨103, 12, 113, 51⟩] ⟨99, 8, 113, 51⟩,
   .freeze 2,
   .ret (.loc 2 "out" ⟨114, 15, 114, 18⟩) ⟨114, 8, 114, 18⟩]
noncomputable def nm17 : Nm := ⟨["self", "node", "out", "stack", "top", "here", "i", "j"], ["len", "range", "max"], [], ["self", "node", "out", "stack", "top", "here", "i", "j"]⟩
noncomputable def f17 : Fn := .ast 2 [.unset, .unset, .unset, .unset, .unset, .unset] nm17 b17

/-- Canopy.pairs -/
noncomputable def b18 : List S :=
 [.ret (.meth (.loc 0 "self" ⟨117, 15, 117, 19⟩) 6 "pairs_below" ⟨117, 15, 117, 31⟩ [(.attr (.loc 0 "self" ⟨117, 32, 117, 36⟩) 4 "root" ⟨117, 32, 117, 41⟩)] ⟨117, 15, 117, 42⟩) ⟨117, 8, 117, 42⟩]
noncomputable def nm18 : Nm := ⟨["self"], [], [], ["self"]⟩
noncomputable def f18 : Fn := .ast 1 [] nm18 b18

/-- Canopy.leaf_level -/
noncomputable def b19 : List S :=
 [.assign 2 "level" ⟨126, 8, 126, 13⟩ (.neg 1 ⟨126, 17, 126, 18⟩ ⟨126, 16, 126, 18⟩) ⟨126, 8, 126, 18⟩,
   .own 3 "stack" ⟨127, 8, 127, 13⟩ [(.tup [(.loc 1 "node" ⟨127, 18, 127, 22⟩), (.int 0 ⟨127, 24, 127, 25⟩)] 0 ⟨127, 17, 127, 26⟩)] ⟨127, 16, 127, 27⟩ ⟨127, 8, 127, 27⟩,
   .while (.cmp .gt (.call .len "len" ⟨128, 14, 128, 17⟩ [(.loc 3 "stack" ⟨128, 18, 128, 23⟩)] ⟨128, 14, 128, 24⟩) (.int 0 ⟨128, 27, 128, 28⟩) ⟨128, 14, 128, 28⟩) [.assign 4 "top" ⟨129, 12, 129, 15⟩ (.idx (.loc 3 "stack" ⟨129, 18, 129, 23⟩) (.bin .sub (.call .len "len" ⟨129, 24, 129, 27⟩ [(.loc 3 "stack" ⟨129, 28, 129, 33⟩)] ⟨129, 24, 129, 34⟩) (.int 1 ⟨129, 37, 129, 38⟩) ⟨129, 24, 129, 38⟩) ⟨129, 18, 129, 39⟩) ⟨129, 12, 129, 39⟩,
     .del 3 "stack" ⟨130, 16, 130, 21⟩ (.bin .sub (.call .len "len" ⟨130, 22, 130, 25⟩ [(.loc 3 "stack" ⟨130, 26, 130, 31⟩)] ⟨130, 22, 130, 32⟩) (.int 1 ⟨130, 35, 130, 36⟩) ⟨130, 22, 130, 36⟩) ⟨130, 16, 130, 37⟩ ⟨130, 12, 130, 37⟩,
     .assign 5 "here" ⟨131, 12, 131, 16⟩ (.idx (.loc 4 "top" ⟨131, 19, 131, 22⟩) (.int 0 ⟨131, 23, 131, 24⟩) ⟨131, 19, 131, 25⟩) ⟨131, 12, 131, 25⟩,
     .ite (.e (.meth (.loc 5 "here" ⟨132, 15, 132, 19⟩) 0 "is_leaf" ⟨132, 15, 132, 27⟩ [] ⟨132, 15, 132, 29⟩)) [.ite (.cmp .eq (.loc 2 "level" ⟨133, 19, 133, 24⟩) (.neg 1 ⟨133, 29, 133, 30⟩ ⟨133, 28, 133, 30⟩) ⟨133, 19, 133, 30⟩) [.assign 2 "level" ⟨134, 20, 134, 25⟩ (.idx (.loc 4 "top" ⟨134, 28, 134, 31⟩) (.int 1 ⟨134, 32, 134, 33⟩) ⟨134, 28, 134, 34⟩) ⟨134, 20, 134, 34⟩] [.ite (.cmp .ne (.loc 2 "level" ⟨135, 21, 135, 26⟩) (.idx (.loc 4 "top" ⟨135, 30, 135, 33⟩) (.int 1 ⟨135, 34, 135, 35⟩) ⟨135, 30, 135, 36⟩) ⟨135, 21, 135, 36⟩) [.ret (.neg 1 ⟨136, 28, 136, 29⟩ ⟨136, 27, 136, 29⟩) ⟨136, 20, 136, 29⟩] [] ⟨135, 16, 136, 29⟩] ⟨133, 16, 136, 29⟩] [] ⟨132, 12, 136, 29⟩,
     .for 6 "child" ⟨137, 16, 137, 21⟩ (.attr (.loc 5 "here" ⟨137, 25, 137, 29⟩) 2 "children" ⟨137, 25, 137, 38⟩) [.append 3 "stack" ⟨138, 16, 138, 21⟩ ⟨138, 16, 138, 28⟩ (.tup [(.loc 6 "child" ⟨138, 30, 138, 35⟩), (.bin .add (.idx (.loc 4 "top" ⟨138, 37, 138, 40⟩) (.int 1 ⟨138, 41, 138, 42⟩) ⟨138, 37, 138, 43⟩) (.int 1 ⟨138, 46, 138, 47⟩) ⟨138, 37, 138, 47⟩)] 0 ⟨138, 29, 138, 48⟩) ⟨138, 16, 138, 49⟩ ⟨138, 16, 138, 49⟩] ⟨137, 12, 138, 49⟩] ⟨128, 8, 138, 49⟩,
   .ret (.loc 2 "level" ⟨139, 15, 139, 20⟩) ⟨139, 8, 139, 20⟩]
noncomputable def nm19 : Nm := ⟨["self", "node", "level", "stack", "top", "here", "child"], ["len"], [], ["self", "node", "level", "stack", "top", "here", "child"]⟩
noncomputable def f19 : Fn := .ast 2 [.unset, .unset, .unset, .unset, .unset] nm19 b19


noncomputable def fnsA (k : Nat) : Option Fn := nth [f0, f1, f2, f3, f4, f5, f6, f7, f8, f9, f10, f11, f12, f13, f14, f15, f16, f17, f18, f19] k

noncomputable def walkL (c : Nat) : Nat → List V := Nat.rec (motive := fun _ => Nat → List V) (fun _ => []) (fun _ ih i => .tup [.key i, .val i] :: ih (Nat.succ i)) c

noncomputable def walkF (vs : List V) (st : List Inst) : Option (V × List Inst) := List.casesOn vs none fun a vs => List.casesOn vs none fun b vs => List.casesOn vs (V.casesOn a (V.casesOn b none none (fun _ => none) (fun i => Int.casesOn i (fun c => Bool.casesOn (Nat.ble c 64) none (some (.list (walkL c 0), st))) fun _ => none) (fun _ => none) (fun _ => none) (fun _ => none) (fun _ => none) (fun _ => none)) none (fun _ => none) (fun _ => none) (fun _ => none) (fun _ => none) (fun _ => none) (fun _ => none) (fun _ => none)) fun _ _ => none

noncomputable def fns1 (k : Nat) : Option Fn := nth [f0, f1, f2, .nat 3 walkF, f4, f5, f6, f7, f8, f9, f10, f11, f12, f13, f14, f15, f16, f17, f18, f19] k

noncomputable def addr1 (k : Nat) : Addr := [28, 35, 281, 288, 293, 300, 307, 312, 317, 49, 56, 70, 91, 133, 140, 147, 154, 182, 189, 210].getD k 0

noncomputable def gname1 (k : Nat) : Option Str := nth ["row_with", "row_without", "_law_cell", "_law_walk", "_law_node", "_law_rows", "_law_due", "_law_same", "law"] k

noncomputable def cname1 (k : Nat) : Option Str := nth ["Node", "Canopy"] k

noncomputable def init1 (k : Nat) : Nat := Nat.casesOn k 9 fun _ => 12

noncomputable def mth1 (c f : Nat) : Option Nat := Option.casesOn (nth ([[some 10, some 11, none, none, none, none, none, none, none], [none, none, some 13, some 14, some 15, some 16, some 17, some 18, some 19]] : List (List (Option Nat))) c) none fun t => Option.casesOn (nth t f) none fun x => x

noncomputable def mname1 (k : Nat) : Option Str := nth ["is_leaf", "lay", "merge_children", "borrow_from_left", "borrow_from_right", "fill_child", "pairs_below", "pairs", "leaf_level"] k

noncomputable def fpos1 (c f : Nat) : Option Nat := Option.casesOn (nth ([[some 0, some 1, some 2], [none, none, none, some 0, some 1, some 2]] : List (List (Option Nat))) c) none fun t => Option.casesOn (nth t f) none fun x => x

noncomputable def aname1 (k : Nat) : Option Str := nth ["key_row", "value_row", "children", "t", "root", "size"] k

noncomputable def extra1 : V := .tup [.int 0, .int 0, .int 1, .int 2, .int 0]
noncomputable def glob1 (k : Nat) : Option (Str × V) := nth [("_law_extra", extra1)] k

noncomputable def pgA : Pg := ⟨fnsA, addr1, gname1, cname1, init1, mth1, mname1, fpos1, aname1, glob1⟩

noncomputable def pg1 : Pg := ⟨fns1, addr1, gname1, cname1, init1, mth1, mname1, fpos1, aname1, glob1⟩

end Mine

namespace Mine
open PySem PySem.W PySem.Calls PyProof.Rows
/-- parts of a text -/
def S.bd : S → List S
  | .while _ b _ => b
  | .for _ _ _ _ b _ => b
  | .ite _ a _ _ => a
  | _ => []
def S.el : S → List S
  | .ite _ _ b _ => b
  | _ => []
def S.cd : S → C
  | .while c _ _ => c
  | .ite c _ _ _ => c
  | _ => .and [] ⟨0, 0, 0, 0⟩
def sAt (l : List S) (i : Nat) : S := l.getD i (.freeze 0)

/-- a tree -/
inductive T where
  | nd (ks vs : List V) (cs : List T)
mutual
def T.size : T → Nat
  | .nd ks vs cs => 1 + ks.length + vs.length + Ts.size cs
def Ts.size : List T → Nat
  | [] => 0
  | t :: ts => t.size + Ts.size ts
end
theorem T.size_pos (t : T) : 0 < t.size := by cases t; rw [T.size]; omega
theorem Ts.size_app (a b : List T) : Ts.size (a ++ b) = Ts.size a + Ts.size b := by
  induction a with
  | nil => simp [Ts.size]
  | cons t a ih => simp [Ts.size, ih]; omega
theorem Ts.size_rev (a : List T) : Ts.size a.reverse = Ts.size a := by
  induction a with
  | nil => rfl
  | cons t a ih => rw [List.reverse_cons, Ts.size_app, ih]; simp [Ts.size]; omega
theorem Ts.len_le (a : List T) : a.length ≤ Ts.size a := by
  induction a with
  | nil => exact Nat.le_refl _
  | cons t a ih => have := t.size_pos; simp [Ts.size]; omega
inductive Rep (st : List Inst) : Nat → T → Prop where
  | nd {k : Nat} {ks vs : List V} {kids : List (Nat × T)} : st[k]? = some ⟨0, [.list ks, .list vs, .list (kids.map fun x => .obj x.1)]⟩ → (∀ x ∈ kids, Rep st x.1 x.2) → Rep st k (.nd ks vs (kids.map (·.2)))
theorem Rep.inv {st : List Inst} {k : Nat} {t : T} (h : Rep st k t) : ∃ (ks vs : List V) (kids : List (Nat × T)), st[k]? = some ⟨0, [.list ks, .list vs, .list (kids.map fun x => .obj x.1)]⟩ ∧ (∀ x ∈ kids, Rep st x.1 x.2) ∧ t = .nd ks vs (kids.map (·.2)) := by
  cases h with
  | nd a b => exact ⟨_, _, _, a, b, rfl⟩
theorem Rep.mono {st st' : List Inst} (hs : ∀ (k : Nat) (i : Inst), st[k]? = some i → i.cls = 0 → st'[k]? = some i) {k : Nat} {t : T} (h : Rep st k t) : Rep st' k t := by
  induction h with
  | nd a _ ih => exact .nd (hs _ _ a rfl) ih

section
variable {c : Cn} {nm : Nm} {n : Nat} {loc loc₁ loc₂ : List LV} {st st₁ st₂ : List Inst} {fl : Fl}
theorem bt2 (P : PgOk c pgA) {x : Str} {f : Value} (hx : x ∈ [("len" : Str), "sum", "max", "list", "tuple", "range"]) (gl : x ∈ nm.gs) (boot : bootBuiltins x = some f) (nn : x ≠ "__name__") (dbg : (x == ("__debug__" : Str)) = false) : BtOk c nm x f := ⟨gl, P.blt x hx, boot, nn, dbg⟩
theorem btLen (P : PgOk c pgA) (gl : ("len" : Str) ∈ nm.gs) : BtOk c nm "len" (.builtin "len") := bt2 P (by simp) gl rfl (by decide +kernel) (by decide +kernel)
theorem btRange (P : PgOk c pgA) (gl : ("range" : Str) ∈ nm.gs) : BtOk c nm "range" (.type "range") := bt2 P (by simp) gl rfl (by decide +kernel) (by decide +kernel)
theorem btMax (P : PgOk c pgA) (gl : ("max" : Str) ∈ nm.gs) : BtOk c nm "max" (.builtin "max") := bt2 P (by simp) gl rfl (by decide +kernel) (by decide +kernel)
theorem btSum (P : PgOk c pgA) (gl : ("sum" : Str) ∈ nm.gs) : BtOk c nm "sum" (.builtin "sum") := bt2 P (by simp) gl rfl (by decide +kernel) (by decide +kernel)
theorem btList (P : PgOk c pgA) (gl : ("list" : Str) ∈ nm.gs) : BtOk c nm "list" (.type "list") := bt2 P (by simp) gl rfl (by decide +kernel) (by decide +kernel)
theorem btTuple (P : PgOk c pgA) (gl : ("tuple" : Str) ∈ nm.gs) : BtOk c nm "tuple" (.type "tuple") := bt2 P (by simp) gl rfl (by decide +kernel) (by decide +kernel)

/-- fields -/
theorem aGet (P : PgOk c pgA) {cl f j : Nat} {x : Str} (hp : pgA.fpos cl f = some j) (hn : pgA.aname f = some x) {e : E} {k : Nat} {p : Ps} {i : Inst} {v : V} (he : SE c nm n e loc st (.obj k) st₁) (hi : st₁[k]? = some i) (hcl : i.cls = cl) (hf : i.fs[j]? = some v) (hc : e.nocall = true) :
    SE c nm n (.attr e f x p) loc st v st₁ := by
  subst hcl
  obtain ⟨x', h1, h2, h3, _⟩ := P.attr _ _ _ hp
  rw [hn] at h1; cases h1
  exact sE_attr (f := j) (p := p) he hi h3 (P.nd _) h2 hf hc
section
variable {e : E} {k : Nat} {p : Ps} {ks vs cs : V}
theorem aKeys (P : PgOk c pgA) (he : SE c nm n e loc st (.obj k) st) (hi : st[k]? = some ⟨0, [ks, vs, cs]⟩) (hc : e.nocall = true) : SE c nm n (.attr e 0 "key_row" p) loc st ks st := aGet P (cl := 0) (j := 0) rfl rfl he hi rfl rfl hc
theorem aVals (P : PgOk c pgA) (he : SE c nm n e loc st (.obj k) st) (hi : st[k]? = some ⟨0, [ks, vs, cs]⟩) (hc : e.nocall = true) : SE c nm n (.attr e 1 "value_row" p) loc st vs st := aGet P (cl := 0) (j := 1) rfl rfl he hi rfl rfl hc
theorem aKids (P : PgOk c pgA) (he : SE c nm n e loc st (.obj k) st) (hi : st[k]? = some ⟨0, [ks, vs, cs]⟩) (hc : e.nocall = true) : SE c nm n (.attr e 2 "children" p) loc st cs st := aGet P (cl := 0) (j := 2) rfl rfl he hi rfl rfl hc
end
theorem mCall (P : PgOk c pgA) {cl f kf : Nat} {x : Str} (hm : pgA.mth cl f = some kf) (hn : pgA.mname f = some x) {o : E} {es : List E} {q p : Ps} {k : Nat} {i : Inst} {vs : List V} {v : V} (ho : SE c nm n o loc st (.obj k) st) (hi : st[k]? = some i) (hcl : i.cls = cl) (hs : SEs c nm n es loc st vs st) (hc : SCode c n (addr1 kf) (.obj k :: vs) st v st₁) (hoc : o.nocall = true) (hz : es.length < 29) (hline : (q.endLine == p.line) = true) :
    SE c nm n (.meth o f x q es p) loc st v st₁ := by
  subst hcl
  obtain ⟨x', h1, h2⟩ := P.mth _ _ _ hm
  rw [hn] at h1; cases h1
  exact sE_meth ho hi h2 hs hc.call hoc hz hline
theorem eLen (P : PgOk c pgA) (gl : ("len" : Str) ∈ nm.gs) {e : E} {q p : Ps} {xs : List V} (he : SE c nm n e loc st (.list xs) st₁) (hz : xs.length ≤ 1000000) : SE c nm n (.call .len "len" q [e] p) loc st (.int xs.length) st₁ :=
  sE_bltF (btLen P gl) (sEs_cons he sEs_nil) (blt_len hz)
theorem eLenT (P : PgOk c pgA) (gl : ("len" : Str) ∈ nm.gs) {e : E} {q p : Ps} {xs : List V} (he : SE c nm n e loc st (.tup xs) st₁) (hz : xs.length ≤ 1000000) : SE c nm n (.call .len "len" q [e] p) loc st (.int xs.length) st₁ :=
  sE_bltF (btLen P gl) (sEs_cons he sEs_nil) (blt_lenT hz)
theorem se_eq {e : E} {v v' : V} (h : SE c nm n e loc st v st₁) (e' : v = v') : SE c nm n e loc st v' st₁ := e' ▸ h
theorem sc_eq {e : C} {b b' : Bool} (h : SC c nm n e loc st b st₁) (e' : b = b') : SC c nm n e loc st b' st₁ := e' ▸ h

theorem eAdd {e1 e2 : E} {p : Ps} {a b : Nat} (h1 : SE c nm n e1 loc st (.int (a : Int)) st) (h2 : SE c nm n e2 loc st (.int (b : Int)) st) : SE c nm n (.bin .add e1 e2 p) loc st (.int ((a + b : Nat) : Int)) st := se_eq (sE_bin h1 h2 (bin_add rfl rfl)) rfl
theorem eNat {k : Nat} {i : Int} {p : Ps} (h : i = (k : Int)) : SE c nm n (.int i p) loc st (.int (k : Int)) st := by subst h; exact sE_int
/-- is_leaf -/
theorem leaf_code (P : PgOk c pgA) (n : Nat) {k : Nat} {ks vs cs : List V} (hi : st[k]? = some ⟨0, [.list ks, .list vs, .list cs]⟩) (hz : cs.length ≤ 1000000) : SCode c (n + 1) (addr1 10) [.obj k] st (.bool (((cs.length : Nat) : Int) == 0)) st :=
  fn_code P (k := 10) (nm := nm10) (body := b10) (pad := []) (np := 1) (loc := [.v (.obj k)]) (fl := .ret (.bool (((cs.length : Nat) : Int) == 0))) rfl rfl
    (ss_return (sE_cmp (eLen P (by decide +kernel) (aKids P (sE_loc rfl rfl (by decide +kernel)) hi rfl) hz) sE_int (cmp_eqi rfl rfl))) (.ret _)
/-- x.is_leaf() as a condition -/
theorem cLeaf (P : PgOk c pgA) {o : E} {q p : Ps} {k : Nat} {ks vs cs : List V} (ho : SE c nm (n + 1) o loc st (.obj k) st) (hoc : o.nocall = true) (hi : st[k]? = some ⟨0, [.list ks, .list vs, .list cs]⟩) (hz : cs.length ≤ 1000000) (hline : (q.endLine == p.line) = true) :
    SC c nm (n + 1) (.e (.meth o 0 "is_leaf" q [] p)) loc st cs.isEmpty st := by
  refine sC_bool (se_eq (mCall P (cl := 0) (kf := 10) rfl rfl ho hi rfl sEs_nil (leaf_code P n hi hz) hoc (by decide) hline) ?_) rfl
  cases cs with
  | nil => rfl
  | cons a l =>
    have hq : ((((a :: l).length : Nat) : Int) == 0) = false := by rw [List.length_cons, beq_eq_false_iff_ne]; omega
    rw [hq]; rfl
end
def zp : List V → List V → List V
  | a :: l, b :: r => .tup [a, b] :: zp l r
  | _, _ => []
mutual
def T.prs : T → List V
  | .nd ks vs cs => Ts.inter cs (zp ks vs)
def Ts.inter : List T → List V → List V
  | [], qs => qs
  | t :: ts, [] => t.prs ++ Ts.inter ts []
  | t :: ts, q :: qs => t.prs ++ q :: Ts.inter ts qs
end
def lfD (cs : List T) (d : Nat) : List Nat := match cs with
  | [] => [d]
  | _ => []
def lfL (cs : List T) (lv d : Int) : Int := match cs with
  | [] => bif lv == -1 then d else lv
  | _ => lv
mutual
def T.dep : T → Nat → List Nat
  | .nd _ _ cs, d => lfD cs d ++ Ts.dep cs (d + 1)
def Ts.dep : List T → Nat → List Nat
  | [], _ => []
  | t :: ts, d => Ts.dep ts d ++ t.dep d
end
def lvGo (l : Int) : List Nat → Int
  | [] => l
  | d :: ds => bif l == -1 then lvGo d ds else bif l == (d : Int) then lvGo l ds else -1
def T.lvl (t : T) : Int := lvGo (-1) (t.dep 0)
-- every node lawful for the walk in order
mutual
def T.law : T → Bool
  | .nd ks vs cs => Nat.beq vs.length ks.length && (Nat.beq cs.length 0 || Nat.beq cs.length (ks.length + 1)) && Ts.law cs
def Ts.law : List T → Bool
  | [] => true
  | x :: xs => x.law && Ts.law xs
end
theorem Ts.law_mem {cs : List T} (h : Ts.law cs = true) : ∀ x ∈ cs, x.law = true := by
  induction cs with
  | nil => intro x hx; cases hx
  | cons a l ih =>
    rw [Ts.law, Bool.and_eq_true] at h
    intro x hx
    cases hx with
    | head => exact h.1
    | tail _ q => exact ih h.2 x q
section
variable {c : Cn} {nm : Nm} {n : Nat} {loc loc₁ loc₂ : List LV} {st st₁ st₂ : List Inst} {fl : Fl}
theorem rng0 (m : Nat) : rng 0 1 m = (List.range m).map fun j : Nat => V.int ((0 + j : Nat) : Int) := by
  unfold rng
  apply List.map_congr_left
  intro j _
  show V.int _ = V.int _
  congr 1
  omega

theorem rs_down (m : Nat) : Builtin.Range.rangeSize ((m : Int) - 1) (-1) (-1) = m := by
  unfold Builtin.Range.rangeSize
  rw [if_neg (by first | decide | (simp; done))]
  split
  · rw [Int.neg_neg, Int.ediv_one]; omega
  · omega
/-- leaf_level -/
def itd : List (Nat × T × Nat) → List Nat
  | [] => []
  | x :: xs => x.2.1.dep x.2.2 ++ itd xs
theorem itd_kids (d : Nat) (kids : List (Nat × T)) (its : List (Nat × T × Nat)) : itd ((kids.map fun x => (x.1, x.2, d)).reverse ++ its) = Ts.dep (kids.map (·.2)) d ++ itd its := by
  induction kids generalizing its with
  | nil => simp [Ts.dep]
  | cons x kids ih =>
    rw [List.map_cons, List.reverse_cons, List.append_assoc, ih]
    simp [Ts.dep, itd]
def itv (x : Nat × T × Nat) : V := .tup [.obj x.1, .int (x.2.2 : Int)]
theorem level_loop (P : PgOk c pgA) {me nd : V} : ∀ (N : Nat) (its : List (Nat × T × Nat)) (lv : Int) (l4 l5 l6 : LV), Ts.size (its.map (·.2.1)) ≤ N → N ≤ 50000 → (∀ x ∈ its, Rep st x.1 x.2.1) →
    (∃ k loc', WEv c nm19 (n + 1) (sAt b19 2).cd (sAt b19 2).bd k [.v me, .v nd, .v (.int lv), .own (its.reverse.map itv), l4, l5, l6] st (.ret (.int (lvGo lv (itd its)))) loc' st) ∨
    (∃ k l4' l5' l6', WEv c nm19 (n + 1) (sAt b19 2).cd (sAt b19 2).bd k [.v me, .v nd, .v (.int lv), .own (its.reverse.map itv), l4, l5, l6] st .next [.v me, .v nd, .v (.int (lvGo lv (itd its))), .own [], l4', l5', l6'] st) := by
  have bt : BtOk c nm19 "len" (.builtin "len") := btLen P (by decide +kernel)
  intro N
  induction N with
  | zero =>
    intro its lv l4 l5 l6 h1 h2 hr
    cases its with
    | nil => exact .inr ⟨0, l4, l5, l6, .stop (sC_more_f bt rfl rfl (by decide +kernel))⟩
    | cons x its => have := x.2.1.size_pos; simp [Ts.size] at h1; omega
  | succ N ih =>
    intro its lv l4 l5 l6 h1 h2 hr
    cases its with
    | nil => exact .inr ⟨0, l4, l5, l6, .stop (sC_more_f bt rfl rfl (by decide +kernel))⟩
    | cons x its =>
      obtain ⟨k, t, d⟩ := x
      obtain ⟨ks, vs, kids, hi, hk, rfl⟩ := (hr _ (.head _)).inv
      have hs : 1 + ks.length + vs.length + Ts.size (kids.map (·.2)) + Ts.size (its.map (·.2.1)) ≤ N + 1 := by simpa [Ts.size, T.size] using h1
      have l1 := Ts.len_le (its.map (·.2.1))
      have l2 := Ts.len_le (kids.map (·.2))
      rw [List.length_map] at l1 l2
      have e1 : (((k, T.nd ks vs (kids.map (·.2)), d) :: its).reverse.map itv) = (its.reverse.map itv) ++ [.tup [.obj k, .int (d : Int)]] := by simp [itv]
      have e3 : itd ((k, T.nd ks vs (kids.map (·.2)), d) :: its) = lfD (kids.map (·.2)) d ++ itd ((kids.map fun x => (x.1, x.2, d + 1)).reverse ++ its) := by
        rw [itd_kids]; simp [itd, T.dep]
      obtain ⟨m6, fe⟩ := fe_push (c := c) (nm := nm19) (n := n + 1) (st := st) (i := 3) (j := 6) (x := "stack") (e := .tup [(.loc 6 "child" ⟨138, 30, 138, 35⟩), (.bin .add (.idx (.loc 4 "top" ⟨138, 37, 138, 40⟩) (.int 1 ⟨138, 41, 138, 42⟩) ⟨138, 37, 138, 43⟩) (.int 1 ⟨138, 46, 138, 47⟩) ⟨138, 37, 138, 47⟩)] 0 ⟨138, 29, 138, 48⟩) (a1 := ⟨138, 16, 138, 21⟩) (a2 := ⟨138, 16, 138, 28⟩) (a3 := ⟨138, 16, 138, 49⟩) (a4 := ⟨138, 16, 138, 49⟩) (fun y => .tup [y, .int ((d + 1 : Nat) : Int)]) rfl (by first | decide | (simp; done)) (by decide +kernel) rfl
        (kids.map fun x => V.obj x.1) (its.reverse.map itv) [.v me, .v nd, .v (.int (lfL (kids.map (·.2)) lv (d : Int))), .own (its.reverse.map itv), .v (.tup [.obj k, .int (d : Int)]), .v (.obj k), l6] rfl (by simp) (by simp; omega)
        (fun y _ S' => sE_tup (sEs_cons (sE_loc rfl rfl (by decide +kernel)) (sEs_cons (eAdd (sE_idxT (k := 1) (sE_loc rfl rfl (by decide +kernel)) sE_int rfl rfl (by first | decide | (simp; done))) (eNat rfl)) sEs_nil)) (by first | decide | (simp; done)))
      have tail : SS c nm19 (n + 1) ((sAt b19 2).bd.drop 4) [.v me, .v nd, .v (.int (lfL (kids.map (·.2)) lv (d : Int))), .own (its.reverse.map itv), .v (.tup [.obj k, .int (d : Int)]), .v (.obj k), l6] st .next [.v me, .v nd, .v (.int (lfL (kids.map (·.2)) lv (d : Int))), .own (((kids.map fun x => (x.1, x.2, d + 1)).reverse ++ its).reverse.map itv), .v (.tup [.obj k, .int (d : Int)]), .v (.obj k), m6] st := by
        refine ss_for (st₁ := st) (st₂ := st) rfl (si_list (aKids P (sE_loc rfl rfl (by decide +kernel)) hi rfl) (by simp; omega)) fe ?_
        have e2 : ((kids.map fun x => (x.1, x.2, d + 1)).reverse ++ its).reverse.map itv = its.reverse.map itv ++ (kids.map fun x => V.obj x.1).map fun y => .tup [y, .int ((d + 1 : Nat) : Int)] := by simp [itv]
        rw [e2]
        exact ss_nil
      have hlf := cLeaf (n := n) (nm := nm19) (loc := [.v me, .v nd, .v (.int lv), .own (its.reverse.map itv), .v (.tup [.obj k, .int (d : Int)]), .v (.obj k), l6]) P (o := .loc 5 "here" ⟨132, 15, 132, 19⟩) (q := ⟨132, 15, 132, 27⟩) (p := ⟨132, 15, 132, 29⟩) (sE_loc rfl rfl (by decide +kernel)) rfl hi (by simp; omega) rfl
      have step : ∀ fl loc', SS c nm19 (n + 1) ((sAt b19 2).bd.drop 3) [.v me, .v nd, .v (.int lv), .own (its.reverse.map itv), .v (.tup [.obj k, .int (d : Int)]), .v (.obj k), l6] st fl loc' st → SS c nm19 (n + 1) (sAt b19 2).bd [.v me, .v nd, .v (.int lv), .own (its.reverse.map itv ++ [.tup [.obj k, .int (d : Int)]]), l4, l5, l6] st fl loc' st := by
        intro fl loc' hh
        refine ss_pop bt rfl rfl (by first | decide | (simp; done)) rfl (by decide +kernel) (by simp; omega) ?_
        exact ss_assign (st₁ := st) (v := .obj k) rfl (sE_idxT (k := 0) (sE_loc rfl rfl (by decide +kernel)) sE_int rfl rfl (by first | decide | (simp; done))) rfl hh
      have hrec := ih ((kids.map fun x => (x.1, x.2, d + 1)).reverse ++ its) (lfL (kids.map (·.2)) lv (d : Int)) (.v (.tup [.obj k, .int (d : Int)])) (.v (.obj k)) m6 (by
          rw [List.map_append, List.map_reverse, Ts.size_app, Ts.size_rev, List.map_map]
          have : Ts.size (kids.map ((fun x : Nat × T × Nat => x.2.1) ∘ fun x : Nat × T => (x.1, x.2, d + 1))) = Ts.size (kids.map (·.2)) := rfl
          omega) (by omega) (by
        intro x hx
        rcases List.mem_append.mp hx with hx | hx
        · obtain ⟨y, hy, rfl⟩ := List.mem_map.mp (List.mem_reverse.mp hx)
          exact hk y hy
        · exact hr x (.tail _ hx))
      rw [e1, e3]
      cases kids with
      | cons y kids =>
        have h2 := step _ _ (ss_if_f hlf ss_nil tail)
        rcases hrec with ⟨k', loc', ev⟩ | ⟨k', a, b, cc, ev⟩
        · exact .inl ⟨k' + 1, loc', .turn (sC_more_t bt rfl rfl (by decide +kernel) (by simp; omega)) h2 ev⟩
        · exact .inr ⟨k' + 1, a, b, cc, .turn (sC_more_t bt rfl rfl (by decide +kernel) (by simp; omega)) h2 ev⟩
      | nil =>
        have hq : SC c nm19 (n + 1) (.cmp .eq (.loc 2 "level" ⟨133, 19, 133, 24⟩) (.neg 1 ⟨133, 29, 133, 30⟩ ⟨133, 28, 133, 30⟩) ⟨133, 19, 133, 30⟩) [.v me, .v nd, .v (.int lv), .own (its.reverse.map itv), .v (.tup [.obj k, .int (d : Int)]), .v (.obj k), l6] st (lv == -1) st := sC_cmp (sE_loc rfl rfl (by decide +kernel)) sE_neg (cmp_eqi rfl rfl)
        cases hb : lv == -1 with
        | true =>
          rw [hb] at hq
          have eL : lfL (([] : List (Nat × T)).map (·.2)) lv (d : Int) = (d : Int) := by show (bif lv == -1 then (d : Int) else lv) = _; rw [hb]; rfl
          rw [eL] at tail hrec
          have h2 := step _ _ (ss_if_t hlf (ss_if_t hq (ss_assign (st₁ := st) (v := .int (d : Int)) rfl (sE_idxT (k := 1) (sE_loc rfl rfl (by decide +kernel)) sE_int rfl rfl (by first | decide | (simp; done))) rfl ss_nil) ss_nil) tail)
          have e5 : lvGo lv (lfD (([] : List (Nat × T)).map (·.2)) d ++ itd ((([] : List (Nat × T)).map fun x => (x.1, x.2, d + 1)).reverse ++ its)) = lvGo d (itd ((([] : List (Nat × T)).map fun x => (x.1, x.2, d + 1)).reverse ++ its)) := by
            show (bif lv == -1 then _ else _) = _
            rw [hb]; rfl
          skip
          rw [e5]
          rcases hrec with ⟨k', loc', ev⟩ | ⟨k', a, b, cc, ev⟩
          · exact .inl ⟨k' + 1, loc', .turn (sC_more_t bt rfl rfl (by decide +kernel) (by simp; omega)) h2 ev⟩
          · exact .inr ⟨k' + 1, a, b, cc, .turn (sC_more_t bt rfl rfl (by decide +kernel) (by simp; omega)) h2 ev⟩
        | false =>
          rw [hb] at hq
          have eL : lfL (([] : List (Nat × T)).map (·.2)) lv (d : Int) = lv := by show (bif lv == -1 then (d : Int) else lv) = _; rw [hb]; rfl
          rw [eL] at tail hrec
          have hn : SC c nm19 (n + 1) (.cmp .ne (.loc 2 "level" ⟨135, 21, 135, 26⟩) (.idx (.loc 4 "top" ⟨135, 30, 135, 33⟩) (.int 1 ⟨135, 34, 135, 35⟩) ⟨135, 30, 135, 36⟩) ⟨135, 21, 135, 36⟩) [.v me, .v nd, .v (.int lv), .own (its.reverse.map itv), .v (.tup [.obj k, .int (d : Int)]), .v (.obj k), l6] st (lv != (d : Int)) st := sC_cmp (sE_loc rfl rfl (by decide +kernel)) (sE_idxT (k := 1) (sE_loc rfl rfl (by decide +kernel)) sE_int rfl rfl (by first | decide | (simp; done))) (cmp_nei rfl rfl)
          cases hd : lv == (d : Int) with
          | true =>
            have hn' : (lv != (d : Int)) = false := by simp [bne, hd]
            rw [hn'] at hn
            have h2 := step _ _ (ss_if_t hlf (ss_if_f hq (ss_if_f hn ss_nil ss_nil) ss_nil) tail)
            have e5 : lvGo lv (lfD (([] : List (Nat × T)).map (·.2)) d ++ itd ((([] : List (Nat × T)).map fun x => (x.1, x.2, d + 1)).reverse ++ its)) = lvGo lv (itd ((([] : List (Nat × T)).map fun x => (x.1, x.2, d + 1)).reverse ++ its)) := by
              show (bif lv == -1 then _ else bif lv == (d : Int) then _ else _) = _
              rw [hb, hd]; rfl
            skip
            rw [e5]
            rcases hrec with ⟨k', loc', ev⟩ | ⟨k', a, b, cc, ev⟩
            · exact .inl ⟨k' + 1, loc', .turn (sC_more_t bt rfl rfl (by decide +kernel) (by simp; omega)) h2 ev⟩
            · exact .inr ⟨k' + 1, a, b, cc, .turn (sC_more_t bt rfl rfl (by decide +kernel) (by simp; omega)) h2 ev⟩
          | false =>
            have hn' : (lv != (d : Int)) = true := by simp [bne, hd]
            rw [hn'] at hn
            have h2 := step _ _ (ss_if_tr hlf (ss_if_fr hq (ss_if_tr hn (ss_return (v := .int (-1)) sE_neg))))
            have e5 : lvGo lv (lfD (([] : List (Nat × T)).map (·.2)) d ++ itd ((([] : List (Nat × T)).map fun x => (x.1, x.2, d + 1)).reverse ++ its)) = -1 := by
              show (bif lv == -1 then _ else bif lv == (d : Int) then _ else _) = _
              rw [hb, hd]; rfl
            skip
            rw [e5]
            exact .inl ⟨0, _, .ret (sC_more_t bt rfl rfl (by decide +kernel) (by simp; omega)) h2⟩
theorem level_code (P : PgOk c pgA) (n : Nat) {me : V} {k : Nat} {t : T} (h : Rep st k t) (hz : t.size ≤ 50000) : SCode c (n + 2) (addr1 19) [me, .obj k] st (.int t.lvl) st := by
  have e : lvGo (-1) (itd [(k, t, 0)]) = t.lvl := by simp [itd, T.lvl]
  have hh := level_loop (st := st) (n := n) P (me := me) (nd := .obj k) t.size [(k, t, 0)] (-1) .unset .unset .unset (by simp [Ts.size]) hz (by intro x hx; cases hx with | head => exact h | tail _ q => cases q)
  rw [e] at hh
  have go : ∀ loc', SS c nm19 (n + 1) (b19.drop 2) [.v me, .v (.obj k), .v (.int (-1)), .own ([(k, t, 0)].reverse.map itv), .unset, .unset, .unset] st (.ret (.int t.lvl)) loc' st → SCode c (n + 2) (addr1 19) [me, .obj k] st (.int t.lvl) st := by
    intro loc' hh
    refine fn_code (loc := loc') P (k := 19) (nm := nm19) (body := b19) (pad := [.unset, .unset, .unset, .unset, .unset]) (np := 2) (fl := .ret (.int t.lvl)) rfl rfl ?_ (.ret _)
    refine ss_assign (st₁ := st) (v := .int (-1)) rfl sE_neg rfl ?_
    exact ss_own (st₁ := st) (vs := [.tup [.obj k, .int 0]]) rfl (sEs_cons (sE_tup (sEs_cons (sE_loc rfl rfl (by decide +kernel)) (sEs_cons sE_int sEs_nil)) (by first | decide | (simp; done))) sEs_nil) (by simp) hh
  rcases hh with ⟨w, loc', ev⟩ | ⟨w, l4, l5, l6, ev⟩
  · exact go _ (ss_whiler ev)
  · exact go _ (ss_while ev (ss_return (sE_loc rfl rfl (by decide +kernel))))
end
/-- pairs_below: an item is a node, or a pair of a node -/
structure PI where
  id : Nat
  tr : T
  at' : Option Nat
  ks : List V
  vs : List V
def PI.v (x : PI) : V := match x.at' with
  | none => .tup [.obj x.id, .int (-1)]
  | some j => .tup [.obj x.id, .int (j : Int)]
def PI.em (x : PI) : List V := match x.at' with
  | none => x.tr.prs
  | some j => [.tup [x.ks.getD j .none, x.vs.getD j .none]]
def PI.sz (x : PI) : Nat := match x.at' with
  | none => x.tr.size
  | some _ => 1
def PIs.em : List PI → List V
  | [] => []
  | x :: xs => x.em ++ PIs.em xs
def PIs.sz : List PI → Nat
  | [] => 0
  | x :: xs => x.sz + PIs.sz xs
theorem PI.sz_pos (x : PI) : 0 < x.sz := by unfold PI.sz; split; exact x.tr.size_pos; exact Nat.one_pos
theorem PIs.em_app (a b : List PI) : PIs.em (a ++ b) = PIs.em a ++ PIs.em b := by
  induction a with
  | nil => rfl
  | cons x a ih => simp [PIs.em, ih]
theorem PIs.sz_app (a b : List PI) : PIs.sz (a ++ b) = PIs.sz a + PIs.sz b := by
  induction a with
  | nil => simp [PIs.sz]
  | cons x a ih => simp [PIs.sz, ih]; omega
theorem PIs.len_le (a : List PI) : a.length ≤ PIs.sz a := by
  induction a with
  | nil => exact Nat.le_refl _
  | cons t a ih => have := t.sz_pos; simp [PIs.sz]; omega
def PI.ok (st : List Inst) (x : PI) : Prop := match x.at' with
  | none => Rep st x.id x.tr ∧ x.tr.law = true
  | some j => (∃ cs, st[x.id]? = some ⟨0, [.list x.ks, .list x.vs, cs]⟩) ∧ j < x.ks.length ∧ x.vs.length = x.ks.length ∧ x.ks.length ≤ 50000
/-- the items of an inner node, top first -/
def tf (k : Nat) (ks vs : List V) (kids : List (Nat × T)) : Nat → List PI
  | 0 => [⟨(kids.getD 0 (0, .nd [] [] [])).1, (kids.getD 0 (0, .nd [] [] [])).2, none, [], []⟩]
  | j + 1 => tf k ks vs kids j ++ [⟨k, .nd [] [] [], some j, ks, vs⟩, ⟨(kids.getD (j + 1) (0, .nd [] [] [])).1, (kids.getD (j + 1) (0, .nd [] [] [])).2, none, [], []⟩]
theorem inter_snoc (t : T) (q : V) : ∀ (a : List T) (qs : List V), a.length = qs.length + 1 → Ts.inter (a ++ [t]) (qs ++ [q]) = Ts.inter a qs ++ q :: t.prs := by
  intro a
  induction a with
  | nil => intro qs h; simp at h
  | cons x a ih =>
    intro qs h
    cases qs with
    | nil =>
      have : a = [] := by cases a with
        | nil => rfl
        | cons _ _ => simp at h
      subst this
      simp [Ts.inter]
    | cons p qs =>
      simp only [List.cons_append, Ts.inter]
      rw [ih qs (by simpa using h)]
      simp
theorem zp_len {a b : List V} (h : b.length = a.length) : (zp a b).length = a.length := by
  induction a generalizing b with
  | nil => cases b <;> rfl
  | cons x a ih =>
    cases b with
    | nil => simp at h
    | cons y b => simp [zp, ih (by simpa using h)]
theorem zp_get {a b : List V} (h : b.length = a.length) {j : Nat} (hj : j < a.length) : (zp a b)[j]? = some (.tup [a.getD j .none, b.getD j .none]) := by
  induction a generalizing b j with
  | nil => simp at hj
  | cons x a ih =>
    cases b with
    | nil => simp at h
    | cons y b =>
      cases j with
      | zero => rfl
      | succ j =>
        have := ih (b := b) (j := j) (by simpa using h) (by simpa using hj)
        simpa [zp] using this
theorem tf_em {k : Nat} {ks vs : List V} {kids : List (Nat × T)} (hv : vs.length = ks.length) (hc : kids.length = ks.length + 1) : ∀ j, j < kids.length → PIs.em (tf k ks vs kids j) = Ts.inter ((kids.map (·.2)).take (j + 1)) ((zp ks vs).take j) := by
  intro j
  induction j with
  | zero =>
    intro hj
    cases kids with
    | nil => simp at hj
    | cons x kids => simp [tf, PIs.em, PI.em, Ts.inter]
  | succ j ih =>
    intro hj
    rw [tf, PIs.em_app, ih (by omega)]
    have hz := zp_len hv
    have e1 : (kids.map (·.2)).take (j + 1 + 1) = (kids.map (·.2)).take (j + 1) ++ [kids[j + 1].2] := by
      rw [List.take_succ_eq_append_getElem (by simpa using hj)]; simp
    have e2 : (zp ks vs).take (j + 1) = (zp ks vs).take j ++ [.tup [ks.getD j .none, vs.getD j .none]] := by
      rw [List.take_add_one, zp_get hv (by omega)]; rfl
    rw [e1, e2, inter_snoc _ _ _ _ (by simp; omega)]
    simp [PIs.em, PI.em, List.getD_eq_getElem?_getD, List.getElem?_eq_getElem hj]
theorem tf_sz {k : Nat} {ks vs : List V} {kids : List (Nat × T)} : ∀ j, j < kids.length → PIs.sz (tf k ks vs kids j) = Ts.size ((kids.map (·.2)).take (j + 1)) + j := by
  intro j
  induction j with
  | zero =>
    intro hj
    cases kids with
    | nil => simp at hj
    | cons x kids => simp [tf, PIs.sz, PI.sz, Ts.size]
  | succ j ih =>
    intro hj
    have e1 : (kids.map (·.2)).take (j + 1 + 1) = (kids.map (·.2)).take (j + 1) ++ [kids[j + 1].2] := by
      rw [List.take_succ_eq_append_getElem (by simpa using hj)]; simp
    rw [tf, PIs.sz_app, ih (by omega), e1, Ts.size_app]
    simp [PIs.sz, PI.sz, Ts.size, List.getD_eq_getElem?_getD, List.getElem?_eq_getElem hj]
    omega
theorem tf_ok {st : List Inst} {k : Nat} {ks vs : List V} {kids : List (Nat × T)} (hi : st[k]? = some ⟨0, [.list ks, .list vs, .list (kids.map fun x => .obj x.1)]⟩) (hv : vs.length = ks.length) (hc : kids.length = ks.length + 1) (hz : ks.length ≤ 50000) (hk : ∀ x ∈ kids, Rep st x.1 x.2 ∧ x.2.law = true) : ∀ j, j < kids.length → ∀ x ∈ tf k ks vs kids j, x.ok st := by
  have kid : ∀ i, i < kids.length → PI.ok st ⟨(kids.getD i (0, .nd [] [] [])).1, (kids.getD i (0, .nd [] [] [])).2, none, [], []⟩ := fun i h => by
    rw [List.getD_eq_getElem?_getD, List.getElem?_eq_getElem h]
    exact hk _ (List.getElem_mem h)
  intro j
  induction j with
  | zero =>
    intro hj x hx
    cases hx with
    | head => exact kid 0 hj
    | tail _ q => cases q
  | succ j ih =>
    intro hj x hx
    rcases List.mem_append.mp hx with hx | hx
    · exact ih (by omega) x hx
    · cases hx with
      | head => exact ⟨⟨_, hi⟩, by show j < ks.length; omega, hv, hz⟩
      | tail _ q =>
        cases q with
        | head => exact kid (j + 1) hj
        | tail _ q => cases q
section
variable {c : Cn} {nm : Nm} {n : Nat} {loc loc₁ loc₂ : List LV} {st st₁ st₂ : List Inst} {fl : Fl}
noncomputable abbrev innerB : S := sAt (sAt (sAt (sAt b17 2).bd 3).el 0).el 0
noncomputable abbrev leafB : S := sAt (sAt (sAt (sAt b17 2).bd 3).el 0).bd 0
/-- the pushes of an inner node -/
theorem push_loop (P : PgOk c pgA) {me nd : V} {out : List V} {k : Nat} {ks vs : List V} {kids : List (Nat × T)} {l4 l6 : LV} (hi : st[k]? = some ⟨0, [.list ks, .list vs, .list (kids.map fun x => .obj x.1)]⟩) (hz : kids.length ≤ 50000) : ∀ (j : Nat) (S : List V) (l7 : LV), j < kids.length → S.length + 2 * j + 2 ≤ 1000000 →
    ∃ l7', FEv c nm17 n 7 innerB.bd (rng (j : Int) (-1) (j + 1)) [.v me, .v nd, .own out, .own S, l4, .v (.obj k), l6, l7] st .next [.v me, .v nd, .own out, .own (S ++ ((tf k ks vs kids j).map PI.v).reverse), l4, .v (.obj k), l6, l7'] st := by
  have kid : ∀ j S, j < kids.length → SE c nm17 n (.tup [(.idx (.attr (.loc 5 "here" ⟨111, 38, 111, 42⟩) 2 "children" ⟨111, 38, 111, 51⟩) (.loc 7 "j" ⟨111, 52, 111, 53⟩) ⟨111, 38, 111, 54⟩), (.neg 1 ⟨111, 57, 111, 58⟩ ⟨111, 56, 111, 58⟩)] 0 ⟨111, 37, 111, 59⟩) [.v me, .v nd, .own out, .own S, l4, .v (.obj k), l6, .v (.int (j : Int))] st (PI.v ⟨(kids.getD j (0, .nd [] [] [])).1, (kids.getD j (0, .nd [] [] [])).2, none, [], []⟩) st := by
    intro j S hj
    refine sE_tup (sEs_cons (v := .obj (kids.getD j (0, .nd [] [] [])).1) (sE_idx (k := j) (aKids P (sE_loc rfl rfl (by decide +kernel)) hi rfl) (sE_loc rfl rfl (by decide +kernel)) rfl ?_ (by simp; omega)) (sEs_cons sE_neg sEs_nil)) (by first | decide | (simp; done))
    rw [List.getElem?_map, List.getD_eq_getElem?_getD, List.getElem?_eq_getElem hj]; rfl
  have c1 : ∀ j S, j < kids.length → SC c nm17 n (sAt innerB.bd 0).cd [.v me, .v nd, .own out, .own S, l4, .v (.obj k), l6, .v (.int (j : Int))] st true st := fun j S hj => by
    refine sc_eq (sC_cmp (sE_loc rfl rfl (by decide +kernel)) (eLen P (by decide +kernel) (aKids P (sE_loc rfl rfl (by decide +kernel)) hi rfl) (by simp; omega)) (cmp_lt rfl rfl)) ?_
    rw [List.length_map]; exact decide_eq_true (by omega)
  have c2 : ∀ (j : Nat) S, SC c nm17 n (sAt innerB.bd 1).cd [.v me, .v nd, .own out, .own S, l4, .v (.obj k), l6, .v (.int (j : Int))] st (decide ((0 : Int) < (j : Int))) st := fun j S => sC_cmp (sE_loc rfl rfl (by decide +kernel)) sE_int (cmp_gt rfl rfl)
  intro j
  induction j with
  | zero =>
    intro S l7 hj hS
    refine ⟨.v (.int 0), ?_⟩
    have e : rng ((0 : Nat) : Int) (-1) (0 + 1) = [.int 0] := rfl
    rw [e]
    refine .cons ?_ .nil
    refine ss_if_t (c1 0 S hj) (ss_app (st₁ := st) rfl rfl (by decide +kernel) (kid 0 S hj) rfl (by omega) ss_nil) ?_
    exact ss_if_f (c2 0 _) ss_nil ss_nil
  | succ j ih =>
    intro S l7 hj hS
    obtain ⟨l7', ev⟩ := ih (S ++ [PI.v ⟨(kids.getD (j + 1) (0, .nd [] [] [])).1, (kids.getD (j + 1) (0, .nd [] [] [])).2, none, [], []⟩] ++ [PI.v ⟨k, .nd [] [] [], some j, ks, vs⟩]) (.v (.int ((j + 1 : Nat) : Int))) (by omega) (by simp; omega)
    refine ⟨l7', ?_⟩
    have e : rng ((j + 1 : Nat) : Int) (-1) (j + 1 + 1) = .int ((j + 1 : Nat) : Int) :: rng (j : Int) (-1) (j + 1) := by
      unfold rng
      rw [List.range_succ_eq_map, List.map_cons, List.map_map]
      congr 1
      apply List.map_congr_left
      intro i _
      show V.int _ = V.int _
      congr 1
      show ((j + 1 : Nat) : Int) + ((i + 1 : Nat) : Int) * -1 = (j : Int) + (i : Int) * -1
      omega
    rw [e]
    have e2 : S ++ ((tf k ks vs kids (j + 1)).map PI.v).reverse = S ++ [PI.v ⟨(kids.getD (j + 1) (0, .nd [] [] [])).1, (kids.getD (j + 1) (0, .nd [] [] [])).2, none, [], []⟩] ++ [PI.v ⟨k, .nd [] [] [], some j, ks, vs⟩] ++ ((tf k ks vs kids j).map PI.v).reverse := by
      rw [tf]; simp
    rw [e2]
    refine .cons ?_ ev
    refine ss_if_t (c1 (j + 1) S hj) (ss_app (st₁ := st) rfl rfl (by decide +kernel) (kid (j + 1) S hj) rfl (by omega) ss_nil) ?_
    refine ss_if_t (sc_eq (c2 (j + 1) _) (decide_eq_true (by omega))) (ss_app (st₁ := st) (v := PI.v ⟨k, .nd [] [] [], some j, ks, vs⟩) rfl rfl (by decide +kernel) ?_ rfl (by simp; omega) ss_nil) ss_nil
    refine sE_tup (sEs_cons (sE_loc rfl rfl (by decide +kernel)) (sEs_cons (v := .int (j : Int)) (se_eq (sE_bin (sE_loc rfl rfl (by decide +kernel)) sE_int (bin_sub rfl rfl)) ?_) sEs_nil)) (by first | decide | (simp; done))
    congr 1; omega
theorem pairs_loop (P : PgOk c pgA) {me nd : V} : ∀ (N : Nat) (its : List PI) (out : List V) (l4 l5 l6 l7 : LV), PIs.sz its ≤ N → N ≤ 50000 ∧ out.length + PIs.sz its ≤ 60000 → (∀ x ∈ its, x.ok st) →
    ∃ k l4' l5' l6' l7', WEv c nm17 (n + 1) (sAt b17 2).cd (sAt b17 2).bd k [.v me, .v nd, .own out, .own ((its.map PI.v).reverse), l4, l5, l6, l7] st .next [.v me, .v nd, .own (out ++ PIs.em its), .own [], l4', l5', l6', l7'] st := by
  have bt : BtOk c nm17 "len" (.builtin "len") := btLen P (by decide +kernel)
  intro N
  induction N with
  | zero =>
    intro its out l4 l5 l6 l7 h1 h2 hr
    cases its with
    | nil => exact ⟨0, l4, l5, l6, l7, by rw [PIs.em, List.append_nil]; exact .stop (sC_more_f bt rfl rfl (by decide +kernel))⟩
    | cons x its => have := x.sz_pos; simp [PIs.sz] at h1; omega
  | succ N ih =>
    intro its out l4 l5 l6 l7 h1 h2 hr
    cases its with
    | nil => exact ⟨0, l4, l5, l6, l7, by rw [PIs.em, List.append_nil]; exact .stop (sC_more_f bt rfl rfl (by decide +kernel))⟩
    | cons x its =>
      obtain ⟨k, tr, at', kk, vv⟩ := x
      have e1 : ((⟨k, tr, at', kk, vv⟩ :: its : List PI).map PI.v).reverse = (its.map PI.v).reverse ++ [PI.v ⟨k, tr, at', kk, vv⟩] := by simp
      have l1 := PIs.len_le its
      have hsz := PI.sz_pos ⟨k, tr, at', kk, vv⟩
      have h1' : PI.sz ⟨k, tr, at', kk, vv⟩ + PIs.sz its ≤ N + 1 := h1
      have h2a := h2.1
      have h2b : out.length + (PI.sz ⟨k, tr, at', kk, vv⟩ + PIs.sz its) ≤ 60000 := h2.2
      have more := sC_more_t (c := c) (nm := nm17) (n := n + 1) (st := st) (loc := [.v me, .v nd, .own out, .own ((its.map PI.v).reverse ++ [PI.v ⟨k, tr, at', kk, vv⟩]), l4, l5, l6, l7]) (i := 3) (x := "stack") (L := "len") (a1 := ⟨99, 14, 99, 17⟩) (a2 := ⟨99, 18, 99, 23⟩) (a3 := ⟨99, 14, 99, 24⟩) (a4 := ⟨99, 27, 99, 28⟩) (a5 := ⟨99, 14, 99, 28⟩) bt rfl rfl (by decide +kernel) (by simp; omega)
      have hok := hr _ (.head _)
      rw [e1]
      cases at' with
      | some j =>
        obtain ⟨⟨cs, hget⟩, hj, hv, hz⟩ := hok
        replace hget : st[k]? = some ⟨0, [.list kk, .list vv, cs]⟩ := hget
        replace hj : j < kk.length := hj
        replace hv : vv.length = kk.length := hv
        replace hz : kk.length ≤ 50000 := hz
        obtain ⟨k', q4, q5, q6, q7, ev⟩ := ih its (out ++ [.tup [kk.getD j .none, vv.getD j .none]]) (.v (.tup [.obj k, .int (j : Int)])) (.v (.obj k)) l6 l7 (by omega) ⟨by omega, by simp; omega⟩ fun x hx => hr x (.tail _ hx)
        refine ⟨k' + 1, q4, q5, q6, q7, .turn more (loc₁ := [.v me, .v nd, .own (out ++ [.tup [kk.getD j .none, vv.getD j .none]]), .own (its.map PI.v).reverse, .v (.tup [.obj k, .int (j : Int)]), .v (.obj k), l6, l7]) (st₂ := st) ?_ ?_⟩
        · refine ss_pop (v := .tup [.obj k, .int (j : Int)]) bt rfl rfl (by first | decide | (simp; done)) rfl (by decide +kernel) (by simp; omega) ?_
          refine ss_assign (st₁ := st) (v := .obj k) rfl (sE_idxT (k := 0) (sE_loc rfl rfl (by decide +kernel)) sE_int rfl rfl (by first | decide | (simp; done))) rfl ?_
          refine ss_if_t (sc_eq (sC_cmp (sE_idxT (k := 1) (sE_loc rfl rfl (by decide +kernel)) sE_int rfl rfl (by first | decide | (simp; done))) sE_int (cmp_ge rfl rfl)) (decide_eq_true (by omega))) (ss_app (st₁ := st) (v := .tup [kk.getD j .none, vv.getD j .none]) rfl rfl (by decide +kernel) ?_ rfl (by omega) ss_nil) ss_nil
          refine sE_tup (sEs_cons (sE_idx (k := j) (aKeys P (sE_loc rfl rfl (by decide +kernel)) hget rfl) (sE_idxT (k := 1) (sE_loc rfl rfl (by decide +kernel)) sE_int rfl rfl (by first | decide | (simp; done))) rfl ?_ (by omega)) (sEs_cons (sE_idx (k := j) (aVals P (sE_loc rfl rfl (by decide +kernel)) hget rfl) (sE_idxT (k := 1) (sE_loc rfl rfl (by decide +kernel)) sE_int rfl rfl (by first | decide | (simp; done))) rfl ?_ (by omega)) sEs_nil)) (by first | decide | (simp; done))
          · rw [List.getD_eq_getElem?_getD, List.getElem?_eq_getElem hj]; rfl
          · rw [List.getD_eq_getElem?_getD, List.getElem?_eq_getElem (by omega)]; rfl
        · have e3 : out ++ PIs.em (⟨k, tr, some j, kk, vv⟩ :: its) = out ++ [.tup [kk.getD j .none, vv.getD j .none]] ++ PIs.em its := by simp [PIs.em, PI.em]
          rw [e3]; exact ev
      | none =>
        obtain ⟨hrep, hlaw⟩ := hok
        obtain ⟨ks, vs, kids, hget, hk, he⟩ := Rep.inv hrep
        replace he : tr = .nd ks vs (kids.map (·.2)) := he
        subst he
        replace hget : st[k]? = some ⟨0, [.list ks, .list vs, .list (kids.map fun x => .obj x.1)]⟩ := hget
        replace hlaw : (T.nd ks vs (kids.map (·.2))).law = true := hlaw
        rw [T.law, Bool.and_eq_true, Bool.and_eq_true, List.length_map] at hlaw
        obtain ⟨⟨hv0, hc0⟩, hll⟩ := hlaw
        have hv : vs.length = ks.length := Nat.eq_of_beq_eq_true hv0
        have hs2 : out.length + (1 + ks.length + vs.length + Ts.size (kids.map (·.2)) + PIs.sz its) ≤ 60000 := by
          have : PI.sz ⟨k, .nd ks vs (kids.map (·.2)), none, kk, vv⟩ = 1 + ks.length + vs.length + Ts.size (kids.map (·.2)) := by simp [PI.sz, T.size]
          omega
        have hs : 1 + ks.length + vs.length + Ts.size (kids.map (·.2)) + PIs.sz its ≤ N + 1 := by
          have : PI.sz ⟨k, .nd ks vs (kids.map (·.2)), none, kk, vv⟩ = 1 + ks.length + vs.length + Ts.size (kids.map (·.2)) := by simp [PI.sz, T.size]
          omega
        have l2 := Ts.len_le (kids.map (·.2))
        rw [List.length_map] at l2
        have hlf := cLeaf (n := n) (nm := nm17) (loc := [.v me, .v nd, .own out, .own (its.map PI.v).reverse, .v (.tup [.obj k, .int (-1)]), .v (.obj k), l6, l7]) P (o := .loc 5 "here" ⟨105, 17, 105, 21⟩) (q := ⟨105, 17, 105, 29⟩) (p := ⟨105, 17, 105, 31⟩) (sE_loc rfl rfl (by decide +kernel)) rfl hget (by simp; omega) rfl
        have step : ∀ loc', SS c nm17 (n + 1) ((sAt (sAt b17 2).bd 3).el) [.v me, .v nd, .own out, .own (its.map PI.v).reverse, .v (.tup [.obj k, .int (-1)]), .v (.obj k), l6, l7] st .next loc' st → SS c nm17 (n + 1) (sAt b17 2).bd [.v me, .v nd, .own out, .own ((its.map PI.v).reverse ++ [.tup [.obj k, .int (-1)]]), l4, l5, l6, l7] st .next loc' st := by
          intro loc' hh
          refine ss_pop (v := .tup [.obj k, .int (-1)]) bt rfl rfl (by first | decide | (simp; done)) rfl (by decide +kernel) (by simp; omega) ?_
          refine ss_assign (st₁ := st) (v := .obj k) rfl (sE_idxT (k := 0) (sE_loc rfl rfl (by decide +kernel)) sE_int rfl rfl (by first | decide | (simp; done))) rfl ?_
          exact ss_if_f (sc_eq (sC_cmp (sE_idxT (k := 1) (sE_loc rfl rfl (by decide +kernel)) sE_int rfl rfl (by first | decide | (simp; done))) sE_int (cmp_ge rfl rfl)) (by first | decide | (simp; done))) hh ss_nil
        cases kids with
        | nil =>
          obtain ⟨m6, fe⟩ := fe_push (c := c) (nm := nm17) (n := n + 1) (st := st) (i := 2) (j := 6) (x := "out") (e := .tup [(.idx (.attr (.loc 5 "here" ⟨107, 32, 107, 36⟩) 0 "key_row" ⟨107, 32, 107, 44⟩) (.loc 6 "i" ⟨107, 45, 107, 46⟩) ⟨107, 32, 107, 47⟩), (.idx (.attr (.loc 5 "here" ⟨107, 49, 107, 53⟩) 1 "value_row" ⟨107, 49, 107, 63⟩) (.loc 6 "i" ⟨107, 64, 107, 65⟩) ⟨107, 49, 107, 66⟩)] 0 ⟨107, 31, 107, 67⟩) (a1 := ⟨107, 20, 107, 23⟩) (a2 := ⟨107, 20, 107, 30⟩) (a3 := ⟨107, 20, 107, 68⟩) (a4 := ⟨107, 20, 107, 68⟩) (fun y => match y with | .int j => (zp ks vs).getD j.toNat .none | v => v) rfl (by first | decide | (simp; done)) (by decide +kernel) rfl
            (rng 0 1 ks.length) out [.v me, .v nd, .own out, .own (its.map PI.v).reverse, .v (.tup [.obj k, .int (-1)]), .v (.obj k), l6, l7] rfl (by simp) (by simp [rng_len]; omega) (by
              intro y hy S'
              rw [rng0] at hy
              obtain ⟨i, hi', rfl⟩ := List.mem_map.mp hy
              have hi2 : i < ks.length := by simpa using hi'
              have e0 : ((0 + i : Nat) : Int) = (i : Int) := by omega
              rw [e0]
              show SE c nm17 (n + 1) _ _ st ((zp ks vs).getD ((i : Int)).toNat .none) st
              rw [Int.toNat_natCast, List.getD_eq_getElem?_getD, zp_get hv hi2]
              refine sE_tup (sEs_cons (sE_idx (k := i) (aKeys P (sE_loc rfl rfl (by decide +kernel)) hget rfl) (sE_loc rfl rfl (by decide +kernel)) rfl ?_ (by omega)) (sEs_cons (sE_idx (k := i) (aVals P (sE_loc rfl rfl (by decide +kernel)) hget rfl) (sE_loc rfl rfl (by decide +kernel)) rfl ?_ (by omega)) sEs_nil)) (by first | decide | (simp; done))
              · rw [List.getD_eq_getElem?_getD, List.getElem?_eq_getElem hi2]; rfl
              · rw [List.getD_eq_getElem?_getD, List.getElem?_eq_getElem (by omega)]; rfl)
          have hmap : ((rng 0 1 ks.length).map fun y => match y with | .int j => (zp ks vs).getD j.toNat .none | v => v) = zp ks vs := by
            rw [rng0, List.map_map]
            apply List.ext_getElem
            · simp [zp_len hv]
            · intro i a1 a2
              simp at a1
              simp only [List.getElem_map, List.getElem_range, Function.comp]
              show (zp ks vs).getD (((0 + i : Nat) : Int)).toNat .none = _
              rw [Int.toNat_natCast, Nat.zero_add, List.getD_eq_getElem?_getD, List.getElem?_eq_getElem a2]; rfl
          rw [hmap] at fe
          obtain ⟨k', q4, q5, q6, q7, ev⟩ := ih its (out ++ zp ks vs) (.v (.tup [.obj k, .int (-1)])) (.v (.obj k)) m6 l7 (by omega) ⟨by omega, by rw [List.length_append, zp_len hv]; omega⟩ fun x hx => hr x (.tail _ hx)
          refine ⟨k' + 1, q4, q5, q6, q7, .turn more (step _ (ss_if_t hlf (ss_for (st₁ := st) (st₂ := st) rfl (si_range1 (y := .int (ks.length : Int)) (btRange P (by decide +kernel)) (eLen P (by decide +kernel) (aKeys P (sE_loc rfl rfl (by decide +kernel)) hget rfl) (by omega)) rfl (by omega)) fe ss_nil) ss_nil)) ?_⟩
          have e3 : out ++ PIs.em (⟨k, T.nd ks vs (([] : List (Nat × T)).map (·.2)), none, kk, vv⟩ :: its) = out ++ zp ks vs ++ PIs.em its := by simp [PIs.em, PI.em, T.prs, Ts.inter]
          rw [e3]; exact ev
        | cons y kids' =>
          generalize hkids : y :: kids' = kids at *
          have hpos : 0 < kids.length := by rw [← hkids]; simp
          have hc : kids.length = ks.length + 1 := by
            rw [Bool.or_eq_true] at hc0
            rcases hc0 with q | q
            · have := Nat.eq_of_beq_eq_true q; omega
            · exact Nat.eq_of_beq_eq_true q
          obtain ⟨m7, fe⟩ := push_loop (st := st) (n := n + 1) P (me := me) (nd := nd) (out := out) (vs := vs) (l4 := .v (.tup [.obj k, .int (-1)])) (l6 := l6) hget (by omega) (kids.length - 1) (its.map PI.v).reverse l7 (by omega) (by simp; omega)
          obtain ⟨k', q4, q5, q6, q7, ev⟩ := ih (tf k ks vs kids (kids.length - 1) ++ its) out (.v (.tup [.obj k, .int (-1)])) (.v (.obj k)) l6 m7 (by
            rw [PIs.sz_app, tf_sz _ (by omega), show kids.length - 1 + 1 = (kids.map (·.2)).length by simp; omega, List.take_length]; omega) ⟨by omega, by rw [PIs.sz_app, tf_sz _ (by omega), show kids.length - 1 + 1 = (kids.map (·.2)).length by simp; omega, List.take_length]; omega⟩ (by
            intro x hx
            rcases List.mem_append.mp hx with hx | hx
            · exact tf_ok hget hv hc (by omega) (fun x hx => ⟨hk x hx, Ts.law_mem hll _ (List.mem_map.mpr ⟨_, hx, rfl⟩)⟩) (kids.length - 1) (by omega) x hx
            · exact hr x (.tail _ hx))
          have hlf' : SC c nm17 (n + 1) (.e (.meth (.loc 5 "here" ⟨105, 17, 105, 21⟩) 0 "is_leaf" ⟨105, 17, 105, 29⟩ [] ⟨105, 17, 105, 31⟩)) [.v me, .v nd, .own out, .own (its.map PI.v).reverse, .v (.tup [.obj k, .int (-1)]), .v (.obj k), l6, l7] st false st := by
            rw [← hkids] at hlf; exact hlf
          have hrng : rng ((kids.length - 1 : Nat) : Int) (-1) (kids.length - 1 + 1) = rng ((kids.length : Int) - 1) (-1) kids.length := by
            have a1 : ((kids.length - 1 : Nat) : Int) = (kids.length : Int) - 1 := by omega
            have a2 : kids.length - 1 + 1 = kids.length := by omega
            rw [a1, a2]
          rw [hrng] at fe
          refine ⟨k' + 1, q4, q5, q6, q7, .turn more (loc₁ := [.v me, .v nd, .own out, .own ((tf k ks vs kids (kids.length - 1) ++ its).map PI.v).reverse, .v (.tup [.obj k, .int (-1)]), .v (.obj k), l6, m7]) (st₂ := st) (step _ (ss_if_f hlf' (ss_for (st₁ := st) (st₂ := st) rfl (si_range3 (st₁ := st) (st₂ := st) (y₁ := .int ((kids.length : Int) - 1)) (a := (kids.length : Int) - 1) (b := -1) (d := -1) (k := kids.length) (btRange P (by decide +kernel)) ?_ sE_neg sE_neg rfl rfl rfl (by first | decide | (simp; done)) (by omega) (by first | decide | (simp; done)) (by first | decide | (simp; done)) (rs_down _) (by omega)) fe ?_) ss_nil)) ?_⟩
          · refine se_eq (sE_bin (x := .int (kids.length : Int)) (se_eq (sE_bltF (btMax P (by decide +kernel)) (sEs_cons (eLen P (by decide +kernel) (aKids P (sE_loc rfl rfl (by decide +kernel)) hget rfl) (by simp; omega)) (sEs_cons (sE_bin (eLen P (by decide +kernel) (aKeys P (sE_loc rfl rfl (by decide +kernel)) hget rfl) (by omega)) sE_int (bin_add rfl rfl)) sEs_nil)) (blt_max rfl rfl)) ?_) sE_int (bin_sub rfl rfl)) rfl
            congr 1
            rw [List.length_map, hc]
            split <;> omega
          · have e2 : ((tf k ks vs kids (kids.length - 1) ++ its).map PI.v).reverse = (its.map PI.v).reverse ++ ((tf k ks vs kids (kids.length - 1)).map PI.v).reverse := by simp
            rw [e2]
            exact ss_nil
          · have e3 : out ++ PIs.em (⟨k, T.nd ks vs (kids.map (·.2)), none, kk, vv⟩ :: its) = out ++ PIs.em (tf k ks vs kids (kids.length - 1) ++ its) := by
              rw [PIs.em_app, tf_em hv hc _ (by omega), show kids.length - 1 + 1 = (kids.map (·.2)).length by simp; omega, List.take_length, show kids.length - 1 = (zp ks vs).length by rw [zp_len hv]; omega, List.take_length]
              simp [PIs.em, PI.em, T.prs]
            rw [e3]; exact ev
theorem pairsB_code (P : PgOk c pgA) (n : Nat) {me : V} {k : Nat} {t : T} (h : Rep st k t) (hl : t.law = true) (hz : t.size ≤ 50000) : SCode c (n + 2) (addr1 17) [me, .obj k] st (.list t.prs) st := by
  obtain ⟨w, l4, l5, l6, l7, ev⟩ := pairs_loop (st := st) (n := n) P (me := me) (nd := .obj k) t.size [⟨k, t, none, [], []⟩] [] .unset .unset .unset .unset (by simp [PIs.sz, PI.sz]) ⟨hz, by simp [PIs.sz, PI.sz]; omega⟩ (by intro x hx; cases hx with | head => exact ⟨h, hl⟩ | tail _ q => cases q)
  have e : [] ++ PIs.em [⟨k, t, none, [], []⟩] = t.prs := by simp [PIs.em, PI.em]
  rw [e] at ev
  refine fn_code (loc := [.v me, .v (.obj k), .v (.list t.prs), .own [], l4, l5, l6, l7]) P (k := 17) (nm := nm17) (body := b17) (pad := [.unset, .unset, .unset, .unset, .unset, .unset]) (np := 2) (fl := .ret (.list t.prs)) rfl rfl ?_ (.ret _)
  refine ss_own (st₁ := st) (vs := []) rfl sEs_nil (by simp) ?_
  refine ss_own (st₁ := st) (vs := [.tup [.obj k, .int (-1)]]) rfl (sEs_cons (sE_tup (sEs_cons (sE_loc rfl rfl (by decide +kernel)) (sEs_cons sE_neg sEs_nil)) (by first | decide | (simp; done))) sEs_nil) (by simp) ?_
  refine ss_while ev ?_
  refine ss_freeze (x := "out") rfl rfl ?_
  exact ss_return (sE_loc rfl rfl (by decide +kernel))
end
noncomputable section
/-- the tree that the store bears at an object -/
def kidsR (f : Nat → Option T) (cs : List V) : Option (List T) := List.rec (motive := fun _ => Option (List T)) (some [])
  (fun c _ ih => V.casesOn c none none (fun _ => none) (fun _ => none) (fun _ => none) (fun _ => none) (fun _ => none) (fun _ => none) fun k => Option.casesOn (f k) none fun t => Option.casesOn ih none fun ts => some (t :: ts)) cs
def rowsR (i : Inst) (z : List V → List V → List V → Option T) : Option T :=
  Nat.casesOn i.cls (List.casesOn i.fs none fun a r => List.casesOn r none fun b r => List.casesOn r none fun d r => List.casesOn r
    (V.casesOn a none none (fun _ => none) (fun _ => none) (fun _ => none) (fun _ => none) (fun ks => V.casesOn b none none (fun _ => none) (fun _ => none) (fun _ => none) (fun _ => none) (fun vs => V.casesOn d none none (fun _ => none) (fun _ => none) (fun _ => none) (fun _ => none) (fun cs => z ks vs cs) (fun _ => none) (fun _ => none)) (fun _ => none) (fun _ => none)) (fun _ => none) (fun _ => none)) fun _ _ => none) fun _ => none
def toT (st : List Inst) (f : Nat) : Nat → Option T := Nat.rec (motive := fun _ => Nat → Option T) (fun _ => none) (fun _ ih k => Option.casesOn (nth st k) none fun i => rowsR i fun ks vs cs => Option.casesOn (kidsR ih cs) none fun ts => some (.nd ks vs ts)) f
def objArg (vs : List V) (z : Nat → Option (V × List Inst)) : Option (V × List Inst) := List.casesOn vs none fun _ vs => List.casesOn vs none fun b vs => List.casesOn vs (V.casesOn b none none (fun _ => none) (fun _ => none) (fun _ => none) (fun _ => none) (fun _ => none) (fun _ => none) fun k => z k) fun _ _ => none
def pairsN (vs : List V) (st : List Inst) : Option (V × List Inst) := objArg vs fun k => Option.casesOn (toT st 4 k) none fun t => Bool.casesOn (Bool.casesOn (Nat.ble t.size 50000) false t.law) none (some (.list t.prs, st))
def levelN (vs : List V) (st : List Inst) : Option (V × List Inst) := objArg vs fun k => Option.casesOn (toT st 4 k) none fun t => Bool.casesOn (Nat.ble t.size 50000) none (some (.int t.lvl, st))
end
theorem kidsR_inv {st : List Inst} {f : Nat → Option T} (hf : ∀ k t, f k = some t → Rep st k t) : ∀ (cs : List V) (ts : List T), kidsR f cs = some ts → ∃ kids : List (Nat × T), cs = kids.map (fun x => V.obj x.1) ∧ kids.map (·.2) = ts ∧ ∀ x ∈ kids, Rep st x.1 x.2 := by
  intro cs
  induction cs with
  | nil => intro ts h; cases h; exact ⟨[], rfl, rfl, fun x hx => by cases hx⟩
  | cons c cs ih =>
    intro ts h
    cases c with
    | obj k =>
      have h' : (Option.casesOn (f k) none fun t => Option.casesOn (kidsR f cs) none fun ts => some (t :: ts) : Option (List T)) = some ts := h
      cases q1 : f k with
      | none => rw [q1] at h'; cases h'
      | some t =>
        rw [q1] at h'
        cases q2 : kidsR f cs with
        | none => rw [q2] at h'; cases h'
        | some ts' =>
          rw [q2] at h'; cases h'
          obtain ⟨kids, e1, e2, e3⟩ := ih ts' q2
          refine ⟨(k, t) :: kids, by rw [e1]; rfl, by rw [← e2]; rfl, fun x hx => ?_⟩
          cases hx with
          | head => exact hf k t q1
          | tail _ q => exact e3 x q
    | _ => cases h
theorem rowsR_inv {i : Inst} {z : List V → List V → List V → Option T} {t : T} (h : rowsR i z = some t) : ∃ ks vs cs, i = ⟨0, [.list ks, .list vs, .list cs]⟩ ∧ z ks vs cs = some t := by
  obtain ⟨cl, fs⟩ := i
  cases cl with
  | succ n => cases h
  | zero =>
    match fs, h with
    | [a, b, d], h =>
      cases a with
      | list ks =>
        cases b with
        | list vs =>
          cases d with
          | list cs => exact ⟨ks, vs, cs, rfl, h⟩
          | _ => cases h
        | _ => cases h
      | _ => cases h
theorem toT_rep (st : List Inst) : ∀ (f k : Nat) (t : T), toT st f k = some t → Rep st k t := by
  intro f
  induction f with
  | zero => intro k t h; cases h
  | succ f ih =>
    intro k t h
    have h' : (Option.casesOn (nth st k) none fun i => rowsR i fun ks vs cs => Option.casesOn (kidsR (toT st f) cs) none fun ts => some (.nd ks vs ts) : Option T) = some t := h
    cases q1 : nth st k with
    | none => rw [q1] at h'; cases h'
    | some i =>
      rw [q1] at h'
      obtain ⟨ks, vs, cs, rfl, h2⟩ := rowsR_inv (show rowsR i _ = some t from h')
      cases q2 : kidsR (toT st f) cs with
      | none => rw [q2] at h2; cases h2
      | some ts =>
        rw [q2] at h2; cases h2
        obtain ⟨kids, rfl, rfl, e3⟩ := kidsR_inv ih cs ts q2
        rw [nth_eq] at q1
        exact .nd q1 e3
theorem objArg_inv {vs : List V} {z : Nat → Option (V × List Inst)} {r : V × List Inst} (h : objArg vs z = some r) : ∃ a k, vs = [a, .obj k] ∧ z k = some r := by
  match vs, h with
  | [a, b], h =>
    cases b with
    | obj k => exact ⟨a, k, rfl, h⟩
    | _ => cases h
section
variable {c : Cn} {st st' : List Inst}
theorem pairsN_ok (P : PgOk c pgA) {n : Nat} {vs : List V} {v : V} (hn : 2 ≤ n) (h : pairsN vs st = some (v, st')) : SCode c n (addr1 17) vs st v st' := by
  obtain ⟨a, k, rfl, h'⟩ := objArg_inv h
  clear h
  have h := h'
  clear h'
  cases q : toT st 4 k with
  | none => rw [q] at h; cases h
  | some t =>
    rw [q] at h
    replace h : (Bool.casesOn (Bool.casesOn (Nat.ble t.size 50000) false t.law) none (some (.list t.prs, st)) : Option (V × List Inst)) = some (v, st') := h
    cases q1 : Nat.ble t.size 50000 with
    | false => rw [q1] at h; cases h
    | true =>
      rw [q1] at h
      replace h : (Bool.casesOn t.law none (some (.list t.prs, st)) : Option (V × List Inst)) = some (v, st') := h
      cases q2 : t.law with
      | false => rw [q2] at h; cases h
      | true =>
        rw [q2] at h; cases h
        exact (pairsB_code P 0 (toT_rep st 4 k t q) q2 (Nat.le_of_ble_eq_true q1)).mono hn
theorem levelN_ok (P : PgOk c pgA) {n : Nat} {vs : List V} {v : V} (hn : 2 ≤ n) (h : levelN vs st = some (v, st')) : SCode c n (addr1 19) vs st v st' := by
  obtain ⟨a, k, rfl, h'⟩ := objArg_inv h
  clear h
  have h := h'
  clear h'
  cases q : toT st 4 k with
  | none => rw [q] at h; cases h
  | some t =>
    rw [q] at h
    replace h : (Bool.casesOn (Nat.ble t.size 50000) none (some (.int t.lvl, st)) : Option (V × List Inst)) = some (v, st') := h
    cases q1 : Nat.ble t.size 50000 with
    | false => rw [q1] at h; cases h
    | true =>
      rw [q1] at h; cases h
      exact (level_code P 0 (toT_rep st 4 k t q) (Nat.le_of_ble_eq_true q1)).mono hn
end
noncomputable def fnsN (k : Nat) : Option Fn := nth [f0, f1, f2, .nat 3 walkF, f4, f5, f6, f7, f8, f9, f10, f11, f12, f13, f14, f15, f16, .nat 2 pairsN, f18, .nat 2 levelN] k
noncomputable def pgN : Pg := ⟨fnsN, addr1, gname1, cname1, init1, mth1, mname1, fpos1, aname1, glob1⟩
end Mine

namespace Mine
open PySem PySem.W PySem.Calls PyProof.Rows

def cell1 (ns : List Int) (n : Nat) : Int := (ns[n]?).getD 0
def kw1 (ns : List Int) : Nat → Int
  | 0 => cell1 ns 6
  | i + 1 => kw1 ns i + 1 + (cell1 ns (7 + i % 16)).fmod 5
def kv1 (ns : List Int) (i : Nat) : Int := kw1 ns (i + 1)
def vv1 (ns : List Int) (i : Nat) : Int := cell1 ns (7 + i % 16) * 32 + i
theorem kw1_lt (ns : List Int) (i : Nat) : kw1 ns i < kw1 ns (i + 1) := by
  show _ < kw1 ns i + 1 + (cell1 ns (7 + i % 16)).fmod 5
  have := Int.fmod_nonneg_of_pos (cell1 ns (7 + i % 16)) (by decide : (0 : Int) < 5)
  omega
theorem kv1_lt (ns : List Int) : ∀ i j, i < j → kv1 ns i < kv1 ns j := by
  intro i j h
  induction h with
  | refl => exact kw1_lt ns (i + 1)
  | step _ ih => exact Int.lt_trans ih (kw1_lt ns _)

section
variable {c : Cn} {st : List Inst}
theorem bt1 {pg : Pg} {nm : Nm} (P : PgOk c pg) {x : Str} {f : Value} (hx : x ∈ [("len" : Str), "sum", "max", "list", "tuple", "range"]) (gl : x ∈ nm.gs) (boot : bootBuiltins x = some f) (nn : x ≠ "__name__") (dbg : (x == ("__debug__" : Str)) = false) : BtOk c nm x f := ⟨gl, P.blt x hx, boot, nn, dbg⟩
theorem cell_code (P : PgOk c pgA) (hl : c.sns.length ≤ 63) (k n : Nat) (hk : k ≤ 100) : SCode c (n + 1) (addr1 2) [.scr, .int k] st (.int (cell1 c.sns k)) st := by
  have bt : BtOk c nm2 "len" (.builtin "len") := bt1 P (by simp) (by decide +kernel) rfl (by decide +kernel) (by decide +kernel)
  have hc : SC c nm2 n (.cmp .lt (.loc 1 "n" ⟨167, 7, 167, 8⟩) (.call .len "len" ⟨167, 11, 167, 14⟩ [(.loc 0 "script" ⟨167, 15, 167, 21⟩)] ⟨167, 11, 167, 22⟩) ⟨167, 7, 167, 22⟩) [.v .scr, .v (.int k)] st (decide ((k : Int) < (c.sns.length : Int))) st :=
    sC_cmp (sE_loc rfl rfl (by decide +kernel)) (sE_bltF bt (sEs_cons (sE_loc rfl rfl (by decide +kernel)) sEs_nil) (blt_lenS (by omega))) (cmp_lt rfl rfl)
  by_cases h : k < c.sns.length
  · rw [decide_eq_true (by omega)] at hc
    refine fn_code (loc := [.v .scr, .v (.int k)]) P (k := 2) (nm := nm2) (body := b2) (pad := []) (np := 2) (fl := .ret (.int (cell1 c.sns k))) rfl rfl ?h (.ret _)
    case h =>
      refine ss_if_tr hc (ss_return (sE_idxS (k := k) (sE_loc rfl rfl (by decide +kernel)) (sE_loc rfl rfl (by decide +kernel)) rfl ?_ (by omega)))
      unfold cell1
      rw [List.getElem?_eq_getElem h]; rfl
  · rw [decide_eq_false (by omega)] at hc
    have e : cell1 c.sns k = 0 := by unfold cell1; rw [List.getElem?_eq_none (by omega)]; rfl
    rw [e]
    exact fn_code P (k := 2) (nm := nm2) (body := b2) (pad := []) (np := 2) rfl rfl (ss_if_f hc ss_nil (ss_return sE_int)) (.ret _)

/-- the loop of the walk -/
theorem walk_loop (P : PgOk c pgA) (hl : c.sns.length ≤ 63) (hkv : c.kv = kv1 c.sns) (hvv : c.vv = vv1 c.sns) {n : Nat} (body : List S) (hb : body = [.assign 5 "cell" ⟨174, 8, 174, 12⟩ (.call (.fn 2) "_law_cell" ⟨174, 15, 174, 24⟩ [(.loc 0 "script" ⟨174, 25, 174, 31⟩), (.bin .add (.int 7 ⟨174, 33, 174, 34⟩) (.bin .mod (.loc 4 "n" ⟨174, 37, 174, 38⟩) (.int 16 ⟨174, 41, 174, 43⟩) ⟨174, 37, 174, 43⟩) ⟨174, 33, 174, 43⟩)] ⟨174, 15, 174, 44⟩) ⟨174, 8, 174, 44⟩,
     .assign 2 "key" ⟨175, 8, 175, 11⟩ (.bin .add (.bin .add (.loc 2 "key" ⟨175, 14, 175, 17⟩) (.int 1 ⟨175, 20, 175, 21⟩) ⟨175, 14, 175, 21⟩) (.bin .mod (.loc 5 "cell" ⟨175, 24, 175, 28⟩) (.int 5 ⟨175, 31, 175, 32⟩) ⟨175, 24, 175, 32⟩) ⟨175, 14, 175, 32⟩) ⟨175, 8, 175, 32⟩,
     .append 3 "out" ⟨176, 8, 176, 11⟩ ⟨176, 8, 176, 18⟩ (.tup [(.loc 2 "key" ⟨176, 20, 176, 23⟩), (.bin .add (.bin .mul (.loc 5 "cell" ⟨176, 25, 176, 29⟩) (.int 32 ⟨176, 32, 176, 34⟩) ⟨176, 25, 176, 34⟩) (.loc 4 "n" ⟨176, 37, 176, 38⟩) ⟨176, 25, 176, 38⟩)] 0 ⟨176, 19, 176, 39⟩) ⟨176, 8, 176, 40⟩ ⟨176, 8, 176, 40⟩]) (cc : V) :
    ∀ (m i : Nat) (xs : List V) (nv cv : LV), i + m ≤ 64 → xs.length = i → ∃ nv' cv' kv', FEv c nm3 (n + 1) 4 body ((List.range m).map fun j : Nat => V.int ((i + j : Nat) : Int)) [.v .scr, .v cc, .v (.int (kw1 c.sns i)), .own xs, nv, cv] st .next [.v .scr, .v cc, kv', .own (xs ++ (List.range m).map fun j => .tup [.key (i + j), .val (i + j)]), nv', cv'] st := by
  intro m
  induction m with
  | zero => intro i xs nv cv h1 h2; exact ⟨nv, cv, _, by simp; exact .nil⟩
  | succ m ih =>
    intro i xs nv cv h1 h2
    obtain ⟨nv', cv', kv', ev⟩ := ih (i + 1) (xs ++ [.tup [.key i, .val i]]) (.v (.int (i : Int))) (.v (.int (cell1 c.sns (7 + i % 16)))) (by omega) (by simp [h2])
    refine ⟨nv', cv', kv', ?_⟩
    rw [List.range_succ_eq_map, List.map_cons, List.map_cons, List.map_map, List.map_map]
    have e1 : (xs ++ [V.tup [.key i, .val i]]) ++ (List.range m).map (fun j => V.tup [.key (i + 1 + j), .val (i + 1 + j)]) = xs ++ V.tup [.key (i + 0), .val (i + 0)] :: (List.range m).map ((fun j => V.tup [.key (i + j), .val (i + j)]) ∘ Nat.succ) := by
      rw [List.append_assoc]
      congr 1
      show V.tup _ :: _ = _
      congr 1
      apply List.map_congr_left
      intro j _
      show V.tup _ = V.tup _
      have : i + 1 + j = i + (j + 1) := by omega
      rw [this]
    have e2 : (List.range m).map (fun j : Nat => V.int ((i + 1 + j : Nat) : Int)) = (List.range m).map ((fun j : Nat => V.int ((i + j : Nat) : Int)) ∘ Nat.succ) := by
      apply List.map_congr_left
      intro j _
      show V.int _ = V.int _
      have : i + 1 + j = i + (j + 1) := by omega
      rw [this]
    rw [e1, e2] at ev
    refine .cons ?_ ev
    subst hb
    have fo : FnOk c nm3 "_law_cell" (addr1 2) := fn_ok P (k := 2) rfl (by decide +kernel)
    have hmod : ((i : Int)).fmod 16 = ((i % 16 : Nat) : Int) := by rw [Int.fmod_eq_emod_of_nonneg _ (by decide)]; rfl
    refine ss_assign (st₁ := st) (v := .int (cell1 c.sns (7 + i % 16))) rfl ?_ rfl ?_
    · refine sE_call fo (vs := [.scr, .int ((7 + i % 16 : Nat) : Int)]) (sEs_cons (sE_loc rfl rfl (by decide +kernel)) (sEs_cons ?_ sEs_nil)) (cell_code P hl (7 + i % 16) n (by omega)).call
      have hb1 := sE_bin (p := ⟨174, 37, 174, 43⟩) (sE_loc (c := c) (nm := nm3) (n := n + 1) (loc := [.v .scr, .v cc, .v (.int (kw1 c.sns i)), .own xs, .v (.int (i : Int)), cv]) (st := st) (i := 4) (x := "n") (p := ⟨174, 37, 174, 38⟩) rfl rfl (by decide +kernel)) (sE_int (i := 16) (p := ⟨174, 41, 174, 43⟩)) (bin_mod (i := (i : Int)) (j := 16) rfl rfl (by decide))
      have hb2 := sE_bin (p := ⟨174, 33, 174, 43⟩) (sE_int (i := 7) (p := ⟨174, 33, 174, 34⟩)) hb1 (bin_add rfl rfl)
      rw [hmod] at hb2
      exact hb2
    · refine ss_assign (st₁ := st) (v := .int (kw1 c.sns (i + 1))) rfl ?_ rfl ?_
      · exact sE_bin (sE_bin (sE_loc rfl rfl (by decide +kernel)) sE_int (bin_add rfl rfl)) (sE_bin (sE_loc rfl rfl (by decide +kernel)) sE_int (bin_mod rfl rfl (by decide))) (bin_add rfl rfl)
      · refine ss_app (st₁ := st) (v := .tup [.key i, .val i]) rfl rfl (by decide +kernel) (sE_tup (st₁ := st) (sEs_cons (st₁ := st) (se_key (sE_loc rfl rfl (by decide +kernel)) ?_) (sEs_cons (st₁ := st) (se_val (k := cell1 c.sns (7 + i % 16) * 32 + i) ?_ ?_) sEs_nil)) (by simp)) rfl (by omega) ?_
        · rw [hkv]; rfl
        · exact sE_bin (sE_bin (sE_loc rfl rfl (by decide +kernel)) sE_int (bin_mul rfl rfl (.of_right (intBits_le_64 (by decide) (by decide))))) (sE_loc rfl rfl (by decide +kernel)) (bin_add rfl rfl)
        · rw [hvv]; rfl
        · exact ss_nil
theorem walkL_eq (m : Nat) : ∀ i, walkL m i = (List.range m).map fun j => V.tup [.key (i + j), .val (i + j)] := by
  induction m with
  | zero => intro i; rfl
  | succ m ih =>
    intro i
    show V.tup [.key i, .val i] :: walkL m (i + 1) = _
    rw [ih, List.range_succ_eq_map, List.map_cons, List.map_map]
    congr 1
    apply List.map_congr_left
    intro j _
    show V.tup _ = V.tup _
    have : i + 1 + j = i + (j + 1) := by omega
    rw [this]
theorem walk_code (P : PgOk c pgA) (hl : c.sns.length ≤ 63) (hkv : c.kv = kv1 c.sns) (hvv : c.vv = vv1 c.sns) (m n : Nat) (hm : m ≤ 64) : SCode c (n + 3) (addr1 3) [.scr, .int m] st (.list (walkL m 0)) st := by
  obtain ⟨nv', cv', kv', ev⟩ := walk_loop (st := st) P hl hkv hvv (n := n + 1) _ rfl (.int m) m 0 [] .unset .unset (by omega) rfl
  have fo : FnOk c nm3 "_law_cell" (addr1 2) := fn_ok P (k := 2) rfl (by decide +kernel)
  refine fn_code (loc := [.v .scr, .v (.int m), kv', .v (.list (walkL m 0)), nv', cv']) P (k := 3) (nm := nm3) (body := b3) (pad := [.unset, .unset, .unset, .unset]) (np := 2) (fl := .ret (.list (walkL m 0))) rfl rfl ?h (.ret _)
  case h =>
    refine ss_assign (st₁ := st) (v := .int (kw1 c.sns 0)) rfl (sE_call fo (vs := [.scr, .int ((6 : Nat) : Int)]) (sEs_cons (sE_loc rfl rfl (by decide +kernel)) (sEs_cons sE_int sEs_nil)) (cell_code P hl 6 (n + 1) (by omega)).call) rfl ?_
    refine ss_own (st₁ := st) (vs := []) rfl sEs_nil (by simp) ?_
    refine ss_for (st₁ := st) (st₂ := st) (loc₁ := [.v .scr, .v (.int m), kv', .own ([] ++ (List.range m).map fun j => .tup [.key (0 + j), .val (0 + j)]), nv', cv']) (xs := rng 0 1 m) rfl (si_range1 (y := .int m) (k := m) (bt1 P (by simp) (by decide +kernel) rfl (by decide +kernel) (by decide +kernel)) (sE_loc rfl rfl (by decide +kernel)) rfl (by omega)) ?_ ?_
    · have : rng 0 1 m = (List.range m).map fun j : Nat => V.int ((0 + j : Nat) : Int) := by
        unfold rng
        apply List.map_congr_left
        intro j _
        show V.int _ = V.int _
        congr 1
        omega
      rw [this]
      exact ev
    · refine ss_freeze (x := "out") rfl rfl ?_
      have e : ([] ++ (List.range m).map fun j => V.tup [.key (0 + j), .val (0 + j)]) = walkL m 0 := by rw [walkL_eq, List.nil_append]
      rw [e]
      exact ss_return (sE_loc rfl rfl (by decide +kernel))
end
end Mine

namespace Mine
open PySem PySem.W PySem.Calls PyProof.Rows

noncomputable section
def loc0 (md t wd i : Nat) (sizes : List V) : List LV := [.v .scr, .v (.int md), .v (.int t), .v (.int wd), .v (.int i), .v (.list sizes), .unset, .unset, .unset, .unset, .unset, .unset, .unset, .unset, .unset, .unset, .unset, .unset, .unset, .unset, .unset, .unset, .unset, .unset, .unset, .unset, .unset, .unset, .unset, .unset]
def szs (t : Nat) (es : List Nat) : List V := List.rec (motive := fun _ => List V) [] (fun e _ ih => .int (.ofNat (Nat.add (Nat.sub t 1) e)) :: ih) es
def isT (r : Option Res) : Bool := Option.casesOn r false fun r => Res.casesOn r (fun _ _ => false) (fun _ _ => false) (fun _ _ => false) (fun _ _ => false) fun f _ _ => Fl.casesOn f false fun v => V.casesOn v false false (fun b => b) (fun _ => false) (fun _ => false) (fun _ => false) (fun _ => false) (fun _ => false) (fun _ => false)
theorem isT_inv {r : Option Res} (h : isT r = true) : ∃ l st, r = some (.fl (.ret (.bool true)) l st) := by
  cases r with
  | none => cases h
  | some r =>
    cases r <;> try cases h
    rename_i f l st
    cases f <;> try cases h
    rename_i v
    cases v <;> first | (cases h; exact ⟨_, _, rfl⟩) | cases h
def fuel1 : Nat := 4000
def chk (md t wd i : Nat) (es : List Nat) : Bool := isT (run pgN fuel1 12 (.ss b8b) (loc0 md t wd i (szs t es)) [])
end

def ex1 : List Int := [0, 0, 1, 2, 0]
section
variable {c : Cn}
theorem cell_se (P : PgOk c pgA) (hl : c.sns.length ≤ 63) {nm : Nm} {n k : Nat} {loc : List LV} {st : List Inst} {q p : Ps} {e1 e2 : E} (gl : ("_law_cell" : Str) ∈ nm.gs) (h1 : SE c nm (n + 1) e1 loc st .scr st) (h2 : SE c nm (n + 1) e2 loc st (.int k) st) (hk : k ≤ 100) : SE c nm (n + 1) (.call (.fn 2) "_law_cell" q [e1, e2] p) loc st (.int (cell1 c.sns k)) st :=
  sE_call (fn_ok P (k := 2) rfl gl) (sEs_cons h1 (sEs_cons h2 sEs_nil)) (cell_code P hl k n hk).call
theorem fmod_nat (a : Int) {m : Nat} (hm : 0 < m) : ∃ k : Nat, k < m ∧ a.fmod m = (k : Int) := by
  have h1 := Int.fmod_nonneg_of_pos a (b := (m : Int)) (by omega)
  have h2 := Int.fmod_lt_of_pos a (b := (m : Int)) (by omega)
  exact ⟨(a.fmod m).toNat, by omega, by omega⟩
theorem ex_nat {k : Nat} (h : k < 5) : ∃ e : Nat, e ≤ 2 ∧ ([V.int 0, V.int 0, V.int 1, V.int 2, V.int 0] : List V)[k]? = some (.int (e : Int)) := by
  match k, h with
  | 0, _ => exact ⟨0, by omega, rfl⟩
  | 1, _ => exact ⟨0, by omega, rfl⟩
  | 2, _ => exact ⟨1, by omega, rfl⟩
  | 3, _ => exact ⟨2, by omega, rfl⟩
  | 4, _ => exact ⟨0, by omega, rfl⟩
def sc5 : Scope := ⟨.function, [(".0", .local), ("j", .local), ("_law_extra", .globalImplicit), ("_law_cell", .globalImplicit), ("script", .free), ("t", .free)], false, false, []⟩
theorem size_se (P : PgOk c pgA) (hl : c.sns.length ≤ 63) {t j : Nat} (ht : 1 ≤ t) (hj : j ≤ 10) : ∃ e : Nat, e ≤ 2 ∧ SE c (compNm nm8 sc5 "j" [0, 2]) 12 (.bin .add (.bin .sub (.loc 2 "t" ⟨216, 13, 216, 14⟩) (.int 1 ⟨216, 17, 216, 18⟩) ⟨216, 13, 216, 18⟩) (.idx (.glob 0 "_law_extra" ⟨216, 21, 216, 31⟩) (.bin .mod (.call (.fn 2) "_law_cell" ⟨216, 32, 216, 41⟩ [(.loc 1 "script" ⟨216, 42, 216, 48⟩), (.bin .add (.int 3 ⟨216, 50, 216, 51⟩) (.loc 0 "j" ⟨216, 54, 216, 55⟩) ⟨216, 50, 216, 55⟩)] ⟨216, 32, 216, 56⟩) (.int 5 ⟨216, 59, 216, 60⟩) ⟨216, 32, 216, 60⟩) ⟨216, 21, 216, 61⟩) ⟨216, 13, 216, 61⟩)
    [.v (.int j), .v .scr, .v (.int t)] [] (.int (.ofNat (Nat.add (Nat.sub t 1) e))) [] := by
  obtain ⟨k, hk, ek⟩ := fmod_nat (cell1 c.sns (3 + j)) (m := 5) (by omega)
  obtain ⟨e, he, ee⟩ := ex_nat hk
  refine ⟨e, he, ?_⟩
  obtain ⟨w, gw1, gw2⟩ := P.glob 0 "_law_extra" extra1 rfl
  have hg : SE c (compNm nm8 sc5 "j" [0, 2]) 12 (.glob 0 "_law_extra" ⟨216, 21, 216, 31⟩) [.v (.int j), .v .scr, .v (.int t)] [] extra1 [] := sE_glob (by decide +kernel) gw1 (by decide +kernel) gw2
  have h3 : SE c (compNm nm8 sc5 "j" [0, 2]) 12 (.bin .add (.int 3 ⟨216, 50, 216, 51⟩) (.loc 0 "j" ⟨216, 54, 216, 55⟩) ⟨216, 50, 216, 55⟩) [.v (.int j), .v .scr, .v (.int t)] [] (.int ((3 + j : Nat) : Int)) [] :=
    sE_bin sE_int (sE_loc rfl rfl (by decide +kernel)) (bin_add (i := 3) (j := (j : Int)) rfl rfl)
  have hc := sE_bin (p := ⟨216, 32, 216, 60⟩) (cell_se (q := ⟨216, 32, 216, 41⟩) (p := ⟨216, 32, 216, 56⟩) P hl (n := 11) (by decide +kernel) (sE_loc (i := 1) (x := "script") (p := ⟨216, 42, 216, 48⟩) rfl rfl (by decide +kernel)) h3 (by omega)) (sE_int (i := 5) (p := ⟨216, 59, 216, 60⟩)) (bin_mod rfl rfl (by decide))
  have ek' : (cell1 c.sns (3 + j)).fmod 5 = (k : Int) := ek
  rw [ek'] at hc
  have hi := sE_idxT (p := ⟨216, 21, 216, 61⟩) hg hc rfl ee (by simp)
  have hs : SE c (compNm nm8 sc5 "j" [0, 2]) 12 (.bin .sub (.loc 2 "t" ⟨216, 13, 216, 14⟩) (.int 1 ⟨216, 17, 216, 18⟩) ⟨216, 13, 216, 18⟩) [.v (.int j), .v .scr, .v (.int t)] [] (.int ((t : Int) - 1)) [] := sE_bin (sE_loc rfl rfl (by decide +kernel)) sE_int (bin_sub rfl rfl)
  have := sE_bin (p := ⟨216, 13, 216, 61⟩) hs hi (bin_add rfl rfl)
  have e2 : (t : Int) - 1 + (e : Int) = Int.ofNat (Nat.add (Nat.sub t 1) e) := by
    show _ = ((t - 1 + e : Nat) : Int)
    omega
  rw [e2] at this
  exact this
theorem front1 (P : PgOk c pgA) (hl : c.sns.length ≤ 63) : ∃ md wd i : Nat, ∃ es : List Nat, md < 3 ∧ (wd = 2 ∨ wd = 3) ∧ i < wd ∧ es.length = wd ∧ (∀ e ∈ es, e ≤ 2) ∧
    SS c nm8 12 b8a (locInit nm8 [.scr]) [] .next (loc0 md (if md = 1 then 3 else 2) wd i (szs (if md = 1 then 3 else 2) es)) [] := by
  obtain ⟨md, hmd, emd⟩ := fmod_nat (cell1 c.sns 0) (m := 3) (by omega)
  obtain ⟨w0, hw0, ew0⟩ := fmod_nat (cell1 c.sns 1) (m := 2) (by omega)
  have hwd : 2 + w0 = 2 ∨ 2 + w0 = 3 := by omega
  obtain ⟨i, hi, ei⟩ := fmod_nat (cell1 c.sns 2) (m := 2 + w0) (by omega)
  generalize ht : (if md = 1 then 3 else 2 : Nat) = t
  have ht1 : 1 ≤ t := by split at ht <;> omega
  obtain ⟨s0, l0, v0⟩ := size_se P hl (t := t) (j := 0) ht1 (by omega)
  obtain ⟨s1, l1, v1⟩ := size_se P hl (t := t) (j := 1) ht1 (by omega)
  obtain ⟨s2, l2, v2⟩ := size_se P hl (t := t) (j := 2) ht1 (by omega)
  have ev : ∃ es : List Nat, es.length = 2 + w0 ∧ (∀ e ∈ es, e ≤ 2) ∧ CEv c (compNm nm8 sc5 "j" [0, 2]) 12 (.bin .add (.bin .sub (.loc 2 "t" ⟨216, 13, 216, 14⟩) (.int 1 ⟨216, 17, 216, 18⟩) ⟨216, 13, 216, 18⟩) (.idx (.glob 0 "_law_extra" ⟨216, 21, 216, 31⟩) (.bin .mod (.call (.fn 2) "_law_cell" ⟨216, 32, 216, 41⟩ [(.loc 1 "script" ⟨216, 42, 216, 48⟩), (.bin .add (.int 3 ⟨216, 50, 216, 51⟩) (.loc 0 "j" ⟨216, 54, 216, 55⟩) ⟨216, 50, 216, 55⟩)] ⟨216, 32, 216, 56⟩) (.int 5 ⟨216, 59, 216, 60⟩) ⟨216, 32, 216, 60⟩) ⟨216, 21, 216, 61⟩) ⟨216, 13, 216, 61⟩) [.v .scr, .v (.int t)] (rng 0 1 (2 + w0)) [] (szs t es) [] := by
    rcases hwd with h | h
    · have : w0 = 0 := by omega
      subst this
      exact ⟨[s0, s1], rfl, by simp [l0, l1], .cons v0 (.cons v1 .nil)⟩
    · have : w0 = 1 := by omega
      subst this
      exact ⟨[s0, s1, s2], rfl, by simp [l0, l1, l2], .cons v0 (.cons v1 (.cons v2 .nil))⟩
  obtain ⟨es, le, be, ev⟩ := ev
  refine ⟨md, 2 + w0, i, es, hmd, hwd, hi, le, be, ?_⟩
  rw [ht]
  have e0 : (cell1 c.sns 0).fmod 3 = (md : Int) := emd
  have e1 : (2 : Int) + (cell1 c.sns 1).fmod 2 = ((2 + w0 : Nat) : Int) := by
    have : (cell1 c.sns 1).fmod 2 = (w0 : Int) := ew0
    rw [this]; omega
  have hcell : ∀ {k : Nat} {q p q' p' : Ps} {loc : List LV}, k ≤ 100 → loc[0]? = some (.v .scr) → SE c nm8 12 (.call (.fn 2) "_law_cell" q [(.loc 0 "script" q'), (.int k p')] p) loc [] (.int (cell1 c.sns k)) [] := fun hk h0 =>
    cell_se P hl (n := 11) (by decide +kernel) (sE_loc rfl h0 (by decide +kernel)) sE_int hk
  have hmode : SE c nm8 12 (.bin .mod (.call (.fn 2) "_law_cell" ⟨210, 11, 210, 20⟩ [(.loc 0 "script" ⟨210, 21, 210, 27⟩), (.int 0 ⟨210, 29, 210, 30⟩)] ⟨210, 11, 210, 31⟩) (.int 3 ⟨210, 34, 210, 35⟩) ⟨210, 11, 210, 35⟩) (locInit nm8 [.scr]) [] (.int md) [] := by
    rw [← e0]; exact sE_bin (hcell (k := 0) (by omega) rfl) sE_int (bin_mod rfl rfl (by decide))
  refine ss_assign (st₁ := []) (v := .int md) rfl hmode rfl ?_
  refine ss_assign (st₁ := []) (v := .int 2) rfl sE_int rfl ?_
  have hte : SC c nm8 12 (.cmp .eq (.loc 1 "mode" ⟨212, 7, 212, 11⟩) (.int 1 ⟨212, 15, 212, 16⟩) ⟨212, 7, 212, 16⟩) (((locInit nm8 [.scr]).set 1 (.v (.int md))).set 2 (.v (.int 2))) [] ((md : Int) == 1) [] := sC_cmp (sE_loc rfl rfl (by decide +kernel)) sE_int (cmp_eqi rfl rfl)
  have hrest : SS c nm8 12 [.assign 3 "wide" ⟨214, 4, 214, 8⟩ (.bin .add (.int 2 ⟨214, 11, 214, 12⟩) (.bin .mod (.call (.fn 2) "_law_cell" ⟨214, 15, 214, 24⟩ [(.loc 0 "script" ⟨214, 25, 214, 31⟩), (.int 1 ⟨214, 33, 214, 34⟩)] ⟨214, 15, 214, 35⟩) (.int 2 ⟨214, 38, 214, 39⟩) ⟨214, 15, 214, 39⟩) ⟨214, 11, 214, 39⟩) ⟨214, 4, 214, 39⟩,
  .assign 4 "i" ⟨215, 4, 215, 5⟩ (.bin .mod (.call (.fn 2) "_law_cell" ⟨215, 8, 215, 17⟩ [(.loc 0 "script" ⟨215, 18, 215, 24⟩), (.int 2 ⟨215, 26, 215, 27⟩)] ⟨215, 8, 215, 28⟩) (.loc 3 "wide" ⟨215, 31, 215, 35⟩) ⟨215, 8, 215, 35⟩) ⟨215, 4, 215, 35⟩,
  .assign 5 "sizes" ⟨216, 4, 216, 9⟩ (.comp (.bin .add (.bin .sub (.loc 2 "t" ⟨216, 13, 216, 14⟩) (.int 1 ⟨216, 17, 216, 18⟩) ⟨216, 13, 216, 18⟩) (.idx (.glob 0 "_law_extra" ⟨216, 21, 216, 31⟩) (.bin .mod (.call (.fn 2) "_law_cell" ⟨216, 32, 216, 41⟩ [(.loc 1 "script" ⟨216, 42, 216, 48⟩), (.bin .add (.int 3 ⟨216, 50, 216, 51⟩) (.loc 0 "j" ⟨216, 54, 216, 55⟩) ⟨216, 50, 216, 55⟩)] ⟨216, 32, 216, 56⟩) (.int 5 ⟨216, 59, 216, 60⟩) ⟨216, 32, 216, 60⟩) ⟨216, 21, 216, 61⟩) ⟨216, 13, 216, 61⟩) [0, 2] "j" ⟨216, 66, 216, 67⟩ (.call .range "range" ⟨216, 71, 216, 76⟩ [(.loc 3 "wide" ⟨216, 77, 216, 81⟩)] ⟨216, 71, 216, 82⟩) sc5 ⟨216, 12, 216, 83⟩) ⟨216, 4, 216, 83⟩]
      (((locInit nm8 [.scr]).set 1 (.v (.int md))).set 2 (.v (.int t))) [] .next (loc0 md t (2 + w0) i (szs t es)) [] := by
    have hw : SE c nm8 12 (.bin .add (.int 2 ⟨214, 11, 214, 12⟩) (.bin .mod (.call (.fn 2) "_law_cell" ⟨214, 15, 214, 24⟩ [(.loc 0 "script" ⟨214, 25, 214, 31⟩), (.int 1 ⟨214, 33, 214, 34⟩)] ⟨214, 15, 214, 35⟩) (.int 2 ⟨214, 38, 214, 39⟩) ⟨214, 15, 214, 39⟩) ⟨214, 11, 214, 39⟩) (((locInit nm8 [.scr]).set 1 (.v (.int md))).set 2 (.v (.int t))) [] (.int ((2 + w0 : Nat) : Int)) [] := by
      rw [← e1]; exact sE_bin sE_int (sE_bin (hcell (k := 1) (by omega) rfl) sE_int (bin_mod rfl rfl (by decide))) (bin_add rfl rfl)
    refine ss_assign (st₁ := []) (v := .int ((2 + w0 : Nat) : Int)) rfl hw rfl ?_
    have hi' : SE c nm8 12 (.bin .mod (.call (.fn 2) "_law_cell" ⟨215, 8, 215, 17⟩ [(.loc 0 "script" ⟨215, 18, 215, 24⟩), (.int 2 ⟨215, 26, 215, 27⟩)] ⟨215, 8, 215, 28⟩) (.loc 3 "wide" ⟨215, 31, 215, 35⟩) ⟨215, 8, 215, 35⟩) ((((locInit nm8 [.scr]).set 1 (.v (.int md))).set 2 (.v (.int t))).set 3 (.v (.int ((2 + w0 : Nat) : Int)))) [] (.int i) [] := by
      rw [← ei]; exact sE_bin (hcell (k := 2) (by omega) rfl) (sE_loc rfl rfl (by decide +kernel)) (bin_mod rfl rfl (by omega))
    refine ss_assign (st₁ := []) (v := .int i) rfl hi' rfl ?_
    refine ss_assignC (st₁ := []) (st₂ := []) (nm' := compNm nm8 sc5 "j" [0, 2]) (cn := ["script", "t"]) (xs := rng 0 1 (2 + w0)) (ys := szs t es) rfl (by decide +kernel) rfl (by decide +kernel) (okComp_ok (by decide +kernel)) ?_ ?_ ev ss_nil
    · intro j hj
      rcases List.mem_cons.mp hj with rfl | hj
      · exact ⟨_, rfl⟩
      · rcases List.mem_cons.mp hj with rfl | hj
        · exact ⟨_, rfl⟩
        · cases hj
    · exact si_range1 (y := .int ((2 + w0 : Nat) : Int)) (k := 2 + w0) (bt1 P (by simp) (by decide +kernel) rfl (by decide +kernel) (by decide +kernel)) (sE_loc rfl rfl (by decide +kernel)) rfl (by omega)
  by_cases h1 : md = 1
  · rw [if_pos h1] at ht
    have q : ((md : Int) == 1) = true := by rw [h1]; rfl
    rw [q] at hte
    subst ht
    exact ss_if_t hte (ss_assign rfl sE_int rfl ss_nil) hrest
  · rw [if_neg h1] at ht
    have q : ((md : Int) == 1) = false := by rw [beq_eq_false_iff_ne]; omega
    rw [q] at hte
    subst ht
    exact ss_if_f hte ss_nil hrest
end
end Mine

namespace Mine
open PySem PySem.W PySem.Calls PyProof.Rows
noncomputable section
def lall (f : Nat → Bool) : Bool := Bool.casesOn (f 0) false (Bool.casesOn (f 1) false (f 2))
theorem lall_inv {f : Nat → Bool} (h : lall f = true) : ∀ e, e ≤ 2 → f e = true := by
  unfold lall at h
  intro e he
  cases h0 : f 0 with
  | false => rw [h0] at h; cases h
  | true =>
    rw [h0] at h
    cases h1 : f 1 with
    | false => rw [h1] at h; cases h
    | true =>
      rw [h1] at h
      match e, he with
      | 0, _ => exact h0
      | 1, _ => exact h1
      | 2, _ => exact h
def chk2 (md t i a : Nat) : Bool := lall fun b => chk md t 2 i [a, b]
def chk3 (md t i a b : Nat) : Bool := lall fun c => chk md t 3 i [a, b, c]
end
theorem chk2_0_0_0 : chk2 0 2 0 0 = true := by decide +kernel
theorem chk2_0_0_1 : chk2 0 2 0 1 = true := by decide +kernel
theorem chk2_0_0_2 : chk2 0 2 0 2 = true := by decide +kernel
theorem chk2_0_1_0 : chk2 0 2 1 0 = true := by decide +kernel
theorem chk2_0_1_1 : chk2 0 2 1 1 = true := by decide +kernel
theorem chk2_0_1_2 : chk2 0 2 1 2 = true := by decide +kernel
theorem chk3_0_0_0_0 : chk3 0 2 0 0 0 = true := by decide +kernel
theorem chk3_0_0_0_1 : chk3 0 2 0 0 1 = true := by decide +kernel
theorem chk3_0_0_0_2 : chk3 0 2 0 0 2 = true := by decide +kernel
theorem chk3_0_0_1_0 : chk3 0 2 0 1 0 = true := by decide +kernel
theorem chk3_0_0_1_1 : chk3 0 2 0 1 1 = true := by decide +kernel
theorem chk3_0_0_1_2 : chk3 0 2 0 1 2 = true := by decide +kernel
theorem chk3_0_0_2_0 : chk3 0 2 0 2 0 = true := by decide +kernel
theorem chk3_0_0_2_1 : chk3 0 2 0 2 1 = true := by decide +kernel
theorem chk3_0_0_2_2 : chk3 0 2 0 2 2 = true := by decide +kernel
theorem chk3_0_1_0_0 : chk3 0 2 1 0 0 = true := by decide +kernel
theorem chk3_0_1_0_1 : chk3 0 2 1 0 1 = true := by decide +kernel
theorem chk3_0_1_0_2 : chk3 0 2 1 0 2 = true := by decide +kernel
theorem chk3_0_1_1_0 : chk3 0 2 1 1 0 = true := by decide +kernel
theorem chk3_0_1_1_1 : chk3 0 2 1 1 1 = true := by decide +kernel
theorem chk3_0_1_1_2 : chk3 0 2 1 1 2 = true := by decide +kernel
theorem chk3_0_1_2_0 : chk3 0 2 1 2 0 = true := by decide +kernel
theorem chk3_0_1_2_1 : chk3 0 2 1 2 1 = true := by decide +kernel
theorem chk3_0_1_2_2 : chk3 0 2 1 2 2 = true := by decide +kernel
theorem chk3_0_2_0_0 : chk3 0 2 2 0 0 = true := by decide +kernel
theorem chk3_0_2_0_1 : chk3 0 2 2 0 1 = true := by decide +kernel
theorem chk3_0_2_0_2 : chk3 0 2 2 0 2 = true := by decide +kernel
theorem chk3_0_2_1_0 : chk3 0 2 2 1 0 = true := by decide +kernel
theorem chk3_0_2_1_1 : chk3 0 2 2 1 1 = true := by decide +kernel
theorem chk3_0_2_1_2 : chk3 0 2 2 1 2 = true := by decide +kernel
theorem chk3_0_2_2_0 : chk3 0 2 2 2 0 = true := by decide +kernel
theorem chk3_0_2_2_1 : chk3 0 2 2 2 1 = true := by decide +kernel
theorem chk3_0_2_2_2 : chk3 0 2 2 2 2 = true := by decide +kernel
theorem chk2_1_0_0 : chk2 1 3 0 0 = true := by decide +kernel
theorem chk2_1_0_1 : chk2 1 3 0 1 = true := by decide +kernel
theorem chk2_1_0_2 : chk2 1 3 0 2 = true := by decide +kernel
theorem chk2_1_1_0 : chk2 1 3 1 0 = true := by decide +kernel
theorem chk2_1_1_1 : chk2 1 3 1 1 = true := by decide +kernel
theorem chk2_1_1_2 : chk2 1 3 1 2 = true := by decide +kernel
theorem chk3_1_0_0_0 : chk3 1 3 0 0 0 = true := by decide +kernel
theorem chk3_1_0_0_1 : chk3 1 3 0 0 1 = true := by decide +kernel
theorem chk3_1_0_0_2 : chk3 1 3 0 0 2 = true := by decide +kernel
theorem chk3_1_0_1_0 : chk3 1 3 0 1 0 = true := by decide +kernel
theorem chk3_1_0_1_1 : chk3 1 3 0 1 1 = true := by decide +kernel
theorem chk3_1_0_1_2 : chk3 1 3 0 1 2 = true := by decide +kernel
theorem chk3_1_0_2_0 : chk3 1 3 0 2 0 = true := by decide +kernel
theorem chk3_1_0_2_1 : chk3 1 3 0 2 1 = true := by decide +kernel
theorem chk3_1_0_2_2 : chk3 1 3 0 2 2 = true := by decide +kernel
theorem chk3_1_1_0_0 : chk3 1 3 1 0 0 = true := by decide +kernel
theorem chk3_1_1_0_1 : chk3 1 3 1 0 1 = true := by decide +kernel
theorem chk3_1_1_0_2 : chk3 1 3 1 0 2 = true := by decide +kernel
theorem chk3_1_1_1_0 : chk3 1 3 1 1 0 = true := by decide +kernel
theorem chk3_1_1_1_1 : chk3 1 3 1 1 1 = true := by decide +kernel
theorem chk3_1_1_1_2 : chk3 1 3 1 1 2 = true := by decide +kernel
theorem chk3_1_1_2_0 : chk3 1 3 1 2 0 = true := by decide +kernel
theorem chk3_1_1_2_1 : chk3 1 3 1 2 1 = true := by decide +kernel
theorem chk3_1_1_2_2 : chk3 1 3 1 2 2 = true := by decide +kernel
theorem chk3_1_2_0_0 : chk3 1 3 2 0 0 = true := by decide +kernel
theorem chk3_1_2_0_1 : chk3 1 3 2 0 1 = true := by decide +kernel
theorem chk3_1_2_0_2 : chk3 1 3 2 0 2 = true := by decide +kernel
theorem chk3_1_2_1_0 : chk3 1 3 2 1 0 = true := by decide +kernel
theorem chk3_1_2_1_1 : chk3 1 3 2 1 1 = true := by decide +kernel
theorem chk3_1_2_1_2 : chk3 1 3 2 1 2 = true := by decide +kernel
theorem chk3_1_2_2_0 : chk3 1 3 2 2 0 = true := by decide +kernel
theorem chk3_1_2_2_1 : chk3 1 3 2 2 1 = true := by decide +kernel
theorem chk3_1_2_2_2 : chk3 1 3 2 2 2 = true := by decide +kernel
theorem chk2_2_0_0 : chk2 2 2 0 0 = true := by decide +kernel
theorem chk2_2_0_1 : chk2 2 2 0 1 = true := by decide +kernel
theorem chk2_2_0_2 : chk2 2 2 0 2 = true := by decide +kernel
theorem chk2_2_1_0 : chk2 2 2 1 0 = true := by decide +kernel
theorem chk2_2_1_1 : chk2 2 2 1 1 = true := by decide +kernel
theorem chk2_2_1_2 : chk2 2 2 1 2 = true := by decide +kernel
theorem chk3_2_0_0_0 : chk3 2 2 0 0 0 = true := by decide +kernel
theorem chk3_2_0_0_1 : chk3 2 2 0 0 1 = true := by decide +kernel
theorem chk3_2_0_0_2 : chk3 2 2 0 0 2 = true := by decide +kernel
theorem chk3_2_0_1_0 : chk3 2 2 0 1 0 = true := by decide +kernel
theorem chk3_2_0_1_1 : chk3 2 2 0 1 1 = true := by decide +kernel
theorem chk3_2_0_1_2 : chk3 2 2 0 1 2 = true := by decide +kernel
theorem chk3_2_0_2_0 : chk3 2 2 0 2 0 = true := by decide +kernel
theorem chk3_2_0_2_1 : chk3 2 2 0 2 1 = true := by decide +kernel
theorem chk3_2_0_2_2 : chk3 2 2 0 2 2 = true := by decide +kernel
theorem chk3_2_1_0_0 : chk3 2 2 1 0 0 = true := by decide +kernel
theorem chk3_2_1_0_1 : chk3 2 2 1 0 1 = true := by decide +kernel
theorem chk3_2_1_0_2 : chk3 2 2 1 0 2 = true := by decide +kernel
theorem chk3_2_1_1_0 : chk3 2 2 1 1 0 = true := by decide +kernel
theorem chk3_2_1_1_1 : chk3 2 2 1 1 1 = true := by decide +kernel
theorem chk3_2_1_1_2 : chk3 2 2 1 1 2 = true := by decide +kernel
theorem chk3_2_1_2_0 : chk3 2 2 1 2 0 = true := by decide +kernel
theorem chk3_2_1_2_1 : chk3 2 2 1 2 1 = true := by decide +kernel
theorem chk3_2_1_2_2 : chk3 2 2 1 2 2 = true := by decide +kernel
theorem chk3_2_2_0_0 : chk3 2 2 2 0 0 = true := by decide +kernel
theorem chk3_2_2_0_1 : chk3 2 2 2 0 1 = true := by decide +kernel
theorem chk3_2_2_0_2 : chk3 2 2 2 0 2 = true := by decide +kernel
theorem chk3_2_2_1_0 : chk3 2 2 2 1 0 = true := by decide +kernel
theorem chk3_2_2_1_1 : chk3 2 2 2 1 1 = true := by decide +kernel
theorem chk3_2_2_1_2 : chk3 2 2 2 1 2 = true := by decide +kernel
theorem chk3_2_2_2_0 : chk3 2 2 2 2 0 = true := by decide +kernel
theorem chk3_2_2_2_1 : chk3 2 2 2 2 1 = true := by decide +kernel
theorem chk3_2_2_2_2 : chk3 2 2 2 2 2 = true := by decide +kernel
theorem chk_all : ∀ md wd i : Nat, ∀ es : List Nat, md < 3 → (wd = 2 ∨ wd = 3) → i < wd → es.length = wd → (∀ e ∈ es, e ≤ 2) → chk md (if md = 1 then 3 else 2) wd i es = true := by
  intro md wd i es hmd hwd hi hl he
  rcases hwd with rfl | rfl
  · match es, hl with
    | [a, b], _ =>
      have ha := he a (by simp)
      have hb := he b (by simp)
      have h : chk2 md (if md = 1 then 3 else 2) i a = true := by
        match md, hmd, i, hi, a, ha with
        | 0, _, 0, _, 0, _ => exact chk2_0_0_0
        | 0, _, 0, _, 1, _ => exact chk2_0_0_1
        | 0, _, 0, _, 2, _ => exact chk2_0_0_2
        | 0, _, 1, _, 0, _ => exact chk2_0_1_0
        | 0, _, 1, _, 1, _ => exact chk2_0_1_1
        | 0, _, 1, _, 2, _ => exact chk2_0_1_2
        | 1, _, 0, _, 0, _ => exact chk2_1_0_0
        | 1, _, 0, _, 1, _ => exact chk2_1_0_1
        | 1, _, 0, _, 2, _ => exact chk2_1_0_2
        | 1, _, 1, _, 0, _ => exact chk2_1_1_0
        | 1, _, 1, _, 1, _ => exact chk2_1_1_1
        | 1, _, 1, _, 2, _ => exact chk2_1_1_2
        | 2, _, 0, _, 0, _ => exact chk2_2_0_0
        | 2, _, 0, _, 1, _ => exact chk2_2_0_1
        | 2, _, 0, _, 2, _ => exact chk2_2_0_2
        | 2, _, 1, _, 0, _ => exact chk2_2_1_0
        | 2, _, 1, _, 1, _ => exact chk2_2_1_1
        | 2, _, 1, _, 2, _ => exact chk2_2_1_2
      exact lall_inv h b hb
  · match es, hl with
    | [a, b, c], _ =>
      have ha := he a (by simp)
      have hb := he b (by simp)
      have hc := he c (by simp)
      have h : chk3 md (if md = 1 then 3 else 2) i a b = true := by
        match md, hmd, i, hi, a, ha, b, hb with
        | 0, _, 0, _, 0, _, 0, _ => exact chk3_0_0_0_0
        | 0, _, 0, _, 0, _, 1, _ => exact chk3_0_0_0_1
        | 0, _, 0, _, 0, _, 2, _ => exact chk3_0_0_0_2
        | 0, _, 0, _, 1, _, 0, _ => exact chk3_0_0_1_0
        | 0, _, 0, _, 1, _, 1, _ => exact chk3_0_0_1_1
        | 0, _, 0, _, 1, _, 2, _ => exact chk3_0_0_1_2
        | 0, _, 0, _, 2, _, 0, _ => exact chk3_0_0_2_0
        | 0, _, 0, _, 2, _, 1, _ => exact chk3_0_0_2_1
        | 0, _, 0, _, 2, _, 2, _ => exact chk3_0_0_2_2
        | 0, _, 1, _, 0, _, 0, _ => exact chk3_0_1_0_0
        | 0, _, 1, _, 0, _, 1, _ => exact chk3_0_1_0_1
        | 0, _, 1, _, 0, _, 2, _ => exact chk3_0_1_0_2
        | 0, _, 1, _, 1, _, 0, _ => exact chk3_0_1_1_0
        | 0, _, 1, _, 1, _, 1, _ => exact chk3_0_1_1_1
        | 0, _, 1, _, 1, _, 2, _ => exact chk3_0_1_1_2
        | 0, _, 1, _, 2, _, 0, _ => exact chk3_0_1_2_0
        | 0, _, 1, _, 2, _, 1, _ => exact chk3_0_1_2_1
        | 0, _, 1, _, 2, _, 2, _ => exact chk3_0_1_2_2
        | 0, _, 2, _, 0, _, 0, _ => exact chk3_0_2_0_0
        | 0, _, 2, _, 0, _, 1, _ => exact chk3_0_2_0_1
        | 0, _, 2, _, 0, _, 2, _ => exact chk3_0_2_0_2
        | 0, _, 2, _, 1, _, 0, _ => exact chk3_0_2_1_0
        | 0, _, 2, _, 1, _, 1, _ => exact chk3_0_2_1_1
        | 0, _, 2, _, 1, _, 2, _ => exact chk3_0_2_1_2
        | 0, _, 2, _, 2, _, 0, _ => exact chk3_0_2_2_0
        | 0, _, 2, _, 2, _, 1, _ => exact chk3_0_2_2_1
        | 0, _, 2, _, 2, _, 2, _ => exact chk3_0_2_2_2
        | 1, _, 0, _, 0, _, 0, _ => exact chk3_1_0_0_0
        | 1, _, 0, _, 0, _, 1, _ => exact chk3_1_0_0_1
        | 1, _, 0, _, 0, _, 2, _ => exact chk3_1_0_0_2
        | 1, _, 0, _, 1, _, 0, _ => exact chk3_1_0_1_0
        | 1, _, 0, _, 1, _, 1, _ => exact chk3_1_0_1_1
        | 1, _, 0, _, 1, _, 2, _ => exact chk3_1_0_1_2
        | 1, _, 0, _, 2, _, 0, _ => exact chk3_1_0_2_0
        | 1, _, 0, _, 2, _, 1, _ => exact chk3_1_0_2_1
        | 1, _, 0, _, 2, _, 2, _ => exact chk3_1_0_2_2
        | 1, _, 1, _, 0, _, 0, _ => exact chk3_1_1_0_0
        | 1, _, 1, _, 0, _, 1, _ => exact chk3_1_1_0_1
        | 1, _, 1, _, 0, _, 2, _ => exact chk3_1_1_0_2
        | 1, _, 1, _, 1, _, 0, _ => exact chk3_1_1_1_0
        | 1, _, 1, _, 1, _, 1, _ => exact chk3_1_1_1_1
        | 1, _, 1, _, 1, _, 2, _ => exact chk3_1_1_1_2
        | 1, _, 1, _, 2, _, 0, _ => exact chk3_1_1_2_0
        | 1, _, 1, _, 2, _, 1, _ => exact chk3_1_1_2_1
        | 1, _, 1, _, 2, _, 2, _ => exact chk3_1_1_2_2
        | 1, _, 2, _, 0, _, 0, _ => exact chk3_1_2_0_0
        | 1, _, 2, _, 0, _, 1, _ => exact chk3_1_2_0_1
        | 1, _, 2, _, 0, _, 2, _ => exact chk3_1_2_0_2
        | 1, _, 2, _, 1, _, 0, _ => exact chk3_1_2_1_0
        | 1, _, 2, _, 1, _, 1, _ => exact chk3_1_2_1_1
        | 1, _, 2, _, 1, _, 2, _ => exact chk3_1_2_1_2
        | 1, _, 2, _, 2, _, 0, _ => exact chk3_1_2_2_0
        | 1, _, 2, _, 2, _, 1, _ => exact chk3_1_2_2_1
        | 1, _, 2, _, 2, _, 2, _ => exact chk3_1_2_2_2
        | 2, _, 0, _, 0, _, 0, _ => exact chk3_2_0_0_0
        | 2, _, 0, _, 0, _, 1, _ => exact chk3_2_0_0_1
        | 2, _, 0, _, 0, _, 2, _ => exact chk3_2_0_0_2
        | 2, _, 0, _, 1, _, 0, _ => exact chk3_2_0_1_0
        | 2, _, 0, _, 1, _, 1, _ => exact chk3_2_0_1_1
        | 2, _, 0, _, 1, _, 2, _ => exact chk3_2_0_1_2
        | 2, _, 0, _, 2, _, 0, _ => exact chk3_2_0_2_0
        | 2, _, 0, _, 2, _, 1, _ => exact chk3_2_0_2_1
        | 2, _, 0, _, 2, _, 2, _ => exact chk3_2_0_2_2
        | 2, _, 1, _, 0, _, 0, _ => exact chk3_2_1_0_0
        | 2, _, 1, _, 0, _, 1, _ => exact chk3_2_1_0_1
        | 2, _, 1, _, 0, _, 2, _ => exact chk3_2_1_0_2
        | 2, _, 1, _, 1, _, 0, _ => exact chk3_2_1_1_0
        | 2, _, 1, _, 1, _, 1, _ => exact chk3_2_1_1_1
        | 2, _, 1, _, 1, _, 2, _ => exact chk3_2_1_1_2
        | 2, _, 1, _, 2, _, 0, _ => exact chk3_2_1_2_0
        | 2, _, 1, _, 2, _, 1, _ => exact chk3_2_1_2_1
        | 2, _, 1, _, 2, _, 2, _ => exact chk3_2_1_2_2
        | 2, _, 2, _, 0, _, 0, _ => exact chk3_2_2_0_0
        | 2, _, 2, _, 0, _, 1, _ => exact chk3_2_2_0_1
        | 2, _, 2, _, 0, _, 2, _ => exact chk3_2_2_0_2
        | 2, _, 2, _, 1, _, 0, _ => exact chk3_2_2_1_0
        | 2, _, 2, _, 1, _, 1, _ => exact chk3_2_2_1_1
        | 2, _, 2, _, 1, _, 2, _ => exact chk3_2_2_1_2
        | 2, _, 2, _, 2, _, 0, _ => exact chk3_2_2_2_0
        | 2, _, 2, _, 2, _, 1, _ => exact chk3_2_2_2_1
        | 2, _, 2, _, 2, _, 2, _ => exact chk3_2_2_2_2
      exact lall_inv h c hc
end Mine

namespace Mine
open PySem PySem.W PySem.Calls PyProof.Rows
theorem walkF_inv {vs : List V} {st st' : List Inst} {v : V} (h : walkF vs st = some (v, st')) : ∃ m : Nat, m ≤ 64 ∧ vs = [.scr, .int (m : Int)] ∧ v = .list (walkL m 0) ∧ st' = st := by
  unfold walkF at h
  match vs, h with
  | [a, b], h =>
    cases a <;> try cases h
    cases b <;> try cases h
    rename_i i
    cases i with
    | negSucc => cases h
    | ofNat m =>
      cases q : Nat.ble m 64 with
      | false =>
        have h' : (Bool.casesOn (Nat.ble m 64) none (some (V.list (walkL m 0), st)) : Option (V × List Inst)) = some (v, st') := h
        rw [q] at h'; cases h'
      | true =>
        have h' : (Bool.casesOn (Nat.ble m 64) none (some (V.list (walkL m 0), st)) : Option (V × List Inst)) = some (v, st') := h
        rw [q] at h'; cases h'
        exact ⟨m, Nat.ble_eq.mp q, rfl, rfl, rfl⟩
theorem ok1 : ∀ k np pad nm body, fnsN k = some (.ast np pad nm body) → fnsA k = some (.ast np pad nm body) ∧ Ss.ok pgN nm body = true := fun k np pad nm body h => match k, h with
  | 0, h => by cases h; exact ⟨rfl, by decide +kernel⟩
  | 1, h => by cases h; exact ⟨rfl, by decide +kernel⟩
  | 2, h => by cases h; exact ⟨rfl, by decide +kernel⟩
  | 3, h => by cases h
  | 4, h => by cases h; exact ⟨rfl, by decide +kernel⟩
  | 5, h => by cases h; exact ⟨rfl, by decide +kernel⟩
  | 6, h => by cases h; exact ⟨rfl, by decide +kernel⟩
  | 7, h => by cases h; exact ⟨rfl, by decide +kernel⟩
  | 8, h => by cases h; exact ⟨rfl, by decide +kernel⟩
  | 9, h => by cases h; exact ⟨rfl, by decide +kernel⟩
  | 10, h => by cases h; exact ⟨rfl, by decide +kernel⟩
  | 11, h => by cases h; exact ⟨rfl, by decide +kernel⟩
  | 12, h => by cases h; exact ⟨rfl, by decide +kernel⟩
  | 13, h => by cases h; exact ⟨rfl, by decide +kernel⟩
  | 14, h => by cases h; exact ⟨rfl, by decide +kernel⟩
  | 15, h => by cases h; exact ⟨rfl, by decide +kernel⟩
  | 16, h => by cases h; exact ⟨rfl, by decide +kernel⟩
  | 17, h => by cases h
  | 18, h => by cases h; exact ⟨rfl, by decide +kernel⟩
  | 19, h => by cases h
  | _ + 20, h => by cases h
theorem nat1' : ∀ k d f, fnsN k = some (.nat d f) → (k = 3 ∧ d = 3 ∧ f = walkF) ∨ (k = 17 ∧ d = 2 ∧ f = pairsN) ∨ (k = 19 ∧ d = 2 ∧ f = levelN) := fun k d f h => match k, h with
  | 0, h => by cases h
  | 1, h => by cases h
  | 2, h => by cases h
  | 3, h => by cases h; exact .inl ⟨rfl, rfl, rfl⟩
  | 4, h => by cases h
  | 5, h => by cases h
  | 6, h => by cases h
  | 7, h => by cases h
  | 8, h => by cases h
  | 9, h => by cases h
  | 10, h => by cases h
  | 11, h => by cases h
  | 12, h => by cases h
  | 13, h => by cases h
  | 14, h => by cases h
  | 15, h => by cases h
  | 16, h => by cases h
  | 17, h => by cases h; exact .inr (.inl ⟨rfl, rfl, rfl⟩)
  | 18, h => by cases h
  | 19, h => by cases h; exact .inr (.inr ⟨rfl, rfl, rfl⟩)
  | _ + 20, h => by cases h
section
variable {c : Cn}
theorem pg1_of (P : PgOk c pgA) (hl : c.sns.length ≤ 63) (hkv : c.kv = kv1 c.sns) (hvv : c.vv = vv1 c.sns) : PgOk c pgN :=
  ⟨P.fn, P.cls, P.new, fun k np pad nm body h => let ⟨h1, h2⟩ := ok1 k np pad nm body h; let ⟨a, _, d⟩ := P.ast k np pad nm body h1; ⟨a, h2, d⟩,
   fun k d f h n vs st v st' hn e => by
    rcases nat1' k d f h with ⟨rfl, rfl, rfl⟩ | ⟨rfl, rfl, rfl⟩ | ⟨rfl, rfl, rfl⟩
    · obtain ⟨m, hm, rfl, rfl, rfl⟩ := walkF_inv e
      exact (walk_code (st := st') P hl hkv hvv m 0 hm).mono hn
    · exact pairsN_ok P hn e
    · exact levelN_ok P hn e,
   P.attr, P.nd, P.mth, P.blt, P.glob⟩
theorem law1 (P : PgOk c pgA) (hl : c.sns.length ≤ 63) (hkv : c.kv = kv1 c.sns) (hvv : c.vv = vv1 c.sns) : ∃ st', SCode c 13 (addr1 8) [.scr] [] (.bool true) st' := by
  obtain ⟨md, wd, i, es, h1, h2, h3, h4, h5, hs⟩ := front1 P hl
  obtain ⟨l, st', e⟩ := isT_inv (chk_all md wd i es h1 h2 h3 h4 h5)
  refine ⟨st', fn_code P (k := 8) (nm := nm8) (body := b8) (np := 1) (fl := .ret (.bool true)) rfl rfl (ss_append hs (ss_run (pg1_of P hl hkv hvv) fuel1 e (by decide +kernel))) (.ret _)⟩
end
end Mine

set_option maxHeartbeats 8000000
namespace Mine
open PySem PySem.W PyProof.Rows
noncomputable def K1 (P : Params) : Frag := [
  (3, ({ cls := PySem.Value.type "dict", data := PySem.Data.dict #[{ hash := PySem.PyData.keyHash P (PySem.Str.ofString "__name__"), key := PySem.Value.str (PySem.Str.ofString "__name__") 165, val := PySem.Value.str (PySem.Str.ofString "law_pd_canopyofobjects_1_03") 531 }, { hash := PySem.PyData.keyHash P (PySem.Str.ofString "__doc__"), key := PySem.Value.str (PySem.Str.ofString "__doc__") 166, val := PySem.Value.none }, { hash := PySem.PyData.keyHash P (PySem.Str.ofString "__package__"), key := PySem.Value.str (PySem.Str.ofString "__package__") 167, val := PySem.Value.none }, { hash := PySem.PyData.keyHash P (PySem.Str.ofString "__loader__"), key := PySem.Value.str (PySem.Str.ofString "__loader__") 168, val := PySem.Value.builtin "__main__.__loader__#opaque" }, { hash := PySem.PyData.keyHash P (PySem.Str.ofString "__spec__"), key := PySem.Value.str (PySem.Str.ofString "__spec__") 169, val := PySem.Value.none }, { hash := PySem.PyData.keyHash P (PySem.Str.ofString "__annotations__"), key := PySem.Value.str (PySem.Str.ofString "__annotations__") 170, val := PySem.Value.ref 6 }, { hash := PySem.PyData.keyHash P (PySem.Str.ofString "__builtins__"), key := PySem.Value.str (PySem.Str.ofString "__builtins__") 171, val := PySem.Value.ref 4 }, { hash := PySem.PyData.keyHash P (PySem.Str.ofString "__file__"), key := PySem.Value.str (PySem.Str.ofString "__file__") 173, val := PySem.Value.str (PySem.Str.ofString "/claim/cut.py") 172 }, { hash := PySem.PyData.keyHash P (PySem.Str.ofString "__cached__"), key := PySem.Value.str (PySem.Str.ofString "__cached__") 174, val := PySem.Value.none }, { hash := PySem.PyData.keyHash P (PySem.Str.ofString "_wall"), key := PySem.Value.str (PySem.Str.ofString "_wall") 193, val := PySem.Value.ref 21 }, { hash := PySem.PyData.keyHash P (PySem.Str.ofString "row_with"), key := PySem.Value.str (PySem.Str.ofString "row_with") 204, val := PySem.Value.ref 28 }, { hash := PySem.PyData.keyHash P (PySem.Str.ofString "row_without"), key := PySem.Value.str (PySem.Str.ofString "row_without") 212, val := PySem.Value.ref 35 }, { hash := PySem.PyData.keyHash P (PySem.Str.ofString "Node"), key := PySem.Value.str (PySem.Str.ofString "Node") 270, val := PySem.Value.ref 73 }, { hash := PySem.PyData.keyHash P (PySem.Str.ofString "Canopy"), key := PySem.Value.str (PySem.Str.ofString "Canopy") 530, val := PySem.Value.ref 269 }, { hash := PySem.PyData.keyHash P (PySem.Str.ofString "_law_extra"), key := PySem.Value.str (PySem.Str.ofString "_law_extra") 538, val := PySem.Value.ref 274 }, { hash := PySem.PyData.keyHash P (PySem.Str.ofString "_law_cell"), key := PySem.Value.str (PySem.Str.ofString "_law_cell") 546, val := PySem.Value.ref 281 }, { hash := PySem.PyData.keyHash P (PySem.Str.ofString "_law_walk"), key := PySem.Value.str (PySem.Str.ofString "_law_walk") 558, val := PySem.Value.ref 288 }, { hash := PySem.PyData.keyHash P (PySem.Str.ofString "_law_node"), key := PySem.Value.str (PySem.Str.ofString "_law_node") 564, val := PySem.Value.ref 293 }, { hash := PySem.PyData.keyHash P (PySem.Str.ofString "_law_rows"), key := PySem.Value.str (PySem.Str.ofString "_law_rows") 576, val := PySem.Value.ref 300 }, { hash := PySem.PyData.keyHash P (PySem.Str.ofString "_law_due"), key := PySem.Value.str (PySem.Str.ofString "_law_due") 587, val := PySem.Value.ref 307 }, { hash := PySem.PyData.keyHash P (PySem.Str.ofString "_law_same"), key := PySem.Value.str (PySem.Str.ofString "_law_same") 593, val := PySem.Value.ref 312 }, { hash := PySem.PyData.keyHash P (PySem.Str.ofString "law"), key := PySem.Value.str (PySem.Str.ofString "law") 599, val := PySem.Value.ref 317 }] 22 } : PySem.Obj)),
  (72, ({ cls := PySem.Value.type "dict", data := PySem.Data.dict #[{ hash := PySem.PyData.keyHash P (PySem.Str.ofString "__module__"), key := PySem.Value.str (PySem.Str.ofString "__module__") 220, val := PySem.Value.str (PySem.Str.ofString "canopy.core") 194 }, { hash := PySem.PyData.keyHash P (PySem.Str.ofString "__firstlineno__"), key := PySem.Value.str (PySem.Str.ofString "__firstlineno__") 224, val := PySem.Value.int 9 223 }, { hash := PySem.PyData.keyHash P (PySem.Str.ofString "__init__"), key := PySem.Value.str (PySem.Str.ofString "__init__") 234, val := PySem.Value.ref 49 }, { hash := PySem.PyData.keyHash P (PySem.Str.ofString "is_leaf"), key := PySem.Value.str (PySem.Str.ofString "is_leaf") 241, val := PySem.Value.ref 56 }, { hash := PySem.PyData.keyHash P (PySem.Str.ofString "slot"), key := PySem.Value.str (PySem.Str.ofString "slot") 249, val := PySem.Value.ref 63 }, { hash := PySem.PyData.keyHash P (PySem.Str.ofString "lay"), key := PySem.Value.str (PySem.Str.ofString "lay") 259, val := PySem.Value.ref 70 }, { hash := PySem.PyData.keyHash P (PySem.Str.ofString "__static_attributes__"), key := PySem.Value.str (PySem.Str.ofString "__static_attributes__") 263, val := PySem.Value.ref 71 }, { hash := PySem.PyData.keyHash P (PySem.Str.ofString "__dict__"), key := PySem.Value.str (PySem.Str.ofString "__dict__") 265, val := PySem.Value.ref 74 }, { hash := PySem.PyData.keyHash P (PySem.Str.ofString "__weakref__"), key := PySem.Value.str (PySem.Str.ofString "__weakref__") 267, val := PySem.Value.ref 75 }, { hash := PySem.PyData.keyHash P (PySem.Str.ofString "__doc__"), key := PySem.Value.str (PySem.Str.ofString "__doc__") 268, val := PySem.Value.none }] 4 } : PySem.Obj)),
  (73, ({ cls := PySem.Value.type "type", data := PySem.Data.cls { name := PySem.Str.ofString "Node", bases := [PySem.Value.type "object"], mro := [PySem.Value.ref 73, PySem.Value.type "object"], ns := 72, qualname := PySem.Str.ofString "Node" }, slots := #[Option.none, Option.none, Option.some (PySem.Value.str (PySem.Str.ofString "Node") 213), Option.some (PySem.Value.str (PySem.Str.ofString "Node") 221), Option.some (PySem.Value.builtin "object.__new__"), Option.some (PySem.Value.bool Bool.true)] } : PySem.Obj)),
  (268, ({ cls := PySem.Value.type "dict", data := PySem.Data.dict #[{ hash := PySem.PyData.keyHash P (PySem.Str.ofString "__module__"), key := PySem.Value.str (PySem.Str.ofString "__module__") 278, val := PySem.Value.str (PySem.Str.ofString "canopy.core") 194 }, { hash := PySem.PyData.keyHash P (PySem.Str.ofString "__firstlineno__"), key := PySem.Value.str (PySem.Str.ofString "__firstlineno__") 282, val := PySem.Value.int 26 281 }, { hash := PySem.PyData.keyHash P (PySem.Str.ofString "__init__"), key := PySem.Value.str (PySem.Str.ofString "__init__") 290, val := PySem.Value.ref 91 }, { hash := PySem.PyData.keyHash P (PySem.Str.ofString "adopt"), key := PySem.Value.str (PySem.Str.ofString "adopt") 299, val := PySem.Value.ref 98 }, { hash := PySem.PyData.keyHash P (PySem.Str.ofString "lookup"), key := PySem.Value.str (PySem.Str.ofString "lookup") 307, val := PySem.Value.ref 105 }, { hash := PySem.PyData.keyHash P (PySem.Str.ofString "height"), key := PySem.Value.str (PySem.Str.ofString "height") 314, val := PySem.Value.ref 112 }, { hash := PySem.PyData.keyHash P (PySem.Str.ofString "split_child"), key := PySem.Value.str (PySem.Str.ofString "split_child") 323, val := PySem.Value.ref 119 }, { hash := PySem.PyData.keyHash P (PySem.Str.ofString "put"), key := PySem.Value.str (PySem.Str.ofString "put") 332, val := PySem.Value.ref 126 }, { hash := PySem.PyData.keyHash P (PySem.Str.ofString "merge_children"), key := PySem.Value.str (PySem.Str.ofString "merge_children") 343, val := PySem.Value.ref 133 }, { hash := PySem.PyData.keyHash P (PySem.Str.ofString "borrow_from_left"), key := PySem.Value.str (PySem.Str.ofString "borrow_from_left") 356, val := PySem.Value.ref 140 }, { hash := PySem.PyData.keyHash P (PySem.Str.ofString "borrow_from_right"), key := PySem.Value.str (PySem.Str.ofString "borrow_from_right") 368, val := PySem.Value.ref 147 }, { hash := PySem.PyData.keyHash P (PySem.Str.ofString "fill_child"), key := PySem.Value.str (PySem.Str.ofString "fill_child") 378, val := PySem.Value.ref 154 }, { hash := PySem.PyData.keyHash P (PySem.Str.ofString "least_below"), key := PySem.Value.str (PySem.Str.ofString "least_below") 386, val := PySem.Value.ref 161 }, { hash := PySem.PyData.keyHash P (PySem.Str.ofString "greatest_below"), key := PySem.Value.str (PySem.Str.ofString "greatest_below") 394, val := PySem.Value.ref 168 }, { hash := PySem.PyData.keyHash P (PySem.Str.ofString "delete"), key := PySem.Value.str (PySem.Str.ofString "delete") 402, val := PySem.Value.ref 175 }, { hash := PySem.PyData.keyHash P (PySem.Str.ofString "pairs_below"), key := PySem.Value.str (PySem.Str.ofString "pairs_below") 416, val := PySem.Value.ref 182 }, { hash := PySem.PyData.keyHash P (PySem.Str.ofString "pairs"), key := PySem.Value.str (PySem.Str.ofString "pairs") 423, val := PySem.Value.ref 189 }, { hash := PySem.PyData.keyHash P (PySem.Str.ofString "shape_ok"), key := PySem.Value.str (PySem.Str.ofString "shape_ok") 432, val := PySem.Value.ref 196 }, { hash := PySem.PyData.keyHash P (PySem.Str.ofString "keys_ok"), key := PySem.Value.str (PySem.Str.ofString "keys_ok") 442, val := PySem.Value.ref 203 }, { hash := PySem.PyData.keyHash P (PySem.Str.ofString "leaf_level"), key := PySem.Value.str (PySem.Str.ofString "leaf_level") 455, val := PySem.Value.ref 210 }, { hash := PySem.PyData.keyHash P (PySem.Str.ofString "check"), key := PySem.Value.str (PySem.Str.ofString "check") 462, val := PySem.Value.ref 217 }, { hash := PySem.PyData.keyHash P (PySem.Str.ofString "range_below"), key := PySem.Value.str (PySem.Str.ofString "range_below") 472, val := PySem.Value.ref 224 }, { hash := PySem.PyData.keyHash P (PySem.Str.ofString "count_below"), key := PySem.Value.str (PySem.Str.ofString "count_below") 480, val := PySem.Value.ref 231 }, { hash := PySem.PyData.keyHash P (PySem.Str.ofString "rank_of"), key := PySem.Value.str (PySem.Str.ofString "rank_of") 488, val := PySem.Value.ref 238 }, { hash := PySem.PyData.keyHash P (PySem.Str.ofString "select_key"), key := PySem.Value.str (PySem.Str.ofString "select_key") 496, val := PySem.Value.ref 245 }, { hash := PySem.PyData.keyHash P (PySem.Str.ofString "next_key"), key := PySem.Value.str (PySem.Str.ofString "next_key") 504, val := PySem.Value.ref 252 }, { hash := PySem.PyData.keyHash P (PySem.Str.ofString "flat_below"), key := PySem.Value.str (PySem.Str.ofString "flat_below") 512, val := PySem.Value.ref 259 }, { hash := PySem.PyData.keyHash P (PySem.Str.ofString "flat"), key := PySem.Value.str (PySem.Str.ofString "flat") 519, val := PySem.Value.ref 266 }, { hash := PySem.PyData.keyHash P (PySem.Str.ofString "__static_attributes__"), key := PySem.Value.str (PySem.Str.ofString "__static_attributes__") 523, val := PySem.Value.ref 267 }, { hash := PySem.PyData.keyHash P (PySem.Str.ofString "__dict__"), key := PySem.Value.str (PySem.Str.ofString "__dict__") 525, val := PySem.Value.ref 270 }, { hash := PySem.PyData.keyHash P (PySem.Str.ofString "__weakref__"), key := PySem.Value.str (PySem.Str.ofString "__weakref__") 527, val := PySem.Value.ref 271 }, { hash := PySem.PyData.keyHash P (PySem.Str.ofString "__doc__"), key := PySem.Value.str (PySem.Str.ofString "__doc__") 528, val := PySem.Value.none }] 4 } : PySem.Obj)),
  (269, ({ cls := PySem.Value.type "type", data := PySem.Data.cls { name := PySem.Str.ofString "Canopy", bases := [PySem.Value.type "object"], mro := [PySem.Value.ref 269, PySem.Value.type "object"], ns := 268, qualname := PySem.Str.ofString "Canopy" }, slots := #[Option.none, Option.none, Option.some (PySem.Value.str (PySem.Str.ofString "Canopy") 271), Option.some (PySem.Value.str (PySem.Str.ofString "Canopy") 279), Option.some (PySem.Value.builtin "object.__new__"), Option.some (PySem.Value.bool Bool.true)] } : PySem.Obj)),
  (274, ({ cls := PySem.Value.type "tuple", data := PySem.Data.seq #[PySem.Value.int 0 533, PySem.Value.int 0 534, PySem.Value.int 1 535, PySem.Value.int 2 536, PySem.Value.int 0 537] } : PySem.Obj)),
  (28, ({ cls := PySem.Value.type "function", data := PySem.Data.func { name := PySem.Str.ofString "row_with", qualname := PySem.Str.ofString "row_with", params := { posonlyargs := [], args := [{ arg := PySem.Str.ofString "row", annotation := Option.none, pos := { line := 5, col := 13, endLine := 5, endCol := 16 } }, { arg := PySem.Str.ofString "i", annotation := Option.none, pos := { line := 5, col := 18, endLine := 5, endCol := 19 } }, { arg := PySem.Str.ofString "item", annotation := Option.none, pos := { line := 5, col := 21, endLine := 5, endCol := 25 } }], vararg := Option.none, kwonlyargs := [], kw_defaults := [], kwarg := Option.none, defaults := [] }, body := PySem.FuncBody.stmts (Ss.py b0), scope := { kind := PySem.ScopeKind.function, names := [(PySem.Str.ofString "row", PySem.NameKind.local), (PySem.Str.ofString "i", PySem.NameKind.local), (PySem.Str.ofString "item", PySem.NameKind.local)], isGenerator := Bool.false, isCoroutine := Bool.false }, globals := 3, closure := [], defaults := PySem.Value.none, kwdefaults := PySem.Value.none, pyModule := PySem.Value.str (PySem.Str.ofString "canopy.core") 194, code := PySem.Value.ref 27 } } : PySem.Obj)),
  (27, ({ cls := PySem.Value.type "code", data := PySem.Data.fields #[PySem.Value.str (PySem.Str.ofString "row_with") 196, PySem.Value.str (PySem.Str.ofString "row_with") 197, PySem.Value.str (PySem.Str.ofString "/claim/cut.py") 198, PySem.Value.int 5 0, PySem.Value.int 3 0, PySem.Value.int 0 0, PySem.Value.int 0 0, PySem.Value.int 3 0, PySem.Value.ref 22, PySem.Value.bool Bool.true, PySem.Value.int 181 0, PySem.Value.ref 23, PySem.Value.none, PySem.Value.ref 24, PySem.Value.ref 25, PySem.Value.ref 26, PySem.Value.int 202 0, PySem.Value.int 5 0, PySem.Value.str (PySem.Str.ofString "/claim/cut.py") 203] } : PySem.Obj)),
  (35, ({ cls := PySem.Value.type "function", data := PySem.Data.func { name := PySem.Str.ofString "row_without", qualname := PySem.Str.ofString "row_without", params := { posonlyargs := [], args := [{ arg := PySem.Str.ofString "row", annotation := Option.none, pos := { line := 7, col := 16, endLine := 7, endCol := 19 } }, { arg := PySem.Str.ofString "i", annotation := Option.none, pos := { line := 7, col := 21, endLine := 7, endCol := 22 } }], vararg := Option.none, kwonlyargs := [], kw_defaults := [], kwarg := Option.none, defaults := [] }, body := PySem.FuncBody.stmts (Ss.py b1), scope := { kind := PySem.ScopeKind.function, names := [(PySem.Str.ofString "row", PySem.NameKind.local), (PySem.Str.ofString "i", PySem.NameKind.local)], isGenerator := Bool.false, isCoroutine := Bool.false }, globals := 3, closure := [], defaults := PySem.Value.none, kwdefaults := PySem.Value.none, pyModule := PySem.Value.str (PySem.Str.ofString "canopy.core") 194, code := PySem.Value.ref 34 } } : PySem.Obj)),
  (34, ({ cls := PySem.Value.type "code", data := PySem.Data.fields #[PySem.Value.str (PySem.Str.ofString "row_without") 205, PySem.Value.str (PySem.Str.ofString "row_without") 206, PySem.Value.str (PySem.Str.ofString "/claim/cut.py") 207, PySem.Value.int 7 0, PySem.Value.int 2 0, PySem.Value.int 0 0, PySem.Value.int 0 0, PySem.Value.int 3 0, PySem.Value.ref 29, PySem.Value.bool Bool.true, PySem.Value.int 181 0, PySem.Value.ref 30, PySem.Value.none, PySem.Value.ref 31, PySem.Value.ref 32, PySem.Value.ref 33, PySem.Value.int 210 0, PySem.Value.int 7 0, PySem.Value.str (PySem.Str.ofString "/claim/cut.py") 211] } : PySem.Obj)),
  (281, ({ cls := PySem.Value.type "function", data := PySem.Data.func { name := PySem.Str.ofString "_law_cell", qualname := PySem.Str.ofString "_law_cell", params := { posonlyargs := [], args := [{ arg := PySem.Str.ofString "script", annotation := Option.none, pos := { line := 166, col := 14, endLine := 166, endCol := 20 } }, { arg := PySem.Str.ofString "n", annotation := Option.none, pos := { line := 166, col := 22, endLine := 166, endCol := 23 } }], vararg := Option.none, kwonlyargs := [], kw_defaults := [], kwarg := Option.none, defaults := [] }, body := PySem.FuncBody.stmts (Ss.py b2), scope := { kind := PySem.ScopeKind.function, names := [(PySem.Str.ofString "script", PySem.NameKind.local), (PySem.Str.ofString "n", PySem.NameKind.local), (PySem.Str.ofString "len", PySem.NameKind.globalImplicit)], isGenerator := Bool.false, isCoroutine := Bool.false }, globals := 3, closure := [], defaults := PySem.Value.none, kwdefaults := PySem.Value.none, pyModule := PySem.Value.str (PySem.Str.ofString "law_pd_canopyofobjects_1_03") 531, code := PySem.Value.ref 280 } } : PySem.Obj)),
  (280, ({ cls := PySem.Value.type "code", data := PySem.Data.fields #[PySem.Value.str (PySem.Str.ofString "_law_cell") 539, PySem.Value.str (PySem.Str.ofString "_law_cell") 540, PySem.Value.str (PySem.Str.ofString "/claim/cut.py") 541, PySem.Value.int 166 0, PySem.Value.int 2 0, PySem.Value.int 0 0, PySem.Value.int 0 0, PySem.Value.int 3 0, PySem.Value.ref 275, PySem.Value.bool Bool.true, PySem.Value.int 181 0, PySem.Value.ref 276, PySem.Value.none, PySem.Value.ref 277, PySem.Value.ref 278, PySem.Value.ref 279, PySem.Value.int 544 0, PySem.Value.int 166 0, PySem.Value.str (PySem.Str.ofString "/claim/cut.py") 545] } : PySem.Obj)),
  (288, ({ cls := PySem.Value.type "function", data := PySem.Data.func { name := PySem.Str.ofString "_law_walk", qualname := PySem.Str.ofString "_law_walk", params := { posonlyargs := [], args := [{ arg := PySem.Str.ofString "script", annotation := Option.none, pos := { line := 170, col := 14, endLine := 170, endCol := 20 } }, { arg := PySem.Str.ofString "count", annotation := Option.none, pos := { line := 170, col := 22, endLine := 170, endCol := 27 } }], vararg := Option.none, kwonlyargs := [], kw_defaults := [], kwarg := Option.none, defaults := [] }, body := PySem.FuncBody.stmts (Ss.py b3), scope := { kind := PySem.ScopeKind.function, names := [(PySem.Str.ofString "script", PySem.NameKind.local), (PySem.Str.ofString "count", PySem.NameKind.local), (PySem.Str.ofString "key", PySem.NameKind.local), (PySem.Str.ofString "out", PySem.NameKind.local), (PySem.Str.ofString "n", PySem.NameKind.local), (PySem.Str.ofString "cell", PySem.NameKind.local), (PySem.Str.ofString "_law_cell", PySem.NameKind.globalImplicit), (PySem.Str.ofString "range", PySem.NameKind.globalImplicit)], isGenerator := Bool.false, isCoroutine := Bool.false }, globals := 3, closure := [], defaults := PySem.Value.none, kwdefaults := PySem.Value.none, pyModule := PySem.Value.str (PySem.Str.ofString "law_pd_canopyofobjects_1_03") 531, code := PySem.Value.ref 287 } } : PySem.Obj)),
  (287, ({ cls := PySem.Value.type "code", data := PySem.Data.fields #[PySem.Value.str (PySem.Str.ofString "_law_walk") 547, PySem.Value.str (PySem.Str.ofString "_law_walk") 548, PySem.Value.str (PySem.Str.ofString "/claim/cut.py") 549, PySem.Value.int 170 0, PySem.Value.int 2 0, PySem.Value.int 0 0, PySem.Value.int 0 0, PySem.Value.int 3 0, PySem.Value.ref 282, PySem.Value.bool Bool.true, PySem.Value.int 181 0, PySem.Value.ref 283, PySem.Value.none, PySem.Value.ref 284, PySem.Value.ref 285, PySem.Value.ref 286, PySem.Value.int 556 0, PySem.Value.int 170 0, PySem.Value.str (PySem.Str.ofString "/claim/cut.py") 557] } : PySem.Obj)),
  (293, ({ cls := PySem.Value.type "function", data := PySem.Data.func { name := PySem.Str.ofString "_law_node", qualname := PySem.Str.ofString "_law_node", params := { posonlyargs := [], args := [{ arg := PySem.Str.ofString "pairs", annotation := Option.none, pos := { line := 178, col := 14, endLine := 178, endCol := 19 } }, { arg := PySem.Str.ofString "below", annotation := Option.none, pos := { line := 178, col := 21, endLine := 178, endCol := 26 } }], vararg := Option.none, kwonlyargs := [], kw_defaults := [], kwarg := Option.none, defaults := [] }, body := PySem.FuncBody.stmts (Ss.py b4), scope := { kind := PySem.ScopeKind.function, names := [(PySem.Str.ofString "pairs", PySem.NameKind.local), (PySem.Str.ofString "below", PySem.NameKind.local), (PySem.Str.ofString "Node", PySem.NameKind.globalImplicit)], isGenerator := Bool.false, isCoroutine := Bool.false, more := [(PySem.Str.ofString "fast", PySem.Const.str (PySem.Str.ofString "pairs")), (PySem.Str.ofString "fast", PySem.Const.str (PySem.Str.ofString "below")), (PySem.Str.ofString "fast", PySem.Const.str (PySem.Str.ofString "p"))] }, globals := 3, closure := [], defaults := PySem.Value.none, kwdefaults := PySem.Value.none, pyModule := PySem.Value.str (PySem.Str.ofString "law_pd_canopyofobjects_1_03") 531, code := PySem.Value.ref 292 } } : PySem.Obj)),
  (292, ({ cls := PySem.Value.type "code", data := PySem.Data.fields #[PySem.Value.str (PySem.Str.ofString "_law_node") 559, PySem.Value.str (PySem.Str.ofString "_law_node") 560, PySem.Value.str (PySem.Str.ofString "/claim/cut.py") 561, PySem.Value.int 178 0, PySem.Value.int 2 0, PySem.Value.int 0 0, PySem.Value.int 0 0, PySem.Value.int 3 0, PySem.Value.ref 289, PySem.Value.bool Bool.true, PySem.Value.int 181 0, PySem.Value.ref 290, PySem.Value.none, PySem.Value.none, PySem.Value.none, PySem.Value.ref 291, PySem.Value.int 562 0, PySem.Value.int 178 0, PySem.Value.str (PySem.Str.ofString "/claim/cut.py") 563] } : PySem.Obj)),
  (300, ({ cls := PySem.Value.type "function", data := PySem.Data.func { name := PySem.Str.ofString "_law_rows", qualname := PySem.Str.ofString "_law_rows", params := { posonlyargs := [], args := [{ arg := PySem.Str.ofString "line", annotation := Option.none, pos := { line := 180, col := 14, endLine := 180, endCol := 18 } }, { arg := PySem.Str.ofString "under", annotation := Option.none, pos := { line := 180, col := 20, endLine := 180, endCol := 25 } }, { arg := PySem.Str.ofString "cuts", annotation := Option.none, pos := { line := 180, col := 27, endLine := 180, endCol := 31 } }], vararg := Option.none, kwonlyargs := [], kw_defaults := [], kwarg := Option.none, defaults := [] }, body := PySem.FuncBody.stmts (Ss.py b5), scope := { kind := PySem.ScopeKind.function, names := [(PySem.Str.ofString "line", PySem.NameKind.local), (PySem.Str.ofString "under", PySem.NameKind.local), (PySem.Str.ofString "cuts", PySem.NameKind.local), (PySem.Str.ofString "rows", PySem.NameKind.local), (PySem.Str.ofString "low", PySem.NameKind.local), (PySem.Str.ofString "high", PySem.NameKind.local), (PySem.Str.ofString "len", PySem.NameKind.globalImplicit)], isGenerator := Bool.false, isCoroutine := Bool.false }, globals := 3, closure := [], defaults := PySem.Value.none, kwdefaults := PySem.Value.none, pyModule := PySem.Value.str (PySem.Str.ofString "law_pd_canopyofobjects_1_03") 531, code := PySem.Value.ref 299 } } : PySem.Obj)),
  (299, ({ cls := PySem.Value.type "code", data := PySem.Data.fields #[PySem.Value.str (PySem.Str.ofString "_law_rows") 565, PySem.Value.str (PySem.Str.ofString "_law_rows") 566, PySem.Value.str (PySem.Str.ofString "/claim/cut.py") 567, PySem.Value.int 180 0, PySem.Value.int 3 0, PySem.Value.int 0 0, PySem.Value.int 0 0, PySem.Value.int 3 0, PySem.Value.ref 294, PySem.Value.bool Bool.true, PySem.Value.int 181 0, PySem.Value.ref 295, PySem.Value.none, PySem.Value.ref 296, PySem.Value.ref 297, PySem.Value.ref 298, PySem.Value.int 574 0, PySem.Value.int 180 0, PySem.Value.str (PySem.Str.ofString "/claim/cut.py") 575] } : PySem.Obj)),
  (307, ({ cls := PySem.Value.type "function", data := PySem.Data.func { name := PySem.Str.ofString "_law_due", qualname := PySem.Str.ofString "_law_due", params := { posonlyargs := [], args := [{ arg := PySem.Str.ofString "t", annotation := Option.none, pos := { line := 187, col := 13, endLine := 187, endCol := 14 } }, { arg := PySem.Str.ofString "cuts", annotation := Option.none, pos := { line := 187, col := 16, endLine := 187, endCol := 20 } }, { arg := PySem.Str.ofString "sizes", annotation := Option.none, pos := { line := 187, col := 22, endLine := 187, endCol := 27 } }, { arg := PySem.Str.ofString "i", annotation := Option.none, pos := { line := 187, col := 29, endLine := 187, endCol := 30 } }], vararg := Option.none, kwonlyargs := [], kw_defaults := [], kwarg := Option.none, defaults := [] }, body := PySem.FuncBody.stmts (Ss.py b6), scope := { kind := PySem.ScopeKind.function, names := [(PySem.Str.ofString "t", PySem.NameKind.local), (PySem.Str.ofString "cuts", PySem.NameKind.local), (PySem.Str.ofString "sizes", PySem.NameKind.local), (PySem.Str.ofString "i", PySem.NameKind.local), (PySem.Str.ofString "gone", PySem.NameKind.local), (PySem.Str.ofString "len", PySem.NameKind.globalImplicit), (PySem.Str.ofString "max", PySem.NameKind.globalImplicit)], isGenerator := Bool.false, isCoroutine := Bool.false }, globals := 3, closure := [], defaults := PySem.Value.none, kwdefaults := PySem.Value.none, pyModule := PySem.Value.str (PySem.Str.ofString "law_pd_canopyofobjects_1_03") 531, code := PySem.Value.ref 306 } } : PySem.Obj)),
  (306, ({ cls := PySem.Value.type "code", data := PySem.Data.fields #[PySem.Value.str (PySem.Str.ofString "_law_due") 577, PySem.Value.str (PySem.Str.ofString "_law_due") 578, PySem.Value.str (PySem.Str.ofString "/claim/cut.py") 579, PySem.Value.int 187 0, PySem.Value.int 4 0, PySem.Value.int 0 0, PySem.Value.int 0 0, PySem.Value.int 3 0, PySem.Value.ref 301, PySem.Value.bool Bool.true, PySem.Value.int 181 0, PySem.Value.ref 302, PySem.Value.none, PySem.Value.ref 303, PySem.Value.ref 304, PySem.Value.ref 305, PySem.Value.int 585 0, PySem.Value.int 187 0, PySem.Value.str (PySem.Str.ofString "/claim/cut.py") 586] } : PySem.Obj)),
  (312, ({ cls := PySem.Value.type "function", data := PySem.Data.func { name := PySem.Str.ofString "_law_same", qualname := PySem.Str.ofString "_law_same", params := { posonlyargs := [], args := [{ arg := PySem.Str.ofString "child", annotation := Option.none, pos := { line := 196, col := 14, endLine := 196, endCol := 19 } }, { arg := PySem.Str.ofString "old", annotation := Option.none, pos := { line := 196, col := 21, endLine := 196, endCol := 24 } }, { arg := PySem.Str.ofString "row", annotation := Option.none, pos := { line := 196, col := 26, endLine := 196, endCol := 29 } }], vararg := Option.none, kwonlyargs := [], kw_defaults := [], kwarg := Option.none, defaults := [] }, body := PySem.FuncBody.stmts (Ss.py b7), scope := { kind := PySem.ScopeKind.function, names := [(PySem.Str.ofString "child", PySem.NameKind.local), (PySem.Str.ofString "old", PySem.NameKind.local), (PySem.Str.ofString "row", PySem.NameKind.local), (PySem.Str.ofString "g", PySem.NameKind.local), (PySem.Str.ofString "len", PySem.NameKind.globalImplicit), (PySem.Str.ofString "range", PySem.NameKind.globalImplicit)], isGenerator := Bool.false, isCoroutine := Bool.false, more := [(PySem.Str.ofString "fast", PySem.Const.str (PySem.Str.ofString "child")), (PySem.Str.ofString "fast", PySem.Const.str (PySem.Str.ofString "old")), (PySem.Str.ofString "fast", PySem.Const.str (PySem.Str.ofString "row")), (PySem.Str.ofString "fast", PySem.Const.str (PySem.Str.ofString "p")), (PySem.Str.ofString "fast", PySem.Const.str (PySem.Str.ofString "g"))] }, globals := 3, closure := [], defaults := PySem.Value.none, kwdefaults := PySem.Value.none, pyModule := PySem.Value.str (PySem.Str.ofString "law_pd_canopyofobjects_1_03") 531, code := PySem.Value.ref 311 } } : PySem.Obj)),
  (311, ({ cls := PySem.Value.type "code", data := PySem.Data.fields #[PySem.Value.str (PySem.Str.ofString "_law_same") 588, PySem.Value.str (PySem.Str.ofString "_law_same") 589, PySem.Value.str (PySem.Str.ofString "/claim/cut.py") 590, PySem.Value.int 196 0, PySem.Value.int 3 0, PySem.Value.int 0 0, PySem.Value.int 0 0, PySem.Value.int 3 0, PySem.Value.ref 308, PySem.Value.bool Bool.true, PySem.Value.int 181 0, PySem.Value.ref 309, PySem.Value.none, PySem.Value.none, PySem.Value.none, PySem.Value.ref 310, PySem.Value.int 591 0, PySem.Value.int 196 0, PySem.Value.str (PySem.Str.ofString "/claim/cut.py") 592] } : PySem.Obj)),
  (317, ({ cls := PySem.Value.type "function", data := PySem.Data.func { name := PySem.Str.ofString "law", qualname := PySem.Str.ofString "law", params := { posonlyargs := [], args := [{ arg := PySem.Str.ofString "script", annotation := Option.none, pos := { line := 209, col := 8, endLine := 209, endCol := 14 } }], vararg := Option.none, kwonlyargs := [], kw_defaults := [], kwarg := Option.none, defaults := [] }, body := PySem.FuncBody.stmts (Ss.py b8), scope := { kind := PySem.ScopeKind.function, names := [(PySem.Str.ofString "script", PySem.NameKind.cell), (PySem.Str.ofString "mode", PySem.NameKind.local), (PySem.Str.ofString "t", PySem.NameKind.cell), (PySem.Str.ofString "wide", PySem.NameKind.local), (PySem.Str.ofString "i", PySem.NameKind.local), (PySem.Str.ofString "j", PySem.NameKind.local), (PySem.Str.ofString "sizes", PySem.NameKind.local), (PySem.Str.ofString "seps", PySem.NameKind.local), (PySem.Str.ofString "at", PySem.NameKind.local), (PySem.Str.ofString "count", PySem.NameKind.local), (PySem.Str.ofString "level", PySem.NameKind.local), (PySem.Str.ofString "whole", PySem.NameKind.cell), (PySem.Str.ofString "line", PySem.NameKind.cell), (PySem.Str.ofString "under", PySem.NameKind.local), (PySem.Str.ofString "rows", PySem.NameKind.local), (PySem.Str.ofString "held", PySem.NameKind.local), (PySem.Str.ofString "kids", PySem.NameKind.local), (PySem.Str.ofString "parent", PySem.NameKind.local), (PySem.Str.ofString "m", PySem.NameKind.local), (PySem.Str.ofString "place", PySem.NameKind.local), (PySem.Str.ofString "cuts", PySem.NameKind.local), (PySem.Str.ofString "stay", PySem.NameKind.local), (PySem.Str.ofString "got", PySem.NameKind.local), (PySem.Str.ofString "due", PySem.NameKind.local), (PySem.Str.ofString "there", PySem.NameKind.local), (PySem.Str.ofString "key", PySem.NameKind.local), (PySem.Str.ofString "thin", PySem.NameKind.local), (PySem.Str.ofString "alone", PySem.NameKind.local), (PySem.Str.ofString "deep", PySem.NameKind.local), (PySem.Str.ofString "uneven", PySem.NameKind.local), (PySem.Str.ofString "_law_cell", PySem.NameKind.globalImplicit), (PySem.Str.ofString "range", PySem.NameKind.globalImplicit), (PySem.Str.ofString "sum", PySem.NameKind.globalImplicit), (PySem.Str.ofString "_law_walk", PySem.NameKind.globalImplicit), (PySem.Str.ofString "_law_rows", PySem.NameKind.globalImplicit), (PySem.Str.ofString "_law_node", PySem.NameKind.globalImplicit), (PySem.Str.ofString "list", PySem.NameKind.globalImplicit), (PySem.Str.ofString "Canopy", PySem.NameKind.globalImplicit), (PySem.Str.ofString "_law_due", PySem.NameKind.globalImplicit), (PySem.Str.ofString "len", PySem.NameKind.globalImplicit), (PySem.Str.ofString "_law_same", PySem.NameKind.globalImplicit)], isGenerator := Bool.false, isCoroutine := Bool.false, more := [(PySem.Str.ofString "fast", PySem.Const.str (PySem.Str.ofString "script")), (PySem.Str.ofString "fast", PySem.Const.str (PySem.Str.ofString "mode")), (PySem.Str.ofString "fast", PySem.Const.str (PySem.Str.ofString "t")), (PySem.Str.ofString "fast", PySem.Const.str (PySem.Str.ofString "wide")), (PySem.Str.ofString "fast", PySem.Const.str (PySem.Str.ofString "i")), (PySem.Str.ofString "fast", PySem.Const.str (PySem.Str.ofString "j")), (PySem.Str.ofString "fast", PySem.Const.str (PySem.Str.ofString "sizes")), (PySem.Str.ofString "fast", PySem.Const.str (PySem.Str.ofString "seps")), (PySem.Str.ofString "fast", PySem.Const.str (PySem.Str.ofString "at")), (PySem.Str.ofString "fast", PySem.Const.str (PySem.Str.ofString "count")), (PySem.Str.ofString "fast", PySem.Const.str (PySem.Str.ofString "level")), (PySem.Str.ofString "fast", PySem.Const.str (PySem.Str.ofString "whole")), (PySem.Str.ofString "fast", PySem.Const.str (PySem.Str.ofString "line")), (PySem.Str.ofString "fast", PySem.Const.str (PySem.Str.ofString "under")), (PySem.Str.ofString "fast", PySem.Const.str (PySem.Str.ofString "n")), (PySem.Str.ofString "fast", PySem.Const.str (PySem.Str.ofString "rows")), (PySem.Str.ofString "fast", PySem.Const.str (PySem.Str.ofString "p")), (PySem.Str.ofString "fast", PySem.Const.str (PySem.Str.ofString "held")), (PySem.Str.ofString "fast", PySem.Const.str (PySem.Str.ofString "row")), (PySem.Str.ofString "fast", PySem.Const.str (PySem.Str.ofString "kids")), (PySem.Str.ofString "fast", PySem.Const.str (PySem.Str.ofString "parent")), (PySem.Str.ofString "fast", PySem.Const.str (PySem.Str.ofString "m")), (PySem.Str.ofString "fast", PySem.Const.str (PySem.Str.ofString "place")), (PySem.Str.ofString "fast", PySem.Const.str (PySem.Str.ofString "cuts")), (PySem.Str.ofString "fast", PySem.Const.str (PySem.Str.ofString "stay")), (PySem.Str.ofString "fast", PySem.Const.str (PySem.Str.ofString "got")), (PySem.Str.ofString "fast", PySem.Const.str (PySem.Str.ofString "due")), (PySem.Str.ofString "fast", PySem.Const.str (PySem.Str.ofString "there")), (PySem.Str.ofString "fast", PySem.Const.str (PySem.Str.ofString "key")), (PySem.Str.ofString "fast", PySem.Const.str (PySem.Str.ofString "thin")), (PySem.Str.ofString "fast", PySem.Const.str (PySem.Str.ofString "alone")), (PySem.Str.ofString "fast", PySem.Const.str (PySem.Str.ofString "deep")), (PySem.Str.ofString "fast", PySem.Const.str (PySem.Str.ofString "uneven"))] }, globals := 3, closure := [], defaults := PySem.Value.none, kwdefaults := PySem.Value.none, pyModule := PySem.Value.str (PySem.Str.ofString "law_pd_canopyofobjects_1_03") 531, code := PySem.Value.ref 316 } } : PySem.Obj)),
  (316, ({ cls := PySem.Value.type "code", data := PySem.Data.fields #[PySem.Value.str (PySem.Str.ofString "law") 594, PySem.Value.str (PySem.Str.ofString "law") 595, PySem.Value.str (PySem.Str.ofString "/claim/cut.py") 596, PySem.Value.int 209 0, PySem.Value.int 1 0, PySem.Value.int 0 0, PySem.Value.int 0 0, PySem.Value.int 3 0, PySem.Value.ref 313, PySem.Value.bool Bool.true, PySem.Value.int 181 0, PySem.Value.ref 314, PySem.Value.none, PySem.Value.none, PySem.Value.none, PySem.Value.ref 315, PySem.Value.int 597 0, PySem.Value.int 209 0, PySem.Value.str (PySem.Str.ofString "/claim/cut.py") 598] } : PySem.Obj)),
  (49, ({ cls := PySem.Value.type "function", data := PySem.Data.func { name := PySem.Str.ofString "__init__", qualname := PySem.Str.ofString "Node.__init__", params := { posonlyargs := [], args := [{ arg := PySem.Str.ofString "self", annotation := Option.none, pos := { line := 11, col := 17, endLine := 11, endCol := 21 } }, { arg := PySem.Str.ofString "keys", annotation := Option.none, pos := { line := 11, col := 23, endLine := 11, endCol := 27 } }, { arg := PySem.Str.ofString "values", annotation := Option.none, pos := { line := 11, col := 29, endLine := 11, endCol := 35 } }, { arg := PySem.Str.ofString "children", annotation := Option.none, pos := { line := 11, col := 37, endLine := 11, endCol := 45 } }], vararg := Option.none, kwonlyargs := [], kw_defaults := [], kwarg := Option.none, defaults := [] }, body := PySem.FuncBody.stmts (Ss.py b9), scope := { kind := PySem.ScopeKind.function, names := [(PySem.Str.ofString "self", PySem.NameKind.local), (PySem.Str.ofString "keys", PySem.NameKind.local), (PySem.Str.ofString "values", PySem.NameKind.local), (PySem.Str.ofString "children", PySem.NameKind.local)], isGenerator := Bool.false, isCoroutine := Bool.false }, globals := 3, closure := [], defaults := PySem.Value.none, kwdefaults := PySem.Value.none, pyModule := PySem.Value.str (PySem.Str.ofString "canopy.core") 194, code := PySem.Value.ref 48 } } : PySem.Obj)),
  (48, ({ cls := PySem.Value.type "code", data := PySem.Data.fields #[PySem.Value.str (PySem.Str.ofString "__init__") 225, PySem.Value.str (PySem.Str.ofString "Node.__init__") 226, PySem.Value.str (PySem.Str.ofString "/claim/cut.py") 227, PySem.Value.int 11 0, PySem.Value.int 4 0, PySem.Value.int 0 0, PySem.Value.int 0 0, PySem.Value.int 3 0, PySem.Value.ref 43, PySem.Value.bool Bool.true, PySem.Value.int 181 0, PySem.Value.ref 44, PySem.Value.none, PySem.Value.ref 45, PySem.Value.ref 46, PySem.Value.ref 47, PySem.Value.int 232 0, PySem.Value.int 11 0, PySem.Value.str (PySem.Str.ofString "/claim/cut.py") 233] } : PySem.Obj)),
  (56, ({ cls := PySem.Value.type "function", data := PySem.Data.func { name := PySem.Str.ofString "is_leaf", qualname := PySem.Str.ofString "Node.is_leaf", params := { posonlyargs := [], args := [{ arg := PySem.Str.ofString "self", annotation := Option.none, pos := { line := 16, col := 16, endLine := 16, endCol := 20 } }], vararg := Option.none, kwonlyargs := [], kw_defaults := [], kwarg := Option.none, defaults := [] }, body := PySem.FuncBody.stmts (Ss.py b10), scope := { kind := PySem.ScopeKind.function, names := [(PySem.Str.ofString "self", PySem.NameKind.local), (PySem.Str.ofString "len", PySem.NameKind.globalImplicit)], isGenerator := Bool.false, isCoroutine := Bool.false }, globals := 3, closure := [], defaults := PySem.Value.none, kwdefaults := PySem.Value.none, pyModule := PySem.Value.str (PySem.Str.ofString "canopy.core") 194, code := PySem.Value.ref 55 } } : PySem.Obj)),
  (55, ({ cls := PySem.Value.type "code", data := PySem.Data.fields #[PySem.Value.str (PySem.Str.ofString "is_leaf") 235, PySem.Value.str (PySem.Str.ofString "Node.is_leaf") 236, PySem.Value.str (PySem.Str.ofString "/claim/cut.py") 237, PySem.Value.int 16 0, PySem.Value.int 1 0, PySem.Value.int 0 0, PySem.Value.int 0 0, PySem.Value.int 3 0, PySem.Value.ref 50, PySem.Value.bool Bool.true, PySem.Value.int 181 0, PySem.Value.ref 51, PySem.Value.none, PySem.Value.ref 52, PySem.Value.ref 53, PySem.Value.ref 54, PySem.Value.int 239 0, PySem.Value.int 16 0, PySem.Value.str (PySem.Str.ofString "/claim/cut.py") 240] } : PySem.Obj)),
  (70, ({ cls := PySem.Value.type "function", data := PySem.Data.func { name := PySem.Str.ofString "lay", qualname := PySem.Str.ofString "Node.lay", params := { posonlyargs := [], args := [{ arg := PySem.Str.ofString "self", annotation := Option.none, pos := { line := 22, col := 12, endLine := 22, endCol := 16 } }, { arg := PySem.Str.ofString "keys", annotation := Option.none, pos := { line := 22, col := 18, endLine := 22, endCol := 22 } }, { arg := PySem.Str.ofString "values", annotation := Option.none, pos := { line := 22, col := 24, endLine := 22, endCol := 30 } }, { arg := PySem.Str.ofString "children", annotation := Option.none, pos := { line := 22, col := 32, endLine := 22, endCol := 40 } }], vararg := Option.none, kwonlyargs := [], kw_defaults := [], kwarg := Option.none, defaults := [] }, body := PySem.FuncBody.stmts (Ss.py b11), scope := { kind := PySem.ScopeKind.function, names := [(PySem.Str.ofString "self", PySem.NameKind.local), (PySem.Str.ofString "keys", PySem.NameKind.local), (PySem.Str.ofString "values", PySem.NameKind.local), (PySem.Str.ofString "children", PySem.NameKind.local)], isGenerator := Bool.false, isCoroutine := Bool.false }, globals := 3, closure := [], defaults := PySem.Value.none, kwdefaults := PySem.Value.none, pyModule := PySem.Value.str (PySem.Str.ofString "canopy.core") 194, code := PySem.Value.ref 69 } } : PySem.Obj)),
  (69, ({ cls := PySem.Value.type "code", data := PySem.Data.fields #[PySem.Value.str (PySem.Str.ofString "lay") 250, PySem.Value.str (PySem.Str.ofString "Node.lay") 251, PySem.Value.str (PySem.Str.ofString "/claim/cut.py") 252, PySem.Value.int 22 0, PySem.Value.int 4 0, PySem.Value.int 0 0, PySem.Value.int 0 0, PySem.Value.int 3 0, PySem.Value.ref 64, PySem.Value.bool Bool.true, PySem.Value.int 181 0, PySem.Value.ref 65, PySem.Value.none, PySem.Value.ref 66, PySem.Value.ref 67, PySem.Value.ref 68, PySem.Value.int 257 0, PySem.Value.int 22 0, PySem.Value.str (PySem.Str.ofString "/claim/cut.py") 258] } : PySem.Obj)),
  (91, ({ cls := PySem.Value.type "function", data := PySem.Data.func { name := PySem.Str.ofString "__init__", qualname := PySem.Str.ofString "Canopy.__init__", params := { posonlyargs := [], args := [{ arg := PySem.Str.ofString "self", annotation := Option.none, pos := { line := 28, col := 17, endLine := 28, endCol := 21 } }, { arg := PySem.Str.ofString "t", annotation := Option.none, pos := { line := 28, col := 23, endLine := 28, endCol := 24 } }], vararg := Option.none, kwonlyargs := [], kw_defaults := [], kwarg := Option.none, defaults := [] }, body := PySem.FuncBody.stmts (Ss.py b12), scope := { kind := PySem.ScopeKind.function, names := [(PySem.Str.ofString "self", PySem.NameKind.local), (PySem.Str.ofString "t", PySem.NameKind.local), (PySem.Str.ofString "Node", PySem.NameKind.globalImplicit)], isGenerator := Bool.false, isCoroutine := Bool.false }, globals := 3, closure := [], defaults := PySem.Value.none, kwdefaults := PySem.Value.none, pyModule := PySem.Value.str (PySem.Str.ofString "canopy.core") 194, code := PySem.Value.ref 90 } } : PySem.Obj)),
  (90, ({ cls := PySem.Value.type "code", data := PySem.Data.fields #[PySem.Value.str (PySem.Str.ofString "__init__") 283, PySem.Value.str (PySem.Str.ofString "Canopy.__init__") 284, PySem.Value.str (PySem.Str.ofString "/claim/cut.py") 285, PySem.Value.int 28 0, PySem.Value.int 2 0, PySem.Value.int 0 0, PySem.Value.int 0 0, PySem.Value.int 3 0, PySem.Value.ref 85, PySem.Value.bool Bool.true, PySem.Value.int 181 0, PySem.Value.ref 86, PySem.Value.none, PySem.Value.ref 87, PySem.Value.ref 88, PySem.Value.ref 89, PySem.Value.int 288 0, PySem.Value.int 28 0, PySem.Value.str (PySem.Str.ofString "/claim/cut.py") 289] } : PySem.Obj)),
  (133, ({ cls := PySem.Value.type "function", data := PySem.Data.func { name := PySem.Str.ofString "merge_children", qualname := PySem.Str.ofString "Canopy.merge_children", params := { posonlyargs := [], args := [{ arg := PySem.Str.ofString "self", annotation := Option.none, pos := { line := 48, col := 23, endLine := 48, endCol := 27 } }, { arg := PySem.Str.ofString "parent", annotation := Option.none, pos := { line := 48, col := 29, endLine := 48, endCol := 35 } }, { arg := PySem.Str.ofString "i", annotation := Option.none, pos := { line := 48, col := 37, endLine := 48, endCol := 38 } }], vararg := Option.none, kwonlyargs := [], kw_defaults := [], kwarg := Option.none, defaults := [] }, body := PySem.FuncBody.stmts (Ss.py b13), scope := { kind := PySem.ScopeKind.function, names := [(PySem.Str.ofString "self", PySem.NameKind.local), (PySem.Str.ofString "parent", PySem.NameKind.local), (PySem.Str.ofString "i", PySem.NameKind.local), (PySem.Str.ofString "left", PySem.NameKind.local), (PySem.Str.ofString "right", PySem.NameKind.local), (PySem.Str.ofString "row_without", PySem.NameKind.globalImplicit)], isGenerator := Bool.false, isCoroutine := Bool.false }, globals := 3, closure := [], defaults := PySem.Value.none, kwdefaults := PySem.Value.none, pyModule := PySem.Value.str (PySem.Str.ofString "canopy.core") 194, code := PySem.Value.ref 132 } } : PySem.Obj)),
  (132, ({ cls := PySem.Value.type "code", data := PySem.Data.fields #[PySem.Value.str (PySem.Str.ofString "merge_children") 333, PySem.Value.str (PySem.Str.ofString "Canopy.merge_children") 334, PySem.Value.str (PySem.Str.ofString "/claim/cut.py") 335, PySem.Value.int 48 0, PySem.Value.int 3 0, PySem.Value.int 0 0, PySem.Value.int 0 0, PySem.Value.int 3 0, PySem.Value.ref 127, PySem.Value.bool Bool.true, PySem.Value.int 181 0, PySem.Value.ref 128, PySem.Value.none, PySem.Value.ref 129, PySem.Value.ref 130, PySem.Value.ref 131, PySem.Value.int 341 0, PySem.Value.int 48 0, PySem.Value.str (PySem.Str.ofString "/claim/cut.py") 342] } : PySem.Obj)),
  (140, ({ cls := PySem.Value.type "function", data := PySem.Data.func { name := PySem.Str.ofString "borrow_from_left", qualname := PySem.Str.ofString "Canopy.borrow_from_left", params := { posonlyargs := [], args := [{ arg := PySem.Str.ofString "self", annotation := Option.none, pos := { line := 54, col := 25, endLine := 54, endCol := 29 } }, { arg := PySem.Str.ofString "parent", annotation := Option.none, pos := { line := 54, col := 31, endLine := 54, endCol := 37 } }, { arg := PySem.Str.ofString "i", annotation := Option.none, pos := { line := 54, col := 39, endLine := 54, endCol := 40 } }], vararg := Option.none, kwonlyargs := [], kw_defaults := [], kwarg := Option.none, defaults := [] }, body := PySem.FuncBody.stmts (Ss.py b14), scope := { kind := PySem.ScopeKind.function, names := [(PySem.Str.ofString "self", PySem.NameKind.local), (PySem.Str.ofString "parent", PySem.NameKind.local), (PySem.Str.ofString "i", PySem.NameKind.local), (PySem.Str.ofString "left", PySem.NameKind.local), (PySem.Str.ofString "child", PySem.NameKind.local), (PySem.Str.ofString "last", PySem.NameKind.local), (PySem.Str.ofString "moved", PySem.NameKind.local), (PySem.Str.ofString "len", PySem.NameKind.globalImplicit), (PySem.Str.ofString "row_with", PySem.NameKind.globalImplicit)], isGenerator := Bool.false, isCoroutine := Bool.false }, globals := 3, closure := [], defaults := PySem.Value.none, kwdefaults := PySem.Value.none, pyModule := PySem.Value.str (PySem.Str.ofString "canopy.core") 194, code := PySem.Value.ref 139 } } : PySem.Obj)),
  (139, ({ cls := PySem.Value.type "code", data := PySem.Data.fields #[PySem.Value.str (PySem.Str.ofString "borrow_from_left") 344, PySem.Value.str (PySem.Str.ofString "Canopy.borrow_from_left") 345, PySem.Value.str (PySem.Str.ofString "/claim/cut.py") 346, PySem.Value.int 54 0, PySem.Value.int 3 0, PySem.Value.int 0 0, PySem.Value.int 0 0, PySem.Value.int 3 0, PySem.Value.ref 134, PySem.Value.bool Bool.true, PySem.Value.int 181 0, PySem.Value.ref 135, PySem.Value.none, PySem.Value.ref 136, PySem.Value.ref 137, PySem.Value.ref 138, PySem.Value.int 354 0, PySem.Value.int 54 0, PySem.Value.str (PySem.Str.ofString "/claim/cut.py") 355] } : PySem.Obj)),
  (147, ({ cls := PySem.Value.type "function", data := PySem.Data.func { name := PySem.Str.ofString "borrow_from_right", qualname := PySem.Str.ofString "Canopy.borrow_from_right", params := { posonlyargs := [], args := [{ arg := PySem.Str.ofString "self", annotation := Option.none, pos := { line := 63, col := 26, endLine := 63, endCol := 30 } }, { arg := PySem.Str.ofString "parent", annotation := Option.none, pos := { line := 63, col := 32, endLine := 63, endCol := 38 } }, { arg := PySem.Str.ofString "i", annotation := Option.none, pos := { line := 63, col := 40, endLine := 63, endCol := 41 } }], vararg := Option.none, kwonlyargs := [], kw_defaults := [], kwarg := Option.none, defaults := [] }, body := PySem.FuncBody.stmts (Ss.py b15), scope := { kind := PySem.ScopeKind.function, names := [(PySem.Str.ofString "self", PySem.NameKind.local), (PySem.Str.ofString "parent", PySem.NameKind.local), (PySem.Str.ofString "i", PySem.NameKind.local), (PySem.Str.ofString "child", PySem.NameKind.local), (PySem.Str.ofString "right", PySem.NameKind.local), (PySem.Str.ofString "moved", PySem.NameKind.local), (PySem.Str.ofString "row_with", PySem.NameKind.globalImplicit)], isGenerator := Bool.false, isCoroutine := Bool.false }, globals := 3, closure := [], defaults := PySem.Value.none, kwdefaults := PySem.Value.none, pyModule := PySem.Value.str (PySem.Str.ofString "canopy.core") 194, code := PySem.Value.ref 146 } } : PySem.Obj)),
  (146, ({ cls := PySem.Value.type "code", data := PySem.Data.fields #[PySem.Value.str (PySem.Str.ofString "borrow_from_right") 357, PySem.Value.str (PySem.Str.ofString "Canopy.borrow_from_right") 358, PySem.Value.str (PySem.Str.ofString "/claim/cut.py") 359, PySem.Value.int 63 0, PySem.Value.int 3 0, PySem.Value.int 0 0, PySem.Value.int 0 0, PySem.Value.int 3 0, PySem.Value.ref 141, PySem.Value.bool Bool.true, PySem.Value.int 181 0, PySem.Value.ref 142, PySem.Value.none, PySem.Value.ref 143, PySem.Value.ref 144, PySem.Value.ref 145, PySem.Value.int 366 0, PySem.Value.int 63 0, PySem.Value.str (PySem.Str.ofString "/claim/cut.py") 367] } : PySem.Obj)),
  (154, ({ cls := PySem.Value.type "function", data := PySem.Data.func { name := PySem.Str.ofString "fill_child", qualname := PySem.Str.ofString "Canopy.fill_child", params := { posonlyargs := [], args := [{ arg := PySem.Str.ofString "self", annotation := Option.none, pos := { line := 71, col := 19, endLine := 71, endCol := 23 } }, { arg := PySem.Str.ofString "parent", annotation := Option.none, pos := { line := 71, col := 25, endLine := 71, endCol := 31 } }, { arg := PySem.Str.ofString "i", annotation := Option.none, pos := { line := 71, col := 33, endLine := 71, endCol := 34 } }], vararg := Option.none, kwonlyargs := [], kw_defaults := [], kwarg := Option.none, defaults := [] }, body := PySem.FuncBody.stmts (Ss.py b16), scope := { kind := PySem.ScopeKind.function, names := [(PySem.Str.ofString "self", PySem.NameKind.local), (PySem.Str.ofString "parent", PySem.NameKind.local), (PySem.Str.ofString "i", PySem.NameKind.local), (PySem.Str.ofString "t", PySem.NameKind.local), (PySem.Str.ofString "len", PySem.NameKind.globalImplicit)], isGenerator := Bool.false, isCoroutine := Bool.false }, globals := 3, closure := [], defaults := PySem.Value.none, kwdefaults := PySem.Value.none, pyModule := PySem.Value.str (PySem.Str.ofString "canopy.core") 194, code := PySem.Value.ref 153 } } : PySem.Obj)),
  (153, ({ cls := PySem.Value.type "code", data := PySem.Data.fields #[PySem.Value.str (PySem.Str.ofString "fill_child") 369, PySem.Value.str (PySem.Str.ofString "Canopy.fill_child") 370, PySem.Value.str (PySem.Str.ofString "/claim/cut.py") 371, PySem.Value.int 71 0, PySem.Value.int 3 0, PySem.Value.int 0 0, PySem.Value.int 0 0, PySem.Value.int 3 0, PySem.Value.ref 148, PySem.Value.bool Bool.true, PySem.Value.int 181 0, PySem.Value.ref 149, PySem.Value.none, PySem.Value.ref 150, PySem.Value.ref 151, PySem.Value.ref 152, PySem.Value.int 376 0, PySem.Value.int 71 0, PySem.Value.str (PySem.Str.ofString "/claim/cut.py") 377] } : PySem.Obj)),
  (182, ({ cls := PySem.Value.type "function", data := PySem.Data.func { name := PySem.Str.ofString "pairs_below", qualname := PySem.Str.ofString "Canopy.pairs_below", params := { posonlyargs := [], args := [{ arg := PySem.Str.ofString "self", annotation := Option.none, pos := { line := 96, col := 20, endLine := 96, endCol := 24 } }, { arg := PySem.Str.ofString "node", annotation := Option.none, pos := { line := 96, col := 26, endLine := 96, endCol := 30 } }], vararg := Option.none, kwonlyargs := [], kw_defaults := [], kwarg := Option.none, defaults := [] }, body := PySem.FuncBody.stmts (Ss.py b17), scope := { kind := PySem.ScopeKind.function, names := [(PySem.Str.ofString "self", PySem.NameKind.local), (PySem.Str.ofString "node", PySem.NameKind.local), (PySem.Str.ofString "out", PySem.NameKind.local), (PySem.Str.ofString "stack", PySem.NameKind.local), (PySem.Str.ofString "top", PySem.NameKind.local), (PySem.Str.ofString "here", PySem.NameKind.local), (PySem.Str.ofString "i", PySem.NameKind.local), (PySem.Str.ofString "j", PySem.NameKind.local), (PySem.Str.ofString "len", PySem.NameKind.globalImplicit), (PySem.Str.ofString "range", PySem.NameKind.globalImplicit), (PySem.Str.ofString "max", PySem.NameKind.globalImplicit)], isGenerator := Bool.false, isCoroutine := Bool.false }, globals := 3, closure := [], defaults := PySem.Value.none, kwdefaults := PySem.Value.none, pyModule := PySem.Value.str (PySem.Str.ofString "canopy.core") 194, code := PySem.Value.ref 181 } } : PySem.Obj)),
  (181, ({ cls := PySem.Value.type "code", data := PySem.Data.fields #[PySem.Value.str (PySem.Str.ofString "pairs_below") 403, PySem.Value.str (PySem.Str.ofString "Canopy.pairs_below") 404, PySem.Value.str (PySem.Str.ofString "/claim/cut.py") 405, PySem.Value.int 96 0, PySem.Value.int 2 0, PySem.Value.int 0 0, PySem.Value.int 0 0, PySem.Value.int 3 0, PySem.Value.ref 176, PySem.Value.bool Bool.true, PySem.Value.int 181 0, PySem.Value.ref 177, PySem.Value.none, PySem.Value.ref 178, PySem.Value.ref 179, PySem.Value.ref 180, PySem.Value.int 414 0, PySem.Value.int 96 0, PySem.Value.str (PySem.Str.ofString "/claim/cut.py") 415] } : PySem.Obj)),
  (189, ({ cls := PySem.Value.type "function", data := PySem.Data.func { name := PySem.Str.ofString "pairs", qualname := PySem.Str.ofString "Canopy.pairs", params := { posonlyargs := [], args := [{ arg := PySem.Str.ofString "self", annotation := Option.none, pos := { line := 116, col := 14, endLine := 116, endCol := 18 } }], vararg := Option.none, kwonlyargs := [], kw_defaults := [], kwarg := Option.none, defaults := [] }, body := PySem.FuncBody.stmts (Ss.py b18), scope := { kind := PySem.ScopeKind.function, names := [(PySem.Str.ofString "self", PySem.NameKind.local)], isGenerator := Bool.false, isCoroutine := Bool.false }, globals := 3, closure := [], defaults := PySem.Value.none, kwdefaults := PySem.Value.none, pyModule := PySem.Value.str (PySem.Str.ofString "canopy.core") 194, code := PySem.Value.ref 188 } } : PySem.Obj)),
  (188, ({ cls := PySem.Value.type "code", data := PySem.Data.fields #[PySem.Value.str (PySem.Str.ofString "pairs") 417, PySem.Value.str (PySem.Str.ofString "Canopy.pairs") 418, PySem.Value.str (PySem.Str.ofString "/claim/cut.py") 419, PySem.Value.int 116 0, PySem.Value.int 1 0, PySem.Value.int 0 0, PySem.Value.int 0 0, PySem.Value.int 3 0, PySem.Value.ref 183, PySem.Value.bool Bool.true, PySem.Value.int 181 0, PySem.Value.ref 184, PySem.Value.none, PySem.Value.ref 185, PySem.Value.ref 186, PySem.Value.ref 187, PySem.Value.int 421 0, PySem.Value.int 116 0, PySem.Value.str (PySem.Str.ofString "/claim/cut.py") 422] } : PySem.Obj)),
  (210, ({ cls := PySem.Value.type "function", data := PySem.Data.func { name := PySem.Str.ofString "leaf_level", qualname := PySem.Str.ofString "Canopy.leaf_level", params := { posonlyargs := [], args := [{ arg := PySem.Str.ofString "self", annotation := Option.none, pos := { line := 125, col := 19, endLine := 125, endCol := 23 } }, { arg := PySem.Str.ofString "node", annotation := Option.none, pos := { line := 125, col := 25, endLine := 125, endCol := 29 } }], vararg := Option.none, kwonlyargs := [], kw_defaults := [], kwarg := Option.none, defaults := [] }, body := PySem.FuncBody.stmts (Ss.py b19), scope := { kind := PySem.ScopeKind.function, names := [(PySem.Str.ofString "self", PySem.NameKind.local), (PySem.Str.ofString "node", PySem.NameKind.local), (PySem.Str.ofString "level", PySem.NameKind.local), (PySem.Str.ofString "stack", PySem.NameKind.local), (PySem.Str.ofString "top", PySem.NameKind.local), (PySem.Str.ofString "here", PySem.NameKind.local), (PySem.Str.ofString "child", PySem.NameKind.local), (PySem.Str.ofString "len", PySem.NameKind.globalImplicit)], isGenerator := Bool.false, isCoroutine := Bool.false }, globals := 3, closure := [], defaults := PySem.Value.none, kwdefaults := PySem.Value.none, pyModule := PySem.Value.str (PySem.Str.ofString "canopy.core") 194, code := PySem.Value.ref 209 } } : PySem.Obj)),
  (209, ({ cls := PySem.Value.type "code", data := PySem.Data.fields #[PySem.Value.str (PySem.Str.ofString "leaf_level") 443, PySem.Value.str (PySem.Str.ofString "Canopy.leaf_level") 444, PySem.Value.str (PySem.Str.ofString "/claim/cut.py") 445, PySem.Value.int 125 0, PySem.Value.int 2 0, PySem.Value.int 0 0, PySem.Value.int 0 0, PySem.Value.int 3 0, PySem.Value.ref 204, PySem.Value.bool Bool.true, PySem.Value.int 181 0, PySem.Value.ref 205, PySem.Value.none, PySem.Value.ref 206, PySem.Value.ref 207, PySem.Value.ref 208, PySem.Value.int 453 0, PySem.Value.int 125 0, PySem.Value.str (PySem.Str.ofString "/claim/cut.py") 454] } : PySem.Obj))]
def as1 : List Addr := [3, 72, 73, 268, 269, 274, 28, 27, 35, 34, 281, 280, 288, 287, 293, 292, 300, 299, 307, 306, 312, 311, 317, 316, 49, 48, 56, 55, 70, 69, 91, 90, 133, 132, 140, 139, 147, 146, 154, 153, 182, 181, 189, 188, 210, 209]
theorem as1_eq (P : Params) : as1 = (K1 P).map (·.1) := by kernel_rfl
noncomputable def H1 : Hook := kHook K1 as1 as1_eq
abbrev row1 := PySem.Challenge.rw_pd_canopyofobjects_1_03.row
abbrev prog1 : Program := PySem.Challenge.pw_pd_canopyofobjects_1_03
def view1 : Program := { prog1 with main := { prog1.main with body := [prog1.main.body.getLast!] } }
def loose1 : List Str := ["_wall", "row_with", "row_without", "Node", "Canopy", "_law_extra", "_law_cell", "_law_walk", "_law_node", "_law_rows", "_law_due", "_law_same"]
theorem left1 : LeftO (OpenRow.toRowW row1).prog view1 loose1 (fun s => xlAt view1 [] s && recOk (RowW.records (OpenRow.toRowW row1)) s) (Hook.obs H1) (Hook.val H1) 3542 := by
  intro w
  unfold openEnds fencedOpening topFrom
  rw [PySem.W.Fast.te14082659384304107361, PySem.W.Fast.te14364793385576792824, PySem.W.Fast.te14289696077712309145, PySem.W.Fast.te1435165496053646825, PySem.W.Fast.te8920871248978507458, PySem.W.Fast.te4187177175401517315, PySem.W.Fast.te5923862056798008813]
  kernel_rfl
end Mine

set_option maxHeartbeats 4000000
namespace Mine
open PySem PySem.W PySem.Calls PyProof.Rows
def cls1 (k : Nat) : Addr := Nat.casesOn k 73 fun _ => 269
def fld1 (k : Nat) : List Str := Nat.casesOn k ["key_row", "value_row", "children"] fun _ => ["t", "root", "size"]
section
variable {prog : Program} {w : World} {hb : Heap} {p : Program} {loose : List Str} {mg mb : Str → Option Value} (X : (K1 w.params).In hb) (T : TopRead p loose mg mb hb) (scr : Addr) (sws : List Value) (sns : List Int) (hscr : hb.IsList scr sws.toArray) (hsns : IntsAre sws sns)
noncomputable def mkC1 : Cn := ⟨prog, w, hb, K1 w.params, p, loose, mg, mb, X, T, kv1 sns, vv1 sns, kv1_lt sns, cls1, fld1, scr, sws, sns, hscr, hsns⟩
theorem fn1 : ∀ k x, gname1 k = some x → nsIn (mkC1 (prog := prog) X T scr sws sns hscr hsns).K mainGlobals x = some (some (.ref (addr1 k))) ∧ keepIn (mkC1 (prog := prog) X T scr sws sns hscr hsns).K (.ref (addr1 k)) = true ∧ (x == ("__debug__" : Str)) = false := fun k x h => match k, h with
  | 0, h => by cases h; exact ⟨rfl, rfl, by decide +kernel⟩
  | 1, h => by cases h; exact ⟨rfl, rfl, by decide +kernel⟩
  | 2, h => by cases h; exact ⟨rfl, rfl, by decide +kernel⟩
  | 3, h => by cases h; exact ⟨rfl, rfl, by decide +kernel⟩
  | 4, h => by cases h; exact ⟨rfl, rfl, by decide +kernel⟩
  | 5, h => by cases h; exact ⟨rfl, rfl, by decide +kernel⟩
  | 6, h => by cases h; exact ⟨rfl, rfl, by decide +kernel⟩
  | 7, h => by cases h; exact ⟨rfl, rfl, by decide +kernel⟩
  | 8, h => by cases h; exact ⟨rfl, rfl, by decide +kernel⟩
  | _ + 9, h => by cases h
theorem cl1 : ∀ k x, cname1 k = some x → nsIn (mkC1 (prog := prog) X T scr sws sns hscr hsns).K mainGlobals x = some (some (.ref ((mkC1 (prog := prog) X T scr sws sns hscr hsns).cls k))) ∧ keepIn (mkC1 (prog := prog) X T scr sws sns hscr hsns).K (.ref ((mkC1 (prog := prog) X T scr sws sns hscr hsns).cls k)) = true ∧ (x == ("__debug__" : Str)) = false := fun k x h => match k, h with
  | 0, h => by cases h; exact ⟨rfl, rfl, by decide +kernel⟩
  | 1, h => by cases h; exact ⟨rfl, rfl, by decide +kernel⟩
  | _ + 2, h => by cases h
theorem new1 : ∀ k x, cname1 k = some x → NewOk (mkC1 (prog := prog) X T scr sws sns hscr hsns) k (addr1 (init1 k)) := fun k x h => match k, h with
  | 0, h => ⟨rfl, rfl, rfl⟩
  | 1, h => ⟨rfl, rfl, rfl⟩
  | _ + 2, h => by cases h
theorem attr1 : ∀ cl f j, fpos1 cl f = some j → ∃ x, aname1 f = some x ∧ ((mkC1 (prog := prog) X T scr sws sns hscr hsns).fld cl)[j]? = some x ∧ AttrOk (mkC1 (prog := prog) X T scr sws sns hscr hsns) cl x ∧ SetOk (mkC1 (prog := prog) X T scr sws sns hscr hsns) cl x := fun cl f j h => match cl, f, h with
  | 0, 0, h => by cases h; exact ⟨_, rfl, rfl, ⟨rfl, rfl, rfl⟩, ⟨rfl, rfl, rfl, rfl⟩⟩
  | 0, 1, h => by cases h; exact ⟨_, rfl, rfl, ⟨rfl, rfl, rfl⟩, ⟨rfl, rfl, rfl, rfl⟩⟩
  | 0, 2, h => by cases h; exact ⟨_, rfl, rfl, ⟨rfl, rfl, rfl⟩, ⟨rfl, rfl, rfl, rfl⟩⟩
  | 0, 3, h => by cases h
  | 0, 4, h => by cases h
  | 0, 5, h => by cases h
  | 0, _ + 6, h => by cases h
  | 1, 0, h => by cases h
  | 1, 1, h => by cases h
  | 1, 2, h => by cases h
  | 1, 3, h => by cases h; exact ⟨_, rfl, rfl, ⟨rfl, rfl, rfl⟩, ⟨rfl, rfl, rfl, rfl⟩⟩
  | 1, 4, h => by cases h; exact ⟨_, rfl, rfl, ⟨rfl, rfl, rfl⟩, ⟨rfl, rfl, rfl, rfl⟩⟩
  | 1, 5, h => by cases h; exact ⟨_, rfl, rfl, ⟨rfl, rfl, rfl⟩, ⟨rfl, rfl, rfl, rfl⟩⟩
  | 1, _ + 6, h => by cases h
  | _ + 2, _, h => by cases h
theorem mthd1 : ∀ cl f k, mth1 cl f = some k → ∃ x, mname1 f = some x ∧ MethOk (mkC1 (prog := prog) X T scr sws sns hscr hsns) cl x (addr1 k) := fun cl f k h => match cl, f, h with
  | 0, 0, h => by cases h; exact ⟨_, rfl, ⟨rfl, rfl, rfl, rfl, show ¬ ("is_leaf" : Str) ∈ fld1 0 by decide +kernel⟩⟩
  | 0, 1, h => by cases h; exact ⟨_, rfl, ⟨rfl, rfl, rfl, rfl, show ¬ ("lay" : Str) ∈ fld1 0 by decide +kernel⟩⟩
  | 0, 2, h => by cases h
  | 0, 3, h => by cases h
  | 0, 4, h => by cases h
  | 0, 5, h => by cases h
  | 0, 6, h => by cases h
  | 0, 7, h => by cases h
  | 0, 8, h => by cases h
  | 0, _ + 9, h => by cases h
  | 1, 0, h => by cases h
  | 1, 1, h => by cases h
  | 1, 2, h => by cases h; exact ⟨_, rfl, ⟨rfl, rfl, rfl, rfl, show ¬ ("merge_children" : Str) ∈ fld1 1 by decide +kernel⟩⟩
  | 1, 3, h => by cases h; exact ⟨_, rfl, ⟨rfl, rfl, rfl, rfl, show ¬ ("borrow_from_left" : Str) ∈ fld1 1 by decide +kernel⟩⟩
  | 1, 4, h => by cases h; exact ⟨_, rfl, ⟨rfl, rfl, rfl, rfl, show ¬ ("borrow_from_right" : Str) ∈ fld1 1 by decide +kernel⟩⟩
  | 1, 5, h => by cases h; exact ⟨_, rfl, ⟨rfl, rfl, rfl, rfl, show ¬ ("fill_child" : Str) ∈ fld1 1 by decide +kernel⟩⟩
  | 1, 6, h => by cases h; exact ⟨_, rfl, ⟨rfl, rfl, rfl, rfl, show ¬ ("pairs_below" : Str) ∈ fld1 1 by decide +kernel⟩⟩
  | 1, 7, h => by cases h; exact ⟨_, rfl, ⟨rfl, rfl, rfl, rfl, show ¬ ("pairs" : Str) ∈ fld1 1 by decide +kernel⟩⟩
  | 1, 8, h => by cases h; exact ⟨_, rfl, ⟨rfl, rfl, rfl, rfl, show ¬ ("leaf_level" : Str) ∈ fld1 1 by decide +kernel⟩⟩
  | 1, _ + 9, h => by cases h
  | _ + 2, _, h => by cases h
theorem blt1 : ∀ x ∈ [("len" : Str), "sum", "max", "list", "tuple", "range"], nsIn (mkC1 (prog := prog) X T scr sws sns hscr hsns).K mainGlobals x = some none := by
  intro x hx
  simp only [List.mem_cons, List.not_mem_nil, or_false] at hx
  rcases hx with rfl | rfl | rfl | rfl | rfl | rfl <;> rfl
theorem gl1 : ∀ g x v, glob1 g = some (x, v) → ∃ w, nsIn (mkC1 (prog := prog) X T scr sws sns hscr hsns).K mainGlobals x = some (some w) ∧ ∀ (gh : Gh) (h : Heap) (st : List Inst), Wd (mkC1 (prog := prog) X T scr sws sns hscr hsns) gh st h → RV (mkC1 (prog := prog) X T scr sws sns hscr hsns) gh h v w := fun g x v h => match g, h with
  | 0, h => by
    cases h
    refine ⟨.ref 274, rfl, fun gh h st W => ?_⟩
    have e : (K1 w.params).lookup 274 = some { cls := .type "tuple", data := .seq ([.int 0 533, .int 0 534, .int 1 535, .int 2 536, .int 0 537] : List Value).toArray 0 } := rfl
    obtain ⟨e1, m⟩ := W.base 274 _ (X _ _ e)
    exact .tup e1 m (.cons (.int _ _) (.cons (.int _ _) (.cons (.int _ _) (.cons (.int _ _) (.cons (.int _ _) .nil)))))
  | _ + 1, h => by cases h
theorem at1_0 : ∃ d, FnAt (mkC1 (prog := prog) X T scr sws sns hscr hsns) 28 d nm0 3 b0 := ⟨⟨_, _, _, _, _, _, _, _, _, _, _, _, _, _, _⟩, rfl, rfl, rfl, rfl, rfl, rfl, (fun ws h => by match ws, h with | [a, b, c], _ => rfl), by decide +kernel, by decide +kernel, by decide +kernel, by decide +kernel, by decide +kernel, rfl, by decide +kernel⟩
theorem at1_1 : ∃ d, FnAt (mkC1 (prog := prog) X T scr sws sns hscr hsns) 35 d nm1 2 b1 := ⟨⟨_, _, _, _, _, _, _, _, _, _, _, _, _, _, _⟩, rfl, rfl, rfl, rfl, rfl, rfl, (fun ws h => by match ws, h with | [a, b], _ => rfl), by decide +kernel, by decide +kernel, by decide +kernel, by decide +kernel, by decide +kernel, rfl, by decide +kernel⟩
theorem at1_2 : ∃ d, FnAt (mkC1 (prog := prog) X T scr sws sns hscr hsns) 281 d nm2 2 b2 := ⟨⟨_, _, _, _, _, _, _, _, _, _, _, _, _, _, _⟩, rfl, rfl, rfl, rfl, rfl, rfl, (fun ws h => by match ws, h with | [a, b], _ => rfl), by decide +kernel, by decide +kernel, by decide +kernel, by decide +kernel, by decide +kernel, rfl, by decide +kernel⟩
theorem at1_3 : ∃ d, FnAt (mkC1 (prog := prog) X T scr sws sns hscr hsns) 288 d nm3 2 b3 := ⟨⟨_, _, _, _, _, _, _, _, _, _, _, _, _, _, _⟩, rfl, rfl, rfl, rfl, rfl, rfl, (fun ws h => by match ws, h with | [a, b], _ => rfl), by decide +kernel, by decide +kernel, by decide +kernel, by decide +kernel, by decide +kernel, rfl, by decide +kernel⟩
theorem at1_4 : ∃ d, FnAt (mkC1 (prog := prog) X T scr sws sns hscr hsns) 293 d nm4 2 b4 := ⟨⟨_, _, _, _, _, _, _, _, _, _, _, _, _, _, _⟩, rfl, rfl, rfl, rfl, rfl, rfl, (fun ws h => by match ws, h with | [a, b], _ => rfl), by decide +kernel, by decide +kernel, by decide +kernel, by decide +kernel, by decide +kernel, rfl, by decide +kernel⟩
theorem at1_5 : ∃ d, FnAt (mkC1 (prog := prog) X T scr sws sns hscr hsns) 300 d nm5 3 b5 := ⟨⟨_, _, _, _, _, _, _, _, _, _, _, _, _, _, _⟩, rfl, rfl, rfl, rfl, rfl, rfl, (fun ws h => by match ws, h with | [a, b, c], _ => rfl), by decide +kernel, by decide +kernel, by decide +kernel, by decide +kernel, by decide +kernel, rfl, by decide +kernel⟩
theorem at1_6 : ∃ d, FnAt (mkC1 (prog := prog) X T scr sws sns hscr hsns) 307 d nm6 4 b6 := ⟨⟨_, _, _, _, _, _, _, _, _, _, _, _, _, _, _⟩, rfl, rfl, rfl, rfl, rfl, rfl, (fun ws h => by match ws, h with | [a, b, c, d], _ => rfl), by decide +kernel, by decide +kernel, by decide +kernel, by decide +kernel, by decide +kernel, rfl, by decide +kernel⟩
theorem at1_7 : ∃ d, FnAt (mkC1 (prog := prog) X T scr sws sns hscr hsns) 312 d nm7 3 b7 := ⟨⟨_, _, _, _, _, _, _, _, _, _, _, _, _, _, _⟩, rfl, rfl, rfl, rfl, rfl, rfl, (fun ws h => by match ws, h with | [a, b, c], _ => rfl), by decide +kernel, by decide +kernel, by decide +kernel, by decide +kernel, by decide +kernel, rfl, by decide +kernel⟩
theorem at1_8 : ∃ d, FnAtC (mkC1 (prog := prog) X T scr sws sns hscr hsns) 317 d nm8 1 b8 := ⟨⟨_, _, _, _, _, _, _, _, _, _, _, _, _, _, _⟩, rfl, rfl, rfl, rfl, rfl, rfl, (fun ws h => by match ws, h with | [a], _ => rfl), by decide +kernel, by decide +kernel, by decide +kernel, by decide +kernel, by decide +kernel, by decide +kernel, by decide +kernel⟩
theorem at1_9 : ∃ d, FnAt (mkC1 (prog := prog) X T scr sws sns hscr hsns) 49 d nm9 4 b9 := ⟨⟨_, _, _, _, _, _, _, _, _, _, _, _, _, _, _⟩, rfl, rfl, rfl, rfl, rfl, rfl, (fun ws h => by match ws, h with | [a, b, c, d], _ => rfl), by decide +kernel, by decide +kernel, by decide +kernel, by decide +kernel, by decide +kernel, rfl, by decide +kernel⟩
theorem at1_10 : ∃ d, FnAt (mkC1 (prog := prog) X T scr sws sns hscr hsns) 56 d nm10 1 b10 := ⟨⟨_, _, _, _, _, _, _, _, _, _, _, _, _, _, _⟩, rfl, rfl, rfl, rfl, rfl, rfl, (fun ws h => by match ws, h with | [a], _ => rfl), by decide +kernel, by decide +kernel, by decide +kernel, by decide +kernel, by decide +kernel, rfl, by decide +kernel⟩
theorem at1_11 : ∃ d, FnAt (mkC1 (prog := prog) X T scr sws sns hscr hsns) 70 d nm11 4 b11 := ⟨⟨_, _, _, _, _, _, _, _, _, _, _, _, _, _, _⟩, rfl, rfl, rfl, rfl, rfl, rfl, (fun ws h => by match ws, h with | [a, b, c, d], _ => rfl), by decide +kernel, by decide +kernel, by decide +kernel, by decide +kernel, by decide +kernel, rfl, by decide +kernel⟩
theorem at1_12 : ∃ d, FnAt (mkC1 (prog := prog) X T scr sws sns hscr hsns) 91 d nm12 2 b12 := ⟨⟨_, _, _, _, _, _, _, _, _, _, _, _, _, _, _⟩, rfl, rfl, rfl, rfl, rfl, rfl, (fun ws h => by match ws, h with | [a, b], _ => rfl), by decide +kernel, by decide +kernel, by decide +kernel, by decide +kernel, by decide +kernel, rfl, by decide +kernel⟩
theorem at1_13 : ∃ d, FnAt (mkC1 (prog := prog) X T scr sws sns hscr hsns) 133 d nm13 3 b13 := ⟨⟨_, _, _, _, _, _, _, _, _, _, _, _, _, _, _⟩, rfl, rfl, rfl, rfl, rfl, rfl, (fun ws h => by match ws, h with | [a, b, c], _ => rfl), by decide +kernel, by decide +kernel, by decide +kernel, by decide +kernel, by decide +kernel, rfl, by decide +kernel⟩
theorem at1_14 : ∃ d, FnAt (mkC1 (prog := prog) X T scr sws sns hscr hsns) 140 d nm14 3 b14 := ⟨⟨_, _, _, _, _, _, _, _, _, _, _, _, _, _, _⟩, rfl, rfl, rfl, rfl, rfl, rfl, (fun ws h => by match ws, h with | [a, b, c], _ => rfl), by decide +kernel, by decide +kernel, by decide +kernel, by decide +kernel, by decide +kernel, rfl, by decide +kernel⟩
theorem at1_15 : ∃ d, FnAt (mkC1 (prog := prog) X T scr sws sns hscr hsns) 147 d nm15 3 b15 := ⟨⟨_, _, _, _, _, _, _, _, _, _, _, _, _, _, _⟩, rfl, rfl, rfl, rfl, rfl, rfl, (fun ws h => by match ws, h with | [a, b, c], _ => rfl), by decide +kernel, by decide +kernel, by decide +kernel, by decide +kernel, by decide +kernel, rfl, by decide +kernel⟩
theorem at1_16 : ∃ d, FnAt (mkC1 (prog := prog) X T scr sws sns hscr hsns) 154 d nm16 3 b16 := ⟨⟨_, _, _, _, _, _, _, _, _, _, _, _, _, _, _⟩, rfl, rfl, rfl, rfl, rfl, rfl, (fun ws h => by match ws, h with | [a, b, c], _ => rfl), by decide +kernel, by decide +kernel, by decide +kernel, by decide +kernel, by decide +kernel, rfl, by decide +kernel⟩
theorem at1_17 : ∃ d, FnAt (mkC1 (prog := prog) X T scr sws sns hscr hsns) 182 d nm17 2 b17 := ⟨⟨_, _, _, _, _, _, _, _, _, _, _, _, _, _, _⟩, rfl, rfl, rfl, rfl, rfl, rfl, (fun ws h => by match ws, h with | [a, b], _ => rfl), by decide +kernel, by decide +kernel, by decide +kernel, by decide +kernel, by decide +kernel, rfl, by decide +kernel⟩
theorem at1_18 : ∃ d, FnAt (mkC1 (prog := prog) X T scr sws sns hscr hsns) 189 d nm18 1 b18 := ⟨⟨_, _, _, _, _, _, _, _, _, _, _, _, _, _, _⟩, rfl, rfl, rfl, rfl, rfl, rfl, (fun ws h => by match ws, h with | [a], _ => rfl), by decide +kernel, by decide +kernel, by decide +kernel, by decide +kernel, by decide +kernel, rfl, by decide +kernel⟩
theorem at1_19 : ∃ d, FnAt (mkC1 (prog := prog) X T scr sws sns hscr hsns) 210 d nm19 2 b19 := ⟨⟨_, _, _, _, _, _, _, _, _, _, _, _, _, _, _⟩, rfl, rfl, rfl, rfl, rfl, rfl, (fun ws h => by match ws, h with | [a, b], _ => rfl), by decide +kernel, by decide +kernel, by decide +kernel, by decide +kernel, by decide +kernel, rfl, by decide +kernel⟩
theorem ast1 : ∀ k np pad nm body, fnsA k = some (.ast np pad nm body) → pad = List.replicate (nm.ns.length - np) .unset ∧ Ss.ok pgA nm body = true ∧ ∃ d, FnAt (mkC1 (prog := prog) X T scr sws sns hscr hsns) (addr1 k) d nm np body ∨ FnAtC (mkC1 (prog := prog) X T scr sws sns hscr hsns) (addr1 k) d nm np body := fun k np pad nm body h => match k, h with
  | 0, h => by cases h; exact ⟨rfl, by decide +kernel, (at1_0 (prog := prog) X T scr sws sns hscr hsns).imp fun _ h => .inl h⟩
  | 1, h => by cases h; exact ⟨rfl, by decide +kernel, (at1_1 (prog := prog) X T scr sws sns hscr hsns).imp fun _ h => .inl h⟩
  | 2, h => by cases h; exact ⟨rfl, by decide +kernel, (at1_2 (prog := prog) X T scr sws sns hscr hsns).imp fun _ h => .inl h⟩
  | 3, h => by cases h; exact ⟨rfl, by decide +kernel, (at1_3 (prog := prog) X T scr sws sns hscr hsns).imp fun _ h => .inl h⟩
  | 4, h => by cases h; exact ⟨rfl, by decide +kernel, (at1_4 (prog := prog) X T scr sws sns hscr hsns).imp fun _ h => .inl h⟩
  | 5, h => by cases h; exact ⟨rfl, by decide +kernel, (at1_5 (prog := prog) X T scr sws sns hscr hsns).imp fun _ h => .inl h⟩
  | 6, h => by cases h; exact ⟨rfl, by decide +kernel, (at1_6 (prog := prog) X T scr sws sns hscr hsns).imp fun _ h => .inl h⟩
  | 7, h => by cases h; exact ⟨rfl, by decide +kernel, (at1_7 (prog := prog) X T scr sws sns hscr hsns).imp fun _ h => .inl h⟩
  | 8, h => by cases h; exact ⟨rfl, by decide +kernel, (at1_8 (prog := prog) X T scr sws sns hscr hsns).imp fun _ h => .inr h⟩
  | 9, h => by cases h; exact ⟨rfl, by decide +kernel, (at1_9 (prog := prog) X T scr sws sns hscr hsns).imp fun _ h => .inl h⟩
  | 10, h => by cases h; exact ⟨rfl, by decide +kernel, (at1_10 (prog := prog) X T scr sws sns hscr hsns).imp fun _ h => .inl h⟩
  | 11, h => by cases h; exact ⟨rfl, by decide +kernel, (at1_11 (prog := prog) X T scr sws sns hscr hsns).imp fun _ h => .inl h⟩
  | 12, h => by cases h; exact ⟨rfl, by decide +kernel, (at1_12 (prog := prog) X T scr sws sns hscr hsns).imp fun _ h => .inl h⟩
  | 13, h => by cases h; exact ⟨rfl, by decide +kernel, (at1_13 (prog := prog) X T scr sws sns hscr hsns).imp fun _ h => .inl h⟩
  | 14, h => by cases h; exact ⟨rfl, by decide +kernel, (at1_14 (prog := prog) X T scr sws sns hscr hsns).imp fun _ h => .inl h⟩
  | 15, h => by cases h; exact ⟨rfl, by decide +kernel, (at1_15 (prog := prog) X T scr sws sns hscr hsns).imp fun _ h => .inl h⟩
  | 16, h => by cases h; exact ⟨rfl, by decide +kernel, (at1_16 (prog := prog) X T scr sws sns hscr hsns).imp fun _ h => .inl h⟩
  | 17, h => by cases h; exact ⟨rfl, by decide +kernel, (at1_17 (prog := prog) X T scr sws sns hscr hsns).imp fun _ h => .inl h⟩
  | 18, h => by cases h; exact ⟨rfl, by decide +kernel, (at1_18 (prog := prog) X T scr sws sns hscr hsns).imp fun _ h => .inl h⟩
  | 19, h => by cases h; exact ⟨rfl, by decide +kernel, (at1_19 (prog := prog) X T scr sws sns hscr hsns).imp fun _ h => .inl h⟩
  | _ + 20, h => by cases h
theorem nat1 : ∀ k d f, fnsA k = some (.nat d f) → False := fun k d f h => match k, h with
  | 0, h => by cases h
  | 1, h => by cases h
  | 2, h => by cases h
  | 3, h => by cases h
  | 4, h => by cases h
  | 5, h => by cases h
  | 6, h => by cases h
  | 7, h => by cases h
  | 8, h => by cases h
  | 9, h => by cases h
  | 10, h => by cases h
  | 11, h => by cases h
  | 12, h => by cases h
  | 13, h => by cases h
  | 14, h => by cases h
  | 15, h => by cases h
  | 16, h => by cases h
  | 17, h => by cases h
  | 18, h => by cases h
  | 19, h => by cases h
  | _ + 20, h => by cases h
theorem nd1 : ∀ cl, ((mkC1 (prog := prog) X T scr sws sns hscr hsns).fld cl).Nodup := fun cl => match cl with
  | 0 => by show (["key_row", "value_row", "children"] : List Str).Nodup; decide +kernel
  | _ + 1 => by show (["t", "root", "size"] : List Str).Nodup; decide +kernel
theorem pgok1 : PgOk (mkC1 (prog := prog) X T scr sws sns hscr hsns) pgA :=
  ⟨fn1 X T scr sws sns hscr hsns, cl1 X T scr sws sns hscr hsns, new1 X T scr sws sns hscr hsns, ast1 X T scr sws sns hscr hsns, fun k d f h => (nat1 k d f h).elim, attr1 X T scr sws sns hscr hsns, nd1 X T scr sws sns hscr hsns, mthd1 X T scr sws sns hscr hsns, blt1 X T scr sws sns hscr hsns, gl1 X T scr sws sns hscr hsns⟩
end
end Mine

set_option maxHeartbeats 8000000
open PySem PySem.W PySem.Calls PyProof.Rows
theorem PySem.Challenge.cw_pd_canopyofobjects_1_03_holds : PySem.Challenge.rw_pd_canopyofobjects_1_03.Holds := by
  w_on
  refine holds_law (by kernel_rfl) fun said => ?_
  refine holds_open (r := Mine.row1) (q := Mine.view1) (loose := Mine.loose1) (Xt := fun s => xlAt Mine.view1 [] s && recOk (RowW.records (OpenRow.toRowW Mine.row1)) s) (XP := XL Mine.view1 []) (Yf := Hook.obs Mine.H1) (Ya := Hook.val Mine.H1) (YP := Hook.says Mine.H1) (N := 3542) Mine.left1 (Hook.of Mine.H1) (Hook.keeps Mine.H1) (fun s e => xl_of s (Bool.and_eq_true_iff.mp e).1) XL.keeps (by rfl) (by rfl) (by rfl) (fun s e => recFacts_of (Bool.and_eq_true_iff.mp e).2) (by rfl) said (by decide +kernel) ⟨rfl, rfl, rfl, rfl, rfl, by decide +kernel⟩ ?hw ?hc
  case hw => w_witness2
  intro w s₀ s₁ mg mb G Y fa o pm cd doc dV kV ho hd hcd hD hmg hg args vals as hpre hlay hrd hwl hlo
  have KX : (Mine.K1 w.params).In s₁.heap := Y
  refine Ground.open G ?_
  intro T B D TE TW
  wrow_args hpre hlay hrd hwl hlo
  clear hd hcd hD ho
  rename_i ns _ _ _ _ _ _ _ la vs _ hL _ _ _ hI _ hc _
  have fa_eq : fa = 317 := by
    have h1 := mg_of (n := Str.ofString "law") (v := .ref 317) KX (topRead_of T).g rfl
    have h2 : mg (Str.ofString "law") = some (.ref fa) := hmg
    rw [h1] at h2
    cases h2; rfl
  subst fa_eq
  refine enter_call (codeAny_mono ?_ (fun _ _ g => GoodW.toG g))
  obtain ⟨st', L⟩ := Mine.law1 (c := Mine.mkC1 (prog := PySem.Challenge.rw_pd_canopyofobjects_1_03.row.prog) KX (topRead_of T) la vs ns hL hI) (Mine.pgok1 KX (topRead_of T) la vs ns hL hI) (by show ns.length ≤ 63; omega) rfl rfl
  refine L callerA ⟨[], [], fun _ => False⟩ s₁ [.ref la] _ ⟨rfl, by decide +kernel, by decide +kernel⟩ ?_ (.cons .scr .nil) ?_
  · exact ⟨rfl, rfl, (fun k i a d h => by cases h), List.nodup_nil, List.nodup_nil, (fun d hd => by cases hd), (fun d hd => by cases hd), (fun b hb => False.elim hb), (fun b o e => ⟨e, fun h => h⟩)⟩
  · intro val h' tk' g' G' W' R'
    cases R'
    refine ⟨.inl ⟨.bool true, .bool true, [], rfl, fun cls => ?_, .bool true, ?_, fun _ => ⟨List.nodup_nil, (fun a ha => by cases ha)⟩⟩, fun b o e => G'.keep b o e (by simp), rfl, hg⟩
    · rfl
    · wrow_post
