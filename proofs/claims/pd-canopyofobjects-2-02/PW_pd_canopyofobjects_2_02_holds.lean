import PyProof.Rows.All
import Wide.All
import OpenK.AllK
import Wide.FinOn
import PySem.Challenge.RW_pd_canopyofobjects_2_02
set_option Elab.async false
set_option maxRecDepth 1000000
set_option genSizeOf false
set_option genSizeOfSpec false
set_option genInjectivity false

namespace Mine
open PySem PySem.W PySem.Calls PyProof.Rows

abbrev Ps := PySem.Pos
inductive BOp where | add | sub | mul | mod | fdiv
def BOp.py : BOp → Operator
  | .add => .Add | .sub => .Sub | .mul => .Mult | .mod => .Mod | .fdiv => .FloorDiv
inductive COp where | lt | le | gt | ge | eq | ne | is | isnot | notin
def COp.py : COp → CmpOp
  | .lt => .Lt | .le => .LtE | .gt => .Gt | .ge => .GtE | .eq => .Eq | .ne => .NotEq | .is => .Is | .isnot => .IsNot | .notin => .NotIn
inductive Cal where | fn (k : Nat) | cls (k : Nat) | len | sum | max | list | tuple | range

inductive E where
  | none (p : Ps)
  | int (i : Int) (p : Ps)
  | neg (i : Int) (q p : Ps)
  | bool (b : Bool) (p : Ps)
  | loc (i : Nat) (x : Str) (p : Ps)
  | glob (g : Nat) (x : Str) (p : Ps)
  | bin (op : BOp) (a b : E) (p : Ps)
  | cmp (op : COp) (a b : E) (p : Ps)
  | attr (e : E) (f : Nat) (x : Str) (p : Ps)
  | idx (a b : E) (p : Ps)
  | slice (a : E) (lo hi : Option E) (q p : Ps)
  | list (es : List E) (p : Ps)
  | tup (es : List E) (k : Nat) (p : Ps)
  | call (f : Cal) (x : Str) (q : Ps) (es : List E) (p : Ps)
  | meth (o : E) (f : Nat) (x : Str) (q : Ps) (es : List E) (p : Ps)
  | comp (elt : E) (caps : List Nat) (x : Str) (q : Ps) (it : E) (sc : Scope) (p : Ps)
mutual
def E.py : E → PySem.Expr
  | .none p => .Constant .none 0 p
  | .int i p => .Constant (.int i) 0 p
  | .neg i q p => .UnaryOp .USub (.Constant (.int i) 0 q) p
  | .bool b p => .Constant (.bool b) 0 p
  | .loc _ x p => .Name x p
  | .glob _ x p => .Name x p
  | .bin op a b p => .BinOp a.py op.py b.py p
  | .cmp op a b p => .Compare a.py [op.py] [b.py] p
  | .attr e _ x p => .Attribute e.py x p
  | .idx a b p => .Subscript a.py b.py p
  | .slice a lo hi q p => .Subscript a.py (.Slice (Eo.py lo) (Eo.py hi) Option.none q) p
  | .list es p => .List (Es.py es) p
  | .tup es k p => .Tuple (Es.py es) k p
  | .call _ x q es p => .Call (.Name x q) (Es.py es) [] p
  | .meth o _ x q es p => .Call (.Attribute o.py x q) (Es.py es) [] p
  | .comp elt _ x q it sc p => .ListComp elt.py [⟨.Name x q, it.py, [], 0⟩] sc p
def Es.py : List E → List PySem.Expr
  | [] => []
  | e :: es => e.py :: Es.py es
def Eo.py : Option E → Option PySem.Expr
  | Option.none => Option.none
  | some e => some e.py
end

inductive C where
  | e (x : E)
  | cmp (op : COp) (a b : E) (p : Ps)
  | not (c : C) (p : Ps)
  | and (cs : List C) (p : Ps)
  | or (cs : List C) (p : Ps)
mutual
def C.py : C → PySem.Expr
  | .e x => x.py
  | .cmp op a b p => .Compare a.py [op.py] [b.py] p
  | .not c p => .UnaryOp .Not c.py p
  | .and cs p => .BoolOp .And (Cs.py cs) p
  | .or cs p => .BoolOp .Or (Cs.py cs) p
def Cs.py : List C → List PySem.Expr
  | [] => []
  | e :: es => e.py :: Cs.py es
end

inductive S where
  | assign (i : Nat) (x : Str) (q : Ps) (e : E) (p : Ps)
  | own (i : Nat) (x : Str) (q : Ps) (es : List E) (lp p : Ps)
  | setattr (o : E) (f : Nat) (x : Str) (q : Ps) (e : E) (p : Ps)
  | unpack (is : List (Nat × Str × Ps)) (k : Nat) (q : Ps) (e : E) (p : Ps)
  | ite (c : C) (a b : List S) (p : Ps)
  | for (i : Nat) (x : Str) (q : Ps) (it : E) (body : List S) (p : Ps)
  | while (c : C) (body : List S) (p : Ps)
  | ret (e : E) (p : Ps)
  | expr (e : E) (p : Ps)
  | append (i : Nat) (x : Str) (xp ap : Ps) (e : E) (cp p : Ps)
  | del (i : Nat) (x : Str) (xp : Ps) (e : E) (sp p : Ps)
  | freeze (i : Nat)
  | raw (t : PySem.Stmt)
mutual
def S.py : S → List PySem.Stmt
  | .assign _ x q e p => [.Assign [.Name x q] e.py p]
  | .own _ x q es lp p => [.Assign [.Name x q] (.List (Es.py es) lp) p]
  | .setattr o _ x q e p => [.Assign [.Attribute o.py x q] e.py p]
  | .unpack is k q e p => [.Assign [.Tuple (is.map fun y => .Name y.2.1 y.2.2) k q] e.py p]
  | .ite c a b p => [.If c.py (Ss.py a) (Ss.py b) p]
  | .for _ x q it body p => [.For (.Name x q) it.py (Ss.py body) [] p]
  | .while c body p => [.While c.py (Ss.py body) [] p]
  | .ret e p => [.Return (some e.py) p]
  | .expr e p => [.Expr e.py p]
  | .append _ x xp ap e cp p => [.Expr (.Call (.Attribute (.Name x xp) "append" ap) [e.py] [] cp) p]
  | .del _ x xp e sp p => [.Delete [.Subscript (.Name x xp) e.py sp] p]
  | .freeze _ => []
  | .raw t => [t]
def Ss.py : List S → List PySem.Stmt
  | [] => []
  | s :: ss => s.py ++ Ss.py ss
end

/-- the data -/
inductive V where
  | scr | none | bool (b : Bool) | int (i : Int) | key (n : Nat) | val (n : Nat)
  | list (xs : List V) | tup (xs : List V) | obj (k : Nat)
inductive LV where
  | unset | v (x : V) | own (xs : List V) | dct (f : Int → Option V) (n : Nat)
structure Inst where
  cls : Nat
  fs : List V

structure Cn where
  prog : Program
  w : World
  hb : Heap
  K : Frag
  p : Program
  loose : List Str
  mg : Str → Option Value
  mb : Str → Option Value
  X : K.In hb
  T : TopRead p loose mg mb hb
  kv : Nat → Int
  vv : Nat → Int
  kv_lt : ∀ i j, i < j → kv i < kv j
  cls : Nat → Addr
  fld : Nat → List Str
  scr : Addr
  sws : List Value
  sns : List Int
  hscr : hb.IsList scr sws.toArray
  hsns : IntsAre sws sns

structure Gh where
  ρ : List Addr
  δ : List Addr
  M : Addr → Prop

mutual
inductive RV (c : Cn) (g : Gh) (h : Heap) : V → Value → Prop where
  | scr : RV c g h .scr (.ref c.scr)
  | none : RV c g h .none .none
  | bool (b : Bool) : RV c g h (.bool b) (.bool b)
  | int (i : Int) (t : Tok) : RV c g h (.int i) (.int i t)
  | key (n : Nat) (t : Tok) : RV c g h (.key n) (.int (c.kv n) t)
  | val (n : Nat) (t : Tok) : RV c g h (.val n) (.int (c.vv n) t)
  | obj {k : Nat} {a : Addr} : g.ρ[k]? = some a → RV c g h (.obj k) (.ref a)
  | list {xs : List V} {a : Addr} {ws : List Value} {n : Nat} : h.get? a = some { cls := .type "list", data := .seq ws.toArray n } → ¬ g.M a → RVs c g h xs ws → RV c g h (.list xs) (.ref a)
  | tup {xs : List V} {a : Addr} {ws : List Value} {n : Nat} : h.get? a = some { cls := .type "tuple", data := .seq ws.toArray n } → ¬ g.M a → RVs c g h xs ws → RV c g h (.tup xs) (.ref a)
inductive RVs (c : Cn) (g : Gh) (h : Heap) : List V → List Value → Prop where
  | nil : RVs c g h [] []
  | cons {x : V} {w : Value} {xs : List V} {ws : List Value} : RV c g h x w → RVs c g h xs ws → RVs c g h (x :: xs) (w :: ws)
end

structure Gro (g : Gh) (h : Heap) (g' : Gh) (h' : Heap) : Prop where
  ρ : g.ρ <+: g'.ρ
  δ : g.δ <+: g'.δ
  keep : ∀ b o, h.get? b = some o → b ∉ g.δ → h'.get? b = some o
  dom : ∀ b o, h.get? b = some o → ∃ o', h'.get? b = some o'
  M : ∀ b o, h.get? b = some o → (g'.M b ↔ g.M b)
  new : ∀ b o, h.get? b = some o → b ∈ g'.δ → b ∈ g.δ
theorem Gro.refl (g : Gh) (h : Heap) : Gro g h g h := ⟨List.prefix_refl _, List.prefix_refl _, fun _ _ e _ => e, fun _ o e => ⟨o, e⟩, fun _ _ _ => Iff.rfl, fun _ _ _ e => e⟩
theorem Gro.trans {g g' g'' : Gh} {h h' h'' : Heap} (x : Gro g h g' h') (y : Gro g' h' g'' h'') : Gro g h g'' h'' := by
  refine ⟨x.ρ.trans y.ρ, x.δ.trans y.δ, fun b o e n => y.keep b o (x.keep b o e n) fun q => n (x.new b o e q), fun b o e => ?_, fun b o e => ?_, fun b o e q => ?_⟩
  · obtain ⟨o', e'⟩ := x.dom b o e; exact y.dom b o' e'
  · obtain ⟨o', e'⟩ := x.dom b o e; exact (y.M b o' e').trans (x.M b o e)
  · obtain ⟨o', e'⟩ := x.dom b o e; exact x.new b o e (y.new b o' e' q)

inductive FR (c : Cn) (g : Gh) (h : Heap) : List Str → List DictEntry → List V → Prop where
  | nil {ns : List Str} : FR c g h ns [] []
  | cons {n : Str} {hs : Int} {t : Tok} {w : Value} {x : V} {ns : List Str} {es : List DictEntry} {xs : List V} : RV c g h x w → FR c g h ns es xs → FR c g h (n :: ns) (⟨hs, .str n t, w⟩ :: es) (x :: xs)

structure Wd (c : Cn) (g : Gh) (st : List Inst) (h : Heap) : Prop where
  lenρ : g.ρ.length = st.length
  lenδ : g.δ.length = st.length
  inst : ∀ (k : Nat) (i : Inst) (a d : Addr), st[k]? = some i → g.ρ[k]? = some a → g.δ[k]? = some d → h.get? a = some (instObj (c.cls i.cls) d) ∧ ∃ es n, h.get? d = some (dictOf es n) ∧ FR c g h (c.fld i.cls) es i.fs
  ndδ : g.δ.Nodup
  ndρ : g.ρ.Nodup
  Mδ : ∀ d ∈ g.δ, g.M d
  Mρ : ∀ a ∈ g.ρ, ¬ g.M a
  Mdom : ∀ b, g.M b → ∃ o, h.get? b = some o
  base : ∀ b o, c.hb.get? b = some o → h.get? b = some o ∧ ¬ g.M b

theorem pre_get {α : Type} {l l' : List α} (p : l <+: l') {i : Nat} {a : α} (e : l[i]? = some a) : l'[i]? = some a := by
  obtain ⟨t, rfl⟩ := p
  rw [List.getElem?_append_left (List.getElem?_eq_some_iff.mp e).1]; exact e
section
variable {c : Cn} {g g' : Gh} {h h' : Heap}
mutual
theorem RV.mono {v : V} {w : Value} (x : RV c g h v w) (hr : g.ρ <+: g'.ρ) (k : ∀ b o, h.get? b = some o → ¬ g.M b → h'.get? b = some o ∧ ¬ g'.M b) : RV c g' h' v w := by
  cases x with
  | scr => exact .scr
  | none => exact .none
  | bool b => exact .bool b
  | int i t => exact .int i t
  | key n t => exact .key n t
  | val n t => exact .val n t
  | obj e => exact .obj (pre_get hr e)
  | list e m r => exact .list (k _ _ e m).1 (k _ _ e m).2 (RVs.mono r hr k)
  | tup e m r => exact .tup (k _ _ e m).1 (k _ _ e m).2 (RVs.mono r hr k)
theorem RVs.mono {v : List V} {w : List Value} (x : RVs c g h v w) (hr : g.ρ <+: g'.ρ) (k : ∀ b o, h.get? b = some o → ¬ g.M b → h'.get? b = some o ∧ ¬ g'.M b) : RVs c g' h' v w := by
  cases x with
  | nil => exact .nil
  | cons a b => exact .cons (RV.mono a hr k) (RVs.mono b hr k)
end
theorem FR.mono {ns : List Str} {es : List DictEntry} {xs : List V} (x : FR c g h ns es xs) (hr : g.ρ <+: g'.ρ) (k : ∀ b o, h.get? b = some o → ¬ g.M b → h'.get? b = some o ∧ ¬ g'.M b) : FR c g' h' ns es xs := by
  induction x with
  | nil => exact .nil
  | cons a _ ih => exact .cons (a.mono hr k) ih
theorem Wd.imm {st : List Inst} (W : Wd c g st h) (G : Gro g h g' h') : ∀ b o, h.get? b = some o → ¬ g.M b → h'.get? b = some o ∧ ¬ g'.M b :=
  fun b o e m => ⟨G.keep b o e fun q => m (W.Mδ b q), fun q => m ((G.M b o e).mp q)⟩
theorem RV.gro {st : List Inst} {v : V} {w : Value} (x : RV c g h v w) (W : Wd c g st h) (G : Gro g h g' h') : RV c g' h' v w := x.mono G.ρ (W.imm G)
theorem RVs.gro {st : List Inst} {v : List V} {w : List Value} (x : RVs c g h v w) (W : Wd c g st h) (G : Gro g h g' h') : RVs c g' h' v w := x.mono G.ρ (W.imm G)
theorem RVs.length {v : List V} {w : List Value} (x : RVs c g h v w) : w.length = v.length := by
  induction v generalizing w with
  | nil => cases x; rfl
  | cons a l ih => cases x with | cons _ r => rw [List.length_cons, List.length_cons, ih r]
theorem RVs.get {v : List V} {w : List Value} (x : RVs c g h v w) {i : Nat} {a : V} (e : v[i]? = some a) : ∃ b, w[i]? = some b ∧ RV c g h a b := by
  induction v generalizing w i with
  | nil => cases e
  | cons y l ih =>
    cases x with
    | cons q r =>
      cases i with
      | zero => cases e; exact ⟨_, rfl, q⟩
      | succ i => exact ih r e
theorem RVs.get' {v : List V} {w : List Value} (x : RVs c g h v w) {i : Nat} {b : Value} (e : w[i]? = some b) : ∃ a, v[i]? = some a ∧ RV c g h a b := by
  induction v generalizing w i with
  | nil => cases x; cases e
  | cons y l ih =>
    cases x with
    | cons q r =>
      cases i with
      | zero => cases e; exact ⟨_, rfl, q⟩
      | succ i => exact ih r e
theorem RVs.append {v v' : List V} {w w' : List Value} (x : RVs c g h v w) (y : RVs c g h v' w') : RVs c g h (v ++ v') (w ++ w') := by
  induction v generalizing w with
  | nil => cases x; exact y
  | cons a l ih => cases x with | cons q r => exact .cons q (ih r)
theorem RVs.take {v : List V} {w : List Value} (x : RVs c g h v w) (n : Nat) : RVs c g h (v.take n) (w.take n) := by
  induction v generalizing w n with
  | nil => cases x; simp; exact .nil
  | cons a l ih =>
    cases x with
    | cons q r =>
      cases n with
      | zero => exact .nil
      | succ n => exact .cons q (ih r n)
theorem RVs.drop {v : List V} {w : List Value} (x : RVs c g h v w) (n : Nat) : RVs c g h (v.drop n) (w.drop n) := by
  induction v generalizing w n with
  | nil => cases x; simp; exact .nil
  | cons a l ih =>
    cases x with
    | cons q r =>
      cases n with
      | zero => exact .cons q r
      | succ n => exact ih r n
end

structure Room (n : Nat) (A : Around) : Prop where
  hd : A.handled = none
  dep : A.depth + 4 * n < 900
  uni : A.units + 100 * n < 9000
end Mine

namespace Mine
open PySem PySem.W PySem.Calls PyProof.Rows

structure Nm where
  ns : List Str
  gs : List Str
  cs : List Str
  ls : List Str
structure EnvOk (nm : Nm) (env : Env) : Prop where
  ls : ∀ x ∈ nm.ls, env.kindOf x = some .local
  cs : ∀ x ∈ nm.cs, env.kindOf x = some .cell
  gs : ∀ x ∈ nm.gs, env.kindOf x = some .globalImplicit
  kind : env.scope.kind = .function
  gl : env.globals = mainGlobals
  bl : env.builtins = builtinsNs

/-- the name's value as the frame bears it -/
inductive Reach (g : Gh) (env : Env) (h : Heap) (x : Str) (v : Value) : Prop where
  | loc (m : Str → Option Value) : env.kindOf x = some .local → h.Ns env.locals m → env.locals ∉ g.δ → m x = some v → Reach g env h x v
  | cell (a : Addr) : env.kindOf x = some .cell → env.cells.lookup x = some a → a ∉ g.δ → h.IsCell a (some v) → Reach g env h x v

/-- a dict of ints -/
inductive OR (c : Cn) (g : Gh) (h : Heap) : Option V → Option Value → Prop where
  | no : OR c g h none none
  | yes {v : V} {w : Value} : RV c g h v w → OR c g h (some v) (some w)
structure DObj (c : Cn) (g : Gh) (h : Heap) (o : Obj) (f : Int → Option V) (n : Nat) : Prop where
  ex : o.ExactDict
  dat : ∃ (es : Array DictEntry) (ep : Nat) (fw : Int → Option Value), o.data = .dict es ep ∧ KeysOf (intKind c.prog c.w) es ∧ (∀ k, findBy (intKind c.prog c.w).is es k = fw k) ∧ es.size ≤ n ∧ ∀ k, OR c g h (f k) (fw k)
theorem OR.mono {c : Cn} {g g' : Gh} {h h' : Heap} {v : Option V} {w : Option Value} (x : OR c g h v w) (hr : g.ρ <+: g'.ρ) (k : ∀ b o, h.get? b = some o → ¬ g.M b → h'.get? b = some o ∧ ¬ g'.M b) : OR c g' h' v w := by
  cases x with
  | no => exact .no
  | yes r => exact .yes (r.mono hr k)
theorem DObj.mono {c : Cn} {g g' : Gh} {h h' : Heap} {o : Obj} {f : Int → Option V} {n : Nat} (x : DObj c g h o f n) (hr : g.ρ <+: g'.ρ) (k : ∀ b o, h.get? b = some o → ¬ g.M b → h'.get? b = some o ∧ ¬ g'.M b) : DObj c g' h' o f n :=
  let ⟨es, ep, fw, a, b, c, d, e⟩ := x.dat
  ⟨x.ex, es, ep, fw, a, b, c, d, fun i => (e i).mono hr k⟩
theorem DObj.ne {c : Cn} {g : Gh} {h h1 : Heap} {o o' : Obj} {a b : Addr} {f : Int → Option V} {n : Nat} (x : DObj c g h o f n) (e : h1.get? a = some o) (e' : h1.get? b = some o') (d : ∀ es ep, o'.data ≠ .dict es ep) : a ≠ b := by
  rintro rfl
  rw [e] at e'; cases e'
  obtain ⟨es, ep, fw, q, _⟩ := x.dat
  exact d es ep q
theorem DObj.neC {c : Cn} {g : Gh} {h h1 : Heap} {o : Obj} {a b : Addr} {f : Int → Option V} {n : Nat} {v : Option Value} (x : DObj c g h o f n) (e : h1.get? a = some o) (e' : h1.IsCell b v) : a ≠ b := by
  obtain ⟨o', ho, hd⟩ := e'
  exact x.ne e ho fun es ep q => by rw [hd] at q; cases q

inductive SlotR (c : Cn) (g : Gh) (env : Env) (h : Heap) (x : Str) : LV → Prop where
  | unset : SlotR c g env h x .unset
  | v {y : V} {w : Value} : Reach g env h x w → RV c g h y w → SlotR c g env h x (.v y)
  | own {xs : List V} {ws : List Value} {a : Addr} {n : Nat} : Reach g env h x (.ref a) → h.get? a = some { cls := .type "list", data := .seq ws.toArray n } → g.M a → a ∉ g.δ → RVs c g h xs ws → SlotR c g env h x (.own xs)
  | dct {f : Int → Option V} {n : Nat} {o : Obj} {a : Addr} : Reach g env h x (.ref a) → h.get? a = some o → g.M a → a ∉ g.δ → a ≠ sysModules → DObj c g h o f n → SlotR c g env h x (.dct f n)

def Le (c : Cn) (env : Env) (ns : List Str) (g : Gh) (h : Heap) (loc : List LV) : Prop :=
  ∀ (i : Nat) (x : Str) (lv : LV), ns[i]? = some x → loc[i]? = some lv → SlotR c g env h x lv

theorem ns_at {h h' : Heap} {a : Addr} {m : Str → Option Value} (x : h.Ns a m) (e : ∀ o, h.get? a = some o → h'.get? a = some o) : h'.Ns a m := by
  obtain ⟨o, es, ep, ho, r⟩ := x; exact ⟨o, es, ep, e _ ho, r⟩
theorem cell_at {h h' : Heap} {a : Addr} {m : Option Value} (x : h.IsCell a m) (e : ∀ o, h.get? a = some o → h'.get? a = some o) : h'.IsCell a m := by
  obtain ⟨o, ho, r⟩ := x; exact ⟨o, e _ ho, r⟩
section
variable {c : Cn} {g g' : Gh} {h h' : Heap} {env : Env} {ns : List Str} {loc : List LV} {st : List Inst}
theorem Reach.gro {x : Str} {v : Value} (R : Reach g env h x v) (G : Gro g h g' h') : Reach g' env h' x v := by
  cases R with
  | loc m k n d e =>
    obtain ⟨o, es, ep, ho, r⟩ := id n
    exact .loc m k (ns_at n fun o ho => G.keep _ _ ho d) (fun q => d (G.new _ _ ho q)) e
  | cell a k l d e =>
    obtain ⟨o, ho, r⟩ := id e
    exact .cell a k l (fun q => d (G.new _ _ ho q)) (cell_at e fun o ho => G.keep _ _ ho d)
theorem SlotR.gro {x : Str} {lv : LV} (R : SlotR c g env h x lv) (W : Wd c g st h) (G : Gro g h g' h') : SlotR c g' env h' x lv := by
  cases R with
  | unset => exact .unset
  | v r y => exact .v (r.gro G) (y.gro W G)
  | own r e m d y => exact .own (r.gro G) (G.keep _ _ e d) ((G.M _ _ e).mpr m) (fun q => d (G.new _ _ e q)) (y.gro W G)
  | dct r e m d z y => exact .dct (r.gro G) (G.keep _ _ e d) ((G.M _ _ e).mpr m) (fun q => d (G.new _ _ e q)) z (y.mono G.ρ (W.imm G))
theorem Le.gro (L : Le c env ns g h loc) (W : Wd c g st h) (G : Gro g h g' h') : Le c env ns g' h' loc := fun i x lv a b => (L i x lv a b).gro W G
end

abbrev Cn.M (c : Cn) : Model := model c.prog c.w

def Pst (c : Cn) (g : Gh) (s : Shared) (st' : List Inst) (v : V) (Q : Value → Shared → Prop) : Prop :=
  ∀ val h' tk' g', Gro g s.heap g' h' → Wd c g' st' h' → RV c g' h' v val → Q val { s with heap := h', toks := tk' }
def PstB (c : Cn) (g : Gh) (s : Shared) (st' : List Inst) (b : Bool) (Q : Bool → Shared → Prop) : Prop :=
  ∀ h' tk' g', Gro g s.heap g' h' → Wd c g' st' h' → Q b { s with heap := h', toks := tk' }
def PstL (c : Cn) (g : Gh) (s : Shared) (st' : List Inst) (vs : List V) (Q : List Value → Shared → Prop) : Prop :=
  ∀ vals h' tk' g', Gro g s.heap g' h' → Wd c g' st' h' → RVs c g' h' vs vals → Q vals { s with heap := h', toks := tk' }

/-- an expression's value -/
def SE (c : Cn) (nm : Nm) (n : Nat) (e : E) (loc : List LV) (st : List Inst) (v : V) (st' : List Inst) : Prop :=
  ∀ (A : Around) (env : Env) (g : Gh) (s : Shared) (Q : Value → Shared → Prop) (Ex : Value → Shared → Prop),
    Room n A → EnvOk nm env → Wd c g st s.heap → Le c env nm.ns g s.heap loc → Pst c g s st' v Q → wpAny c.M A (eval e.py env) Q Ex s
/-- a test -/
def SC (c : Cn) (nm : Nm) (n : Nat) (e : C) (loc : List LV) (st : List Inst) (b : Bool) (st' : List Inst) : Prop :=
  ∀ (A : Around) (env : Env) (g : Gh) (s : Shared) (Q : Bool → Shared → Prop) (Ex : Value → Shared → Prop),
    Room n A → EnvOk nm env → Wd c g st s.heap → Le c env nm.ns g s.heap loc → PstB c g s st' b Q → wpAny c.M A (isTrue e.py env (eval e.py env)) Q Ex s
/-- several values -/
def SEs (c : Cn) (nm : Nm) (n : Nat) (es : List E) (loc : List LV) (st : List Inst) (vs : List V) (st' : List Inst) : Prop :=
  ∀ (A : Around) (env : Env) (g : Gh) (s : Shared) (Q : List Value → Shared → Prop) (Ex : Value → Shared → Prop) (pos : Ps),
    Room n A → EnvOk nm env → Wd c g st s.heap → Le c env nm.ns g s.heap loc → PstL c g s st' vs Q → wpAny c.M A (spliced (backTo pos (starEach (Es.py es) env))) Q Ex s

theorem Pst.trans {c : Cn} {g g' : Gh} {s : Shared} {h' : Heap} {tk : Nat} {st' : List Inst} {v : V} {Q : Value → Shared → Prop} (P : Pst c g s st' v Q) (G : Gro g s.heap g' h') : Pst c g' { s with heap := h', toks := tk } st' v Q :=
  fun val h'' tk'' g'' G' W' R' => P val h'' tk'' g'' (G.trans G') W' R'
theorem PstB.trans {c : Cn} {g g' : Gh} {s : Shared} {h' : Heap} {tk : Nat} {st' : List Inst} {v : Bool} {Q : Bool → Shared → Prop} (P : PstB c g s st' v Q) (G : Gro g s.heap g' h') : PstB c g' { s with heap := h', toks := tk } st' v Q :=
  fun h'' tk'' g'' G' W' => P h'' tk'' g'' (G.trans G') W'
theorem PstL.trans {c : Cn} {g g' : Gh} {s : Shared} {h' : Heap} {tk : Nat} {st' : List Inst} {v : List V} {Q : List Value → Shared → Prop} (P : PstL c g s st' v Q) (G : Gro g s.heap g' h') : PstL c g' { s with heap := h', toks := tk } st' v Q :=
  fun val h'' tk'' g'' G' W' R' => P val h'' tk'' g'' (G.trans G') W' R'
theorem Pst.here {c : Cn} {g : Gh} {s : Shared} {tk : Nat} {st : List Inst} {v : V} {w : Value} {Q : Value → Shared → Prop} (P : Pst c g s st v Q) (W : Wd c g st s.heap) (R : RV c g s.heap v w) : Q w { s with toks := tk } :=
  P w s.heap tk g (Gro.refl _ _) W R
theorem PstB.here {c : Cn} {g : Gh} {s : Shared} {tk : Nat} {st : List Inst} {v : Bool} {Q : Bool → Shared → Prop} (P : PstB c g s st v Q) (W : Wd c g st s.heap) : Q v { s with toks := tk } :=
  P s.heap tk g (Gro.refl _ _) W

section
variable {c : Cn} {nm : Nm} {n : Nat} {loc : List LV} {st st₁ st₂ : List Inst}

theorem sE_none {p : Ps} : SE c nm n (.none p) loc st .none st := fun A env g s Q Ex _ _ W _ P => by
  show wpAny _ _ (eval (.Constant .none 0 p) env) Q Ex s
  exact wpAny_Constant_none (P.here W .none)
theorem sE_bool {b : Bool} {p : Ps} : SE c nm n (.bool b p) loc st (.bool b) st := fun A env g s Q Ex _ _ W _ P => by
  show wpAny _ _ (eval (.Constant (.bool b) 0 p) env) Q Ex s
  exact wpAny_Constant_bool (P.here W (.bool b))
theorem sE_int {i : Int} {p : Ps} : SE c nm n (.int i p) loc st (.int i) st := fun A env g s Q Ex _ _ W _ P => by
  show wpAny _ _ (eval (.Constant (.int i) 0 p) env) Q Ex s
  exact wpAny_Constant_int (P.here W (.int i _))

theorem reach_load {nm : Nm} {env : Env} {g : Gh} {s : Shared} {x : Str} {v : Value} {M : Model} {A : Around} {Q : Value → Shared → Prop} {Ex : Value → Shared → Prop} (eo : EnvOk nm env) (R : Reach g env s.heap x v) (h : Q v s) : wpAny M A (loadName env x) Q Ex s := by
  cases R with
  | loc m k n d e => exact wpAny_loadName_local eo.kind k n e h
  | cell a k l d e => exact wpAny_loadName_cell eo.kind k l e h
theorem sE_loc {i : Nat} {x : Str} {p : Ps} {v : V} (hx : nm.ns[i]? = some x) (hl : loc[i]? = some (.v v)) (hd : (x == ("__debug__" : Str)) = false) : SE c nm n (.loc i x p) loc st v st := fun A env g s Q Ex _ eo W L P => by
  show wpAny _ _ (eval (.Name x p) env) Q Ex s
  cases L i x _ hx hl with
  | v R y => exact wpAny_Name (reach_load eo R (P.here (tk := s.toks) W y)) hd

/-- what an operator gives -/
def BinOk (c : Cn) (n : Nat) (op : BOp) (a b v : V) : Prop :=
  ∀ (A : Around) (g : Gh) (s : Shared) (st : List Inst) (x y : Value) (Q : Value → Shared → Prop) (Ex : Value → Shared → Prop),
    Room n A → Wd c g st s.heap → RV c g s.heap a x → RV c g s.heap b y → Pst c g s st v Q → wpAny c.M A (binaryOp op.py x y) Q Ex s
def CmpOk (c : Cn) (n : Nat) (op : COp) (a b : V) (v : Bool) : Prop :=
  ∀ (A : Around) (g : Gh) (s : Shared) (st : List Inst) (x y : Value) (Q : Value → Shared → Prop) (Ex : Value → Shared → Prop),
    Room n A → Wd c g st s.heap → RV c g s.heap a x → RV c g s.heap b y → Pst c g s st (.bool v) Q → wpAny c.M A (compareOp op.py x y) Q Ex s

theorem sE_bin {op : BOp} {a b : E} {p : Ps} {x y v : V} (ha : SE c nm n a loc st x st₁) (hb : SE c nm n b loc st₁ y st₂) (ho : BinOk c n op x y v) : SE c nm n (.bin op a b p) loc st v st₂ := fun A env g s Q Ex r eo W L P => by
  show wpAny _ _ (eval (.BinOp a.py op.py b.py p) env) Q Ex s
  refine wpAny_BinOp (ha A env g s _ Ex r eo W L fun wa h₁ t₁ g₁ G₁ W₁ R₁ => ?_)
  refine hb A env g₁ _ _ Ex r eo W₁ (L.gro W G₁) fun wb h₂ t₂ g₂ G₂ W₂ R₂ => ?_
  exact ho A g₂ _ st₂ wa wb Q Ex r W₂ (R₁.gro W₁ G₂) R₂ (P.trans (G₁.trans G₂))
theorem marks_ok (op : COp) (e : PySem.Expr) : behindInMarks op.py e = false ∨ op = .notin := by
  cases op <;> first | exact .inr rfl | (left; cases e <;> first | rfl | (simp [behindInMarks, COp.py]))
end
end Mine

namespace Mine
open PySem PySem.W PySem.Calls PyProof.Rows

section
variable {c : Cn} {g : Gh} {st : List Inst} {h : Heap}
theorem Gro.push (g : Gh) (h : Heap) (o : Obj) : Gro g h g (h.push o) :=
  ⟨List.prefix_refl _, List.prefix_refl _, fun _ _ e _ => Heap.get?_push_of_some _ e, fun _ o' e => ⟨o', Heap.get?_push_of_some _ e⟩, fun _ _ _ => Iff.rfl, fun _ _ _ e => e⟩
theorem Wd.push (W : Wd c g st h) (o : Obj) : Wd c g st (h.push o) := by
  refine ⟨W.lenρ, W.lenδ, fun k i a d h1 h2 h3 => ?_, W.ndδ, W.ndρ, W.Mδ, W.Mρ, fun b m => ?_, fun b o' e => ⟨Heap.get?_push_of_some _ (W.base b o' e).1, (W.base b o' e).2⟩⟩
  · obtain ⟨e1, es, n, e2, r⟩ := W.inst k i a d h1 h2 h3
    exact ⟨Heap.get?_push_of_some _ e1, es, n, Heap.get?_push_of_some _ e2, r.mono (List.prefix_refl _) fun b o' e m => ⟨Heap.get?_push_of_some _ e, m⟩⟩
  · obtain ⟨o', e⟩ := W.Mdom b m; exact ⟨o', Heap.get?_push_of_some _ e⟩
theorem Wd.fresh (W : Wd c g st h) : ¬ g.M h.objs.size := fun m => let ⟨_, e⟩ := W.Mdom _ m; Nat.lt_irrefl _ (Heap.lt_size e)
theorem RV.newList (W : Wd c g st h) {xs : List V} {ws : List Value} (r : RVs c g h xs ws) : RV c g (h.push { cls := .type "list", data := .seq ws.toArray }) (.list xs) (.ref h.objs.size) :=
  .list (Heap.get?_push_size _ rfl) W.fresh (r.gro W (Gro.push g h _))
theorem RV.newTup (W : Wd c g st h) {xs : List V} {ws : List Value} (r : RVs c g h xs ws) : RV c g (h.push { cls := .type "tuple", data := .seq ws.toArray }) (.tup xs) (.ref h.objs.size) :=
  .tup (Heap.get?_push_size _ rfl) W.fresh (r.gro W (Gro.push g h _))
theorem Pst.new {s : Shared} {st' : List Inst} {v : V} {Q : Value → Shared → Prop} {o : Obj} {w : Value} {tk : Nat} (P : Pst c g s st' v Q) (W : Wd c g st' s.heap) (R : RV c g (s.heap.push o) v w) : Q w { s with heap := s.heap.push o, toks := tk } :=
  P w _ tk g (Gro.push g _ o) (W.push o) R
end

/-- the int a datum stands for -/
def V.iv (c : Cn) : V → Option Int
  | .int i => some i
  | .key n => some (c.kv n)
  | .val n => some (c.vv n)
  | _ => Option.none
theorem RV.iv {c : Cn} {g : Gh} {h : Heap} {v : V} {w : Value} {i : Int} (R : RV c g h v w) (e : v.iv c = some i) : ∃ t, w = .int i t := by
  cases R with
  | int i t => cases e; exact ⟨t, rfl⟩
  | key n t => cases e; exact ⟨t, rfl⟩
  | val n t => cases e; exact ⟨t, rfl⟩
  | _ => cases e

section
variable {c : Cn} {n : Nat} {a b : V} {i j : Int}
theorem bin_add (ha : a.iv c = some i) (hb : b.iv c = some j) : BinOk c n .add a b (.int (i + j)) := fun A g s st x y Q Ex r W R S P => by
  obtain ⟨t, rfl⟩ := R.iv ha; obtain ⟨u, rfl⟩ := S.iv hb
  exact add_int (P.here W (.int _ _))
theorem bin_sub (ha : a.iv c = some i) (hb : b.iv c = some j) : BinOk c n .sub a b (.int (i - j)) := fun A g s st x y Q Ex r W R S P => by
  obtain ⟨t, rfl⟩ := R.iv ha; obtain ⟨u, rfl⟩ := S.iv hb
  exact sub_int (P.here W (.int _ _))
theorem bin_mul (ha : a.iv c = some i) (hb : b.iv c = some j) (hm : IntMulOk i j) : BinOk c n .mul a b (.int (i * j)) := fun A g s st x y Q Ex r W R S P => by
  obtain ⟨t, rfl⟩ := R.iv ha; obtain ⟨u, rfl⟩ := S.iv hb
  exact mul_int (P.here W (.int _ _)) hm
theorem bin_mod (ha : a.iv c = some i) (hb : b.iv c = some j) (h0 : j ≠ 0) : BinOk c n .mod a b (.int (i.fmod j)) := fun A g s st x y Q Ex r W R S P => by
  obtain ⟨t, rfl⟩ := R.iv ha; obtain ⟨u, rfl⟩ := S.iv hb
  exact mod_int h0 (P.here W (.int _ _))
theorem bin_fdiv2 (ha : a.iv c = some i) (hi : i.natAbs < 1000000) : BinOk c n .fdiv a (.int 2) (.int (i.fdiv 2)) := fun A g s st x y Q Ex r W R S P => by
  obtain ⟨t, rfl⟩ := R.iv ha
  cases S with
  | int k u => exact floordiv_int (by decide) (P.here W (.int _ _)) (Or.inl (PyProof.noPylong_small (by omega)))
theorem bin_cat {xs ys : List V} (hz : xs.length + ys.length ≤ 1000000) : BinOk c n .add (.list xs) (.list ys) (.list (xs ++ ys)) := fun A g s st x y Q Ex r W R S P => by
  cases R with
  | list e1 m1 r1 =>
    cases S with
    | list e2 m2 r2 =>
      rename_i l ws n1 l2 ws2 n2
      refine concat_meets ⟨_, e1, rfl⟩ ⟨_, e2, rfl⟩ noFill_list_add seq_list_add PySem.F.slot_list_add PySem.F.entry_list_add (PySem.F.args_list_add_2 _ _) (list_addW l l2 ws.toArray ws2.toArray n1 n2 none none #[] #[] ?_) ⟨e1, e2, ?_⟩
      · rw [List.size_toArray, List.size_toArray, r1.length, r2.length]; exact Nat.le_trans hz (by decide)
      · have e : ws.toArray ++ ws2.toArray = (ws ++ ws2).toArray := by simp
        rw [e]
        exact P.new (st' := st) W (RV.newList W (r1.append r2))
theorem cmp_lt (ha : a.iv c = some i) (hb : b.iv c = some j) : CmpOk c n .lt a b (decide (i < j)) := fun A g s st x y Q Ex r W R S P => by
  obtain ⟨t, rfl⟩ := R.iv ha; obtain ⟨u, rfl⟩ := S.iv hb
  exact lt_int (P.here (tk := s.toks) W (.bool _))
theorem cmp_gt (ha : a.iv c = some i) (hb : b.iv c = some j) : CmpOk c n .gt a b (decide (j < i)) := fun A g s st x y Q Ex r W R S P => by
  obtain ⟨t, rfl⟩ := R.iv ha; obtain ⟨u, rfl⟩ := S.iv hb
  exact gt_int (P.here (tk := s.toks) W (.bool _))
theorem cmp_le (ha : a.iv c = some i) (hb : b.iv c = some j) : CmpOk c n .le a b (decide (i ≤ j)) := fun A g s st x y Q Ex r W R S P => by
  obtain ⟨t, rfl⟩ := R.iv ha; obtain ⟨u, rfl⟩ := S.iv hb
  exact le_int (P.here (tk := s.toks) W (.bool _))
theorem cmp_ge (ha : a.iv c = some i) (hb : b.iv c = some j) : CmpOk c n .ge a b (decide (j ≤ i)) := fun A g s st x y Q Ex r W R S P => by
  obtain ⟨t, rfl⟩ := R.iv ha; obtain ⟨u, rfl⟩ := S.iv hb
  exact ge_int (P.here (tk := s.toks) W (.bool _))
theorem cmp_eqi (ha : a.iv c = some i) (hb : b.iv c = some j) : CmpOk c n .eq a b (i == j) := fun A g s st x y Q Ex r W R S P => by
  obtain ⟨t, rfl⟩ := R.iv ha; obtain ⟨u, rfl⟩ := S.iv hb
  exact eq_int (P.here (tk := s.toks) W (.bool _))
theorem cmp_nei (ha : a.iv c = some i) (hb : b.iv c = some j) : CmpOk c n .ne a b (i != j) := fun A g s st x y Q Ex r W R S P => by
  obtain ⟨t, rfl⟩ := R.iv ha; obtain ⟨u, rfl⟩ := S.iv hb
  exact ne_int (P.here (tk := s.toks) W (.bool _))
end

section
variable {c : Cn} {nm : Nm} {n : Nat} {loc : List LV} {st st₁ st₂ st₃ : List Inst}

theorem py_marks (op : COp) (e : E) : behindInMarks op.py e.py = false := by
  cases e <;> rfl
theorem sE_cmp {op : COp} {a b : E} {p : Ps} {x y : V} {v : Bool} (ha : SE c nm n a loc st x st₁) (hb : SE c nm n b loc st₁ y st₂) (ho : CmpOk c n op x y v) : SE c nm n (.cmp op a b p) loc st (.bool v) st₂ := fun A env g s Q Ex r eo W L P => by
  show wpAny _ _ (eval (.Compare a.py [op.py] [b.py] p) env) Q Ex s
  refine wpAny_Compare1 (ha A env g s _ Ex r eo W L fun wa h₁ t₁ g₁ G₁ W₁ R₁ => ?_) (py_marks op b)
  refine hb A env g₁ _ _ Ex r eo W₁ (L.gro W G₁) fun wb h₂ t₂ g₂ G₂ W₂ R₂ => ?_
  exact ho A g₂ _ st₂ wa wb Q Ex r W₂ (R₁.gro W₁ G₂) R₂ (P.trans (G₁.trans G₂))
theorem sC_cmp {op : COp} {a b : E} {p : Ps} {x y : V} {v : Bool} (ha : SE c nm n a loc st x st₁) (hb : SE c nm n b loc st₁ y st₂) (ho : CmpOk c n op x y v) : SC c nm n (.cmp op a b p) loc st v st₂ := fun A env g s Q Ex r eo W L P => by
  show wpAny _ _ (isTrue (.Compare a.py [op.py] [b.py] p) env _) Q Ex s
  refine wpAny_isTrue_Compare1 (ha A env g s _ Ex r eo W L fun wa h₁ t₁ g₁ G₁ W₁ R₁ => ?_) (py_marks op b)
  refine hb A env g₁ _ _ Ex r eo W₁ (L.gro W G₁) fun wb h₂ t₂ g₂ G₂ W₂ R₂ => ?_
  refine ho A g₂ _ st₂ wa wb _ Ex r W₂ (R₁.gro W₁ G₂) R₂ fun val h' tk' g' G' W' R' => ?_
  cases R' with
  | bool b => exact wpAny_truthy_bool (P h' tk' g' ((G₁.trans G₂).trans G') W')

theorem py_sub (e : E) (o i : Value) : subscripted e.py false o i = operate [o, i] (getItem o i) := by
  cases e <;> rfl
theorem sE_idx {a b : E} {p : Ps} {xs : List V} {k : Nat} {y v : V} (ha : SE c nm n a loc st (.list xs) st₁) (hb : SE c nm n b loc st₁ y st₂) (hy : y.iv c = some (k : Int)) (hx : xs[k]? = some v) (hz : xs.length ≤ 1000000) : SE c nm n (.idx a b p) loc st v st₂ := fun A env g s Q Ex r eo W L P => by
  show wpAny _ _ (eval (.Subscript a.py b.py p) env) Q Ex s
  refine Subscript_ (ha A env g s _ Ex r eo W L fun wa h₁ t₁ g₁ G₁ W₁ R₁ => ?_)
  refine hb A env g₁ _ _ Ex r eo W₁ (L.gro W G₁) fun wb h₂ t₂ g₂ G₂ W₂ R₂ => ?_
  obtain ⟨t, rfl⟩ := R₂.iv hy
  have R₁' := R₁.gro W₁ G₂
  cases R₁' with
  | list e m q =>
    obtain ⟨w, hw, R⟩ := q.get hx
    have hk := (List.getElem?_eq_some_iff.mp hx).1
    have hl : Heap.IsList h₂ _ _ := ⟨_, e, rfl, _, rfl⟩
    exact tail_any (s := { s with heap := h₂, toks := t₂ }) hl.typeIs slot_list_getitem.lookup (wpAny_getItem_list hl (by omega) (by omega) (by rw [Int.toNat_natCast, List.getElem?_toArray]; exact hw) (P w h₂ t₂ g₂ (G₁.trans G₂) W₂ R)) (py_sub b _ _)
theorem sE_idxT {a b : E} {p : Ps} {xs : List V} {k : Nat} {y v : V} (ha : SE c nm n a loc st (.tup xs) st₁) (hb : SE c nm n b loc st₁ y st₂) (hy : y.iv c = some (k : Int)) (hx : xs[k]? = some v) (hz : xs.length ≤ 1000000) : SE c nm n (.idx a b p) loc st v st₂ := fun A env g s Q Ex r eo W L P => by
  show wpAny _ _ (eval (.Subscript a.py b.py p) env) Q Ex s
  refine Subscript_ (ha A env g s _ Ex r eo W L fun wa h₁ t₁ g₁ G₁ W₁ R₁ => ?_)
  refine hb A env g₁ _ _ Ex r eo W₁ (L.gro W G₁) fun wb h₂ t₂ g₂ G₂ W₂ R₂ => ?_
  obtain ⟨t, rfl⟩ := R₂.iv hy
  have R₁' := R₁.gro W₁ G₂
  cases R₁' with
  | tup e m q =>
    rename_i ta ws nn
    obtain ⟨w, hw, R⟩ := q.get hx
    have hk := (List.getElem?_eq_some_iff.mp hx).1
    have hl : IsTup h₂ ta ws.toArray := ⟨_, e, rfl, _, rfl⟩
    refine tail_any (s := { s with heap := h₂, toks := t₂ }) hl.typeIs slot_tuple_getitem.lookup (getItem_tuple (s := { s with heap := h₂, toks := t₂ }) (j := k) hl (by omega) (by omega) ?_ (by rw [List.getElem?_toArray]; exact hw) (P w h₂ t₂ g₂ (G₁.trans G₂) W₂ R)) (py_sub b _ _)
    have := q.length
    unfold seqIndex?
    simp only [List.size_toArray]
    rw [this]
    simp
    omega
end
end Mine

namespace Mine
open PySem PySem.W PySem.Calls PyProof.Rows

section
variable {c : Cn} {nm : Nm} {n : Nat} {loc : List LV} {st st₁ st₂ st₃ : List Inst}

theorem sE_neg {i : Int} {q p : Ps} : SE c nm n (.neg i q p) loc st (.int (-i)) st := fun A env g s Q Ex _ _ W _ P => by
  show wpAny _ _ (eval (.UnaryOp .USub (.Constant (.int i) 0 q) p) env) Q Ex s
  exact wpAny_UnaryOp (wpAny_Constant_int (neg_int (P.here W (.int _ _))))

theorem star_py (e : E) (rest : List PySem.Expr) (env : Env) : starEach (e.py :: rest) env = (false, eval e.py env) :: starEach rest env := by
  cases e <;> rfl
theorem sEs_nil : SEs c nm n [] loc st [] st := fun A env g s Q Ex pos _ _ W _ P => by
  exact wpAny_items_nil (P [] s.heap s.toks g (Gro.refl _ _) W .nil)
theorem sEs_cons {e : E} {es : List E} {v : V} {vs : List V} (he : SE c nm n e loc st v st₁) (hs : SEs c nm n es loc st₁ vs st₂) : SEs c nm n (e :: es) loc st (v :: vs) st₂ := fun A env g s Q Ex pos r eo W L P => by
  show wpAny _ _ (spliced (backTo pos (starEach (e.py :: Es.py es) env))) Q Ex s
  refine wpAny_items_cons (he A env g s _ Ex r eo W L fun wa h₁ t₁ g₁ G₁ W₁ R₁ => ?_) (star_py e _ env)
  refine hs A env g₁ _ _ Ex pos r eo W₁ (L.gro W G₁) fun wb h₂ t₂ g₂ G₂ W₂ R₂ => ?_
  exact P _ h₂ t₂ g₂ (G₁.trans G₂) W₂ (.cons (R₁.gro W₁ G₂) R₂)
theorem sE_list {es : List E} {p : Ps} {vs : List V} (hs : SEs c nm n es loc st vs st₁) (hz : vs.length ≤ 1000000) : SE c nm n (.list es p) loc st (.list vs) st₁ := fun A env g s Q Ex r eo W L P => by
  show wpAny _ _ (eval (.List (Es.py es) p) env) Q Ex s
  refine List_ (hs A env g s _ Ex p r eo W L fun ws h₁ t₁ g₁ G₁ W₁ R₁ => ?_)
  refine wpAny_newObj_type ?_ (by show ws.toArray.size ≤ sizeLine; rw [List.size_toArray, R₁.length]; exact Nat.le_trans hz (by decide))
  exact Pst.new (P.trans (tk := t₁) G₁) W₁ (RV.newList W₁ R₁)
theorem sE_tup {es : List E} {k : Nat} {p : Ps} {vs : List V} (hs : SEs c nm n es loc st vs st₁) (hz : vs.length ≤ 1000000) : SE c nm n (.tup es k p) loc st (.tup vs) st₁ := fun A env g s Q Ex r eo W L P => by
  show wpAny _ _ (eval (.Tuple (Es.py es) k p) env) Q Ex s
  refine Tuple_ (hs A env g s _ Ex p r eo W L fun ws h₁ t₁ g₁ G₁ W₁ R₁ => ?_)
  refine wpAny_newObj_type ?_ (by show ws.toArray.size ≤ sizeLine; rw [List.size_toArray, R₁.length]; exact Nat.le_trans hz (by decide))
  exact Pst.new (P.trans (tk := t₁) G₁) W₁ (RV.newTup W₁ R₁)

/-- tests -/
theorem sC_not {x : C} {p : Ps} {b : Bool} (h : SC c nm n x loc st b st₁) : SC c nm n (.not x p) loc st (!b) st₁ := fun A env g s Q Ex r eo W L P => by
  show wpAny _ _ (isTrue (.UnaryOp .Not x.py p) env _) Q Ex s
  exact wpAny_isTrue_Not (h A env g s _ Ex r eo W L fun h₁ t₁ g₁ G₁ W₁ => P h₁ t₁ g₁ G₁ W₁)
def SAnd (c : Cn) (nm : Nm) (n : Nat) (es : List C) (loc : List LV) (st : List Inst) (b : Bool) (st' : List Inst) : Prop :=
  ∀ (A : Around) (env : Env) (g : Gh) (s : Shared) (Q : Bool → Shared → Prop) (Ex : Value → Shared → Prop),
    Room n A → EnvOk nm env → Wd c g st s.heap → Le c env nm.ns g s.heap loc → PstB c g s st' b Q → wpAny c.M A (allTrue .And (Cs.py es) env) Q Ex s
def SOr (c : Cn) (nm : Nm) (n : Nat) (es : List C) (loc : List LV) (st : List Inst) (b : Bool) (st' : List Inst) : Prop :=
  ∀ (A : Around) (env : Env) (g : Gh) (s : Shared) (Q : Bool → Shared → Prop) (Ex : Value → Shared → Prop),
    Room n A → EnvOk nm env → Wd c g st s.heap → Le c env nm.ns g s.heap loc → PstB c g s st' b Q → wpAny c.M A (allTrue .Or (Cs.py es) env) Q Ex s
theorem sAnd_nil : SAnd c nm n [] loc st true st := fun A env g s Q Ex _ _ W _ P => by
  exact wpAny_allTrue_And_nil (P.here (tk := s.toks) W)
theorem sOr_nil : SOr c nm n [] loc st false st := fun A env g s Q Ex _ _ W _ P => by
  exact wpAny_allTrue_Or_nil (P.here (tk := s.toks) W)
theorem sAnd_f {x : C} {xs : List C} (h : SC c nm n x loc st false st₁) : SAnd c nm n (x :: xs) loc st false st₁ := fun A env g s Q Ex r eo W L P => by
  show wpAny _ _ (allTrue .And (x.py :: Cs.py xs) env) Q Ex s
  exact wpAny_allTrue_And_cons (h A env g s _ Ex r eo W L fun h₁ t₁ g₁ G₁ W₁ => P h₁ t₁ g₁ G₁ W₁)
theorem sAnd_t {x : C} {xs : List C} {b : Bool} (h : SC c nm n x loc st true st₁) (hs : SAnd c nm n xs loc st₁ b st₂) : SAnd c nm n (x :: xs) loc st b st₂ := fun A env g s Q Ex r eo W L P => by
  show wpAny _ _ (allTrue .And (x.py :: Cs.py xs) env) Q Ex s
  exact wpAny_allTrue_And_cons (h A env g s _ Ex r eo W L fun h₁ t₁ g₁ G₁ W₁ => hs A env g₁ _ Q Ex r eo W₁ (L.gro W G₁) (P.trans G₁))
theorem sOr_t {x : C} {xs : List C} (h : SC c nm n x loc st true st₁) : SOr c nm n (x :: xs) loc st true st₁ := fun A env g s Q Ex r eo W L P => by
  show wpAny _ _ (allTrue .Or (x.py :: Cs.py xs) env) Q Ex s
  exact wpAny_allTrue_Or_cons (h A env g s _ Ex r eo W L fun h₁ t₁ g₁ G₁ W₁ => P h₁ t₁ g₁ G₁ W₁)
theorem sOr_f {x : C} {xs : List C} {b : Bool} (h : SC c nm n x loc st false st₁) (hs : SOr c nm n xs loc st₁ b st₂) : SOr c nm n (x :: xs) loc st b st₂ := fun A env g s Q Ex r eo W L P => by
  show wpAny _ _ (allTrue .Or (x.py :: Cs.py xs) env) Q Ex s
  exact wpAny_allTrue_Or_cons (h A env g s _ Ex r eo W L fun h₁ t₁ g₁ G₁ W₁ => hs A env g₁ _ Q Ex r eo W₁ (L.gro W G₁) (P.trans G₁))
theorem sC_and {xs : List C} {p : Ps} {b : Bool} (h : SAnd c nm n xs loc st b st₁) : SC c nm n (.and xs p) loc st b st₁ := fun A env g s Q Ex r eo W L P => by
  show wpAny _ _ (isTrue (.BoolOp .And (Cs.py xs) p) env _) Q Ex s
  exact wpAny_isTrue_BoolOp (h A env g s Q Ex r eo W L P)
theorem sC_or {xs : List C} {p : Ps} {b : Bool} (h : SOr c nm n xs loc st b st₁) : SC c nm n (.or xs p) loc st b st₁ := fun A env g s Q Ex r eo W L P => by
  show wpAny _ _ (isTrue (.BoolOp .Or (Cs.py xs) p) env _) Q Ex s
  exact wpAny_isTrue_BoolOp (h A env g s Q Ex r eo W L P)
def E.plain : E → Bool
  | .cmp .. => false
  | .neg .. => false
  | _ => true
theorem py_true (e : E) (env : Env) (whole : Sem Value) (h : e.plain = true) : isTrue e.py env whole = (do let v ← whole; standAt e.py.pos; holding [v] (truthy v)) := by
  cases e <;> first | rfl | cases h
theorem sC_bool {e : E} {b : Bool} (h : SE c nm n e loc st (.bool b) st₁) (hp : e.plain = true) : SC c nm n (.e e) loc st b st₁ := fun A env g s Q Ex r eo W L P => by
  show wpAny _ _ (isTrue e.py env (eval e.py env)) Q Ex s
  refine wpAny_isTrue_value (h A env g s _ Ex r eo W L fun wa h₁ t₁ g₁ G₁ W₁ R₁ => ?_) (py_true e env _ hp)
  cases R₁ with
  | bool b => exact wpAny_truthy_bool (P h₁ t₁ g₁ G₁ W₁)

/-- attributes -/
structure AttrOk (c : Cn) (k : Nat) (x : Str) : Prop where
  get : plainGet c.K (c.cls k) x = true
  dict : hasDictIn c.K (c.cls k) = true
  none : findIn c.K (.ref (c.cls k)) x = some none
theorem Wd.X (W : Wd c g st h) : c.K.In h := c.X.keeps fun b o e => (W.base b o e).1
theorem FR.getL {c : Cn} {g : Gh} {h : Heap} : ∀ {ns : List Str} {es : List DictEntry} {fs : List V}, FR c g h ns es fs → ns.Nodup → ∀ {f : Nat} {x : Str} {v : V}, ns[f]? = some x → fs[f]? = some v → ∃ w, getL x es = some (some w) ∧ RV c g h v w
  | _, _, _, .nil, _, f, x, v, _, hv => by cases hv
  | _, _, _, .cons (n := n) (t := t) (w := w) (es := es) r rs, nd, f, x, v, hx, hv => by
    cases f with
    | zero =>
      cases hx; cases hv
      refine ⟨w, ?_, r⟩
      unfold PySem.W.getL
      rw [List.find?_cons_of_pos (by simp [Value.isStr])]
    | succ f =>
      obtain ⟨w', e, r'⟩ := FR.getL rs (List.nodup_cons.mp nd).2 hx hv
      refine ⟨w', ?_, r'⟩
      have hne : n ≠ x := fun q => (List.nodup_cons.mp nd).1 (by rw [q]; exact List.mem_of_getElem? hx)
      unfold PySem.W.getL at e ⊢
      rw [List.find?_cons_of_neg (by simpa [Value.isStr] using hne)]
      cases q : List.find? (fun x_1 => x_1.key.isStr x) es with
      | some y => rw [q] at e; exact e
      | none => rw [q] at e; dsimp only at e; split at e <;> cases e
def E.nocall : E → Bool
  | .call .. => false
  | _ => true
theorem py_attr (e : E) (x : Str) (p : Ps) (env : Env) (h : e.nocall = true) : eval (.Attribute e.py x p) env = (do
      let o ← eval e.py env
      standAt p.atName
      let r ← holding [o] (getAttr o x true)
      letTemporaryGo e.py o r
      pure r) := by
  cases e <;> first | rfl | cases h
theorem rv_handed {c : Cn} {g : Gh} {h : Heap} {v : V} {w : Value} (R : RV c g h v w) : handedIn w = true := by cases R <;> rfl
theorem inst_get {c : Cn} {g : Gh} {st : List Inst} {s : Shared} {k : Nat} {i : Inst} {a : Addr} {f : Nat} {x : Str} {v : V} {A : Around} {Q : Value → Shared → Prop} {Ex : Value → Shared → Prop}
    (W : Wd c g st s.heap) (hi : st[k]? = some i) (ha : g.ρ[k]? = some a) (ok : AttrOk c i.cls x) (nd : (c.fld i.cls).Nodup) (hx : (c.fld i.cls)[f]? = some x) (hf : i.fs[f]? = some v)
    (h : ∀ w, RV c g s.heap v w → Q w { s with toks := s.toks + 1 }) : wpAny c.M A (getAttr (.ref a) x true) Q Ex s := by
  have hk : k < g.δ.length := by rw [W.lenδ]; exact (List.getElem?_eq_some_iff.mp hi).1
  obtain ⟨e1, es, n, e2, r⟩ := W.inst k i a _ hi ha (List.getElem?_eq_getElem hk)
  obtain ⟨w, hg, R⟩ := r.getL nd hx hf
  exact get_value W.X ⟨e1, rfl, rfl, e2⟩ (plainGet_of ok.get).1 (findObj_own (od := dictOf es n) ok.dict ok.none (by rfl) hg) (rv_handed R) (h w R)
theorem sE_attr {e : E} {k f : Nat} {x : Str} {p : Ps} {i : Inst} {v : V} (he : SE c nm n e loc st (.obj k) st₁) (hi : st₁[k]? = some i) (ok : AttrOk c i.cls x) (nd : (c.fld i.cls).Nodup) (hx : (c.fld i.cls)[f]? = some x) (hf : i.fs[f]? = some v) (hc : e.nocall = true) :
    SE c nm n (.attr e f x p) loc st v st₁ := fun A env g s Q Ex r eo W L P => by
  show wpAny _ _ (eval (.Attribute e.py x p) env) Q Ex s
  refine Attribute_any_ (he A env g s _ Ex r eo W L fun wa h₁ t₁ g₁ G₁ W₁ R₁ => ?_) (py_attr e x p env hc)
  cases R₁ with
  | obj ea => exact inst_get W₁ hi ea ok nd hx hf fun w R => P w h₁ (t₁ + 1) g₁ G₁ W₁ R
end
end Mine

namespace Mine
open PySem PySem.W PySem.Calls PyProof.Rows

/-- a call of the object at a -/
def SCall (c : Cn) (n : Nat) (a : Addr) (vs : List V) (st : List Inst) (v : V) (st' : List Inst) : Prop :=
  ∀ (A : Around) (g : Gh) (s : Shared) (ws : List Value) (Q : Value → Shared → Prop) (Ex : Value → Shared → Prop),
    Room n A → Wd c g st s.heap → RVs c g s.heap vs ws → Pst c g s st' v Q → wpAny c.M A (call (.ref a) ws) Q Ex s
/-- a call of a built-in function or type -/
def SBlt (c : Cn) (n : Nat) (f : Value) (vs : List V) (st : List Inst) (v : V) (st' : List Inst) : Prop :=
  ∀ (A : Around) (g : Gh) (s : Shared) (ws : List Value) (Q : Value → Shared → Prop) (Ex : Value → Shared → Prop),
    Room n A → Wd c g st s.heap → RVs c g s.heap vs ws → Pst c g s st' v Q → wpAny c.M A (call f ws) Q Ex s

structure FnOk (c : Cn) (nm : Nm) (x : Str) (a : Addr) : Prop where
  gl : x ∈ nm.gs
  at_ : nsIn c.K mainGlobals x = some (some (.ref a))
  keep : keepIn c.K (.ref a) = true
  dbg : (x == ("__debug__" : Str)) = false
structure BtOk (c : Cn) (nm : Nm) (x : Str) (f : Value) : Prop where
  gl : x ∈ nm.gs
  at_ : nsIn c.K mainGlobals x = some none
  boot : bootBuiltins x = some f
  nn : x ≠ "__name__"
  dbg : (x == ("__debug__" : Str)) = false

section
variable {c : Cn} {nm : Nm} {n : Nat} {loc : List LV} {st st₁ st₂ st₃ : List Inst}

theorem glob_load {g : Gh} {s : Shared} {env : Env} {A : Around} {x : Str} {p : Ps} {v : Value} {Q : Value → Shared → Prop} {Ex : Value → Shared → Prop} (eo : EnvOk nm env) (W : Wd c g st s.heap) (gl : x ∈ nm.gs) (e : nsIn c.K mainGlobals x = some (some v)) (hd : (x == ("__debug__" : Str)) = false) (h : Q v s) :
    wpAny c.M A (eval (.Name x p) env) Q Ex s := by
  refine Name_function_global eo.kind (eo.gs x gl) (loadGlobal_global (mg := c.mg) ?_ (mg_of c.X c.T.g e) h) hd
  rw [eo.gl]; exact c.T.g.keeps fun b o e => (W.base b o e).1
theorem blt_load {g : Gh} {s : Shared} {env : Env} {A : Around} {x : Str} {p : Ps} {v : Value} {Q : Value → Shared → Prop} {Ex : Value → Shared → Prop} (eo : EnvOk nm env) (W : Wd c g st s.heap) (ok : BtOk c nm x v) (h : Q v s) :
    wpAny c.M A (eval (.Name x p) env) Q Ex s := by
  refine Name_function_global eo.kind (eo.gs x ok.gl) (loadGlobal_builtin (mg := c.mg) (mb := c.mb) ?_ (mg_none_of c.X c.T.g ok.at_) ?_ ((c.T.builtins x ok.nn).trans ok.boot) h) ok.dbg
  · rw [eo.gl]; exact c.T.g.keeps fun b o e => (W.base b o e).1
  · rw [eo.bl]; exact c.T.b.keeps fun b o e => (W.base b o e).1

theorem plain_args (es : List E) (pos : Ps) (env : Env) : (backTo pos (starEach (Es.py es) env)).any (·.1) = false := by
  induction es with
  | nil => rfl
  | cons e es ih =>
    show (backTo pos (starEach (e.py :: Es.py es) env)).any (·.1) = false
    rw [star_py]
    show (false || (backTo pos (starEach (Es.py es) env)).any (·.1)) = false
    rw [ih]; rfl
theorem args_eval {A : Around} {env : Env} {s : Shared} {f : Value} {es : List E} {pos : Ps} {Q : Args → Shared → Prop} {Ex : Value → Shared → Prop}
    (h : wpAny c.M A (spliced (backTo pos (starEach (Es.py es) env))) (fun vs s' => Q ⟨vs, []⟩ s') Ex s) : wpAny c.M A (evalArgs f true (backTo pos (starEach (Es.py es) env)) []) Q Ex s := by
  cases es with
  | nil =>
    unfold evalArgs
    show wpAny _ _ (spliced [] >>= _) Q Ex s
    refine wpAny_bind (wpAny_mono h (fun vs s' h' => ?_) fun _ _ x => x)
    refine wpAny_holding ?_
    exact wpAny_bind (wpAny_pure (wpAny_bind (wpAny_pure (wpAny_pure h'))))
  | cons e es =>
    have he : backTo pos (starEach (Es.py (e :: es)) env) = (false, eval e.py env) :: backTo pos (starEach (Es.py es) env) := by
      show backTo pos (starEach (e.py :: Es.py es) env) = _
      rw [star_py]; rfl
    rw [he] at h ⊢
    exact evalArgs_plain h

theorem sE_call {k : Nat} {x : Str} {q p : Ps} {es : List E} {a : Addr} {vs : List V} {v : V} (ok : FnOk c nm x a) (hs : SEs c nm n es loc st vs st₁) (hc : SCall c n a vs st₁ v st₂) : SE c nm n (.call (.fn k) x q es p) loc st v st₂ := fun A env g s Q Ex r eo W L P => by
  show wpAny _ _ (eval (.Call (.Name x q) (Es.py es) [] p) env) Q Ex s
  refine Call_Name rfl (glob_load eo W ok.gl ok.at_ ok.dbg ?_)
  refine callWith_of (P := c.K.In) (by rw [plain_args]; rfl) (keeps_K ok.keep) (args_eval (hs A env g s _ Ex p r eo W L fun ws h₁ t₁ g₁ G₁ W₁ R₁ => ?_))
  exact ⟨W₁.X, hc A g₁ _ ws Q Ex r W₁ R₁ (P.trans G₁)⟩
theorem sE_new {k : Nat} {x : Str} {q p : Ps} {es : List E} {a : Addr} {vs : List V} {v : V} (ok : FnOk c nm x a) (hs : SEs c nm n es loc st vs st₁) (hc : SCall c n a vs st₁ v st₂) : SE c nm n (.call (.cls k) x q es p) loc st v st₂ := fun A env g s Q Ex r eo W L P => by
  show wpAny _ _ (eval (.Call (.Name x q) (Es.py es) [] p) env) Q Ex s
  refine Call_Name rfl (glob_load eo W ok.gl ok.at_ ok.dbg ?_)
  refine callWith_of (P := c.K.In) (by rw [plain_args]; rfl) (keeps_K ok.keep) (args_eval (hs A env g s _ Ex p r eo W L fun ws h₁ t₁ g₁ G₁ W₁ R₁ => ?_))
  exact ⟨W₁.X, hc A g₁ _ ws Q Ex r W₁ R₁ (P.trans G₁)⟩
theorem sE_bltF {f : Cal} {x : Str} {q p : Ps} {es : List E} {id : String} {vs : List V} {v : V} (ok : BtOk c nm x (.builtin id)) (hs : SEs c nm n es loc st vs st₁) (hc : SBlt c n (.builtin id) vs st₁ v st₂) : SE c nm n (.call f x q es p) loc st v st₂ := fun A env g s Q Ex r eo W L P => by
  show wpAny _ _ (eval (.Call (.Name x q) (Es.py es) [] p) env) Q Ex s
  refine Call_Name rfl (blt_load eo W ok ?_)
  refine callWith_builtin (plain_args ..) (args_eval (hs A env g s _ Ex p r eo W L fun ws h₁ t₁ g₁ G₁ W₁ R₁ => ?_))
  exact hc A g₁ _ ws Q Ex r W₁ R₁ (P.trans G₁)
theorem sE_bltT {f : Cal} {x : Str} {q p : Ps} {es : List E} {T : String} {vs : List V} {v : V} (ok : BtOk c nm x (.type T)) (hs : SEs c nm n es loc st vs st₁) (hc : SBlt c n (.type T) vs st₁ v st₂) : SE c nm n (.call f x q es p) loc st v st₂ := fun A env g s Q Ex r eo W L P => by
  show wpAny _ _ (eval (.Call (.Name x q) (Es.py es) [] p) env) Q Ex s
  refine Call_Name rfl (blt_load eo W ok ?_)
  refine PyProof.Rows.callWith_type (plain_args ..) (args_eval (hs A env g s _ Ex p r eo W L fun ws h₁ t₁ g₁ G₁ W₁ R₁ => ?_))
  exact hc A g₁ _ ws Q Ex r W₁ R₁ (P.trans G₁)

theorem blt_len {xs : List V} (hz : xs.length ≤ 1000000) : SBlt c n (.builtin "len") [.list xs] st (.int xs.length) st := fun A g s ws Q Ex r W R P => by
  cases R with
  | cons R1 R0 =>
    cases R0
    cases R1 with
    | list e m q =>
      rename_i l ws nn
      have hl : s.heap.IsList l ws.toArray := ⟨_, e, rfl, _, rfl⟩
      refine len_list hl (by rw [List.size_toArray, q.length]; omega) ?_
      rw [List.size_toArray, q.length]
      exact P.here W (.int _ _)
theorem blt_lenT {xs : List V} (hz : xs.length ≤ 1000000) : SBlt c n (.builtin "len") [.tup xs] st (.int xs.length) st := fun A g s ws Q Ex r W R P => by
  cases R with
  | cons R1 R0 =>
    cases R0
    cases R1 with
    | tup e m q =>
      rename_i l ws nn
      have hl : IsTup s.heap l ws.toArray := ⟨_, e, rfl, _, rfl⟩
      refine PyProof.Rows.len_tuple hl (by rw [List.size_toArray, q.length]; omega) ?_
      rw [List.size_toArray, q.length]
      exact P.here W (.int _ _)
/-- an owned list's length -/
theorem sE_lenO {x y : Str} {q p p' : Ps} {i : Nat} {xs : List V} (ok : BtOk c nm x (.builtin "len")) (hx : nm.ns[i]? = some y) (hl : loc[i]? = some (.own xs)) (hd : (y == ("__debug__" : Str)) = false) (hz : xs.length ≤ 1000000) : SE c nm n (.call .len x q [.loc i y p'] p) loc st (.int xs.length) st := fun A env g s Q Ex r eo W L P => by
  show wpAny _ _ (eval (.Call (.Name x q) [.Name y p'] [] p) env) Q Ex s
  cases L i y _ hx hl with
  | own R e m d rs =>
    rename_i ws a nn
    refine Call_Name1 (blt_load eo W ok ?_)
    refine callWith_builtin rfl (evalArgs_plain (spliced_cons (wpAny_Name (reach_load eo R (spliced_nil ?_)) hd)))
    have hl : s.heap.IsList a ws.toArray := ⟨_, e, rfl, _, rfl⟩
    refine len_list hl (by rw [List.size_toArray, rs.length]; omega) ?_
    rw [List.size_toArray, rs.length]
    exact P.here W (.int _ _)
theorem sE_idxO {y : Str} {b : E} {p p' : Ps} {i k : Nat} {xs : List V} {v z : V} (hx : nm.ns[i]? = some y) (hl : loc[i]? = some (.own xs)) (hd : (y == ("__debug__" : Str)) = false) (hb : SE c nm n b loc st z st₁) (hy : z.iv c = some (k : Int)) (hv : xs[k]? = some v) (hz : xs.length ≤ 1000000) :
    SE c nm n (.idx (.loc i y p') b p) loc st v st₁ := fun A env g s Q Ex r eo W L P => by
  show wpAny _ _ (eval (.Subscript (.Name y p') b.py p) env) Q Ex s
  cases L i y _ hx hl with
  | own R e m d rs =>
    rename_i ws a nn
    refine Subscript_ (wpAny_Name (reach_load eo R ?_) hd)
    refine hb A env g s _ Ex r eo W L fun wb h₂ t₂ g₂ G₂ W₂ R₂ => ?_
    obtain ⟨t, rfl⟩ := R₂.iv hy
    obtain ⟨w, hw, R'⟩ := rs.get hv
    have hk := (List.getElem?_eq_some_iff.mp hv).1
    have hl : Heap.IsList h₂ a ws.toArray := ⟨_, G₂.keep _ _ e d, rfl, _, rfl⟩
    exact tail_any (s := { s with heap := h₂, toks := t₂ }) hl.typeIs slot_list_getitem.lookup (wpAny_getItem_list hl (by omega) (by omega) (by rw [Int.toNat_natCast, List.getElem?_toArray]; exact hw) (P w h₂ t₂ g₂ G₂ W₂ (R'.gro W G₂))) (py_sub b _ _)
end
end Mine

namespace Mine
open PySem PySem.W PySem.Calls PyProof.Rows

section
variable {c : Cn} {g g₀ : Gh} {h h' h₀ : Heap} {st : List Inst} {a : Addr}
theorem imm_ext (m : g.M a) (S : Heap.ExtBut a h h') : ∀ b o, h.get? b = some o → ¬ g.M b → h'.get? b = some o ∧ ¬ g.M b :=
  fun b o e k => ⟨S b o (fun q => k (q ▸ m)) e, k⟩
theorem Wd.ext (W : Wd c g st h) (m : g.M a) (d : a ∉ g.δ) (S : Heap.ExtBut a h h') (da : ∃ o, h'.get? a = some o) : Wd c g st h' := by
  refine ⟨W.lenρ, W.lenδ, fun k i x dx h1 h2 h3 => ?_, W.ndδ, W.ndρ, W.Mδ, W.Mρ, fun b q => ?_, fun b o e => ?_⟩
  · obtain ⟨e1, es, n, e2, r⟩ := W.inst k i x dx h1 h2 h3
    have hx : x ≠ a := fun q => W.Mρ x (List.mem_of_getElem? h2) (q ▸ m)
    have hd : dx ≠ a := fun q => d (q ▸ List.mem_of_getElem? h3)
    exact ⟨S x _ hx e1, es, n, S dx _ hd e2, r.mono (List.prefix_refl _) (imm_ext m S)⟩
  · by_cases hb : b = a
    · subst hb; exact da
    · obtain ⟨o, e⟩ := W.Mdom b q; exact ⟨o, S b o hb e⟩
  · obtain ⟨e1, e2⟩ := W.base b o e
    exact ⟨S b o (fun q => e2 (q ▸ m)) e1, e2⟩
theorem RV.ext {v : V} {w : Value} (R : RV c g h v w) (m : g.M a) (S : Heap.ExtBut a h h') : RV c g h' v w := R.mono (List.prefix_refl _) (imm_ext m S)
theorem DObj.ext {o : Obj} {f : Int → Option V} {n : Nat} (R : DObj c g h o f n) (m : g.M a) (S : Heap.ExtBut a h h') : DObj c g h' o f n := R.mono (List.prefix_refl _) (imm_ext m S)
theorem RVs.ext {v : List V} {w : List Value} (R : RVs c g h v w) (m : g.M a) (S : Heap.ExtBut a h h') : RVs c g h' v w := R.mono (List.prefix_refl _) (imm_ext m S)
theorem Gro.ext (G : Gro g₀ h₀ g h) (n : h₀.get? a = none) (S : Heap.ExtBut a h h') : Gro g₀ h₀ g h' := by
  have ne : ∀ b o, h₀.get? b = some o → b ≠ a := fun b o e q => by rw [q, n] at e; cases e
  refine ⟨G.ρ, G.δ, fun b o e k => S b o (ne b o e) (G.keep b o e k), fun b o e => ?_, G.M, G.new⟩
  obtain ⟨o', e'⟩ := G.dom b o e
  exact ⟨o', S b o' (ne b o e) e'⟩
end

theorem ns_fun {h : Heap} {a : Addr} {m m' : Str → Option Value} (x : h.Ns a m) (y : h.Ns a m') : m = m' := by
  obtain ⟨o, es, ep, ho, hd, _, f⟩ := x
  obtain ⟨o', es', ep', ho', hd', _, f'⟩ := y
  rw [ho] at ho'; cases ho'
  rw [hd] at hd'; cases hd'
  funext z
  rw [← f, ← f']
theorem ns_ne_list {h : Heap} {a b : Addr} {m : Str → Option Value} {o : Obj} {xs : Array Value} {n : Nat} (x : h.Ns a m) (e : h.get? b = some o) (d : o.data = .seq xs n) : a ≠ b := by
  rintro rfl
  obtain ⟨o', es, ep, ho, hd, _⟩ := x
  rw [e] at ho; cases ho; rw [d] at hd; cases hd
theorem ns_ne_cell {h : Heap} {a b : Addr} {m : Str → Option Value} {v : Option Value} (x : h.Ns a m) (e : h.IsCell b v) : a ≠ b := by
  rintro rfl
  obtain ⟨o', es, ep, ho, hd, _⟩ := x
  obtain ⟨o, e, d⟩ := e
  rw [e] at ho; cases ho; rw [d] at hd; cases hd
theorem cell_ne_list {h : Heap} {a b : Addr} {o : Obj} {xs : Array Value} {n : Nat} {v : Option Value} (x : h.IsCell a v) (e : h.get? b = some o) (d : o.data = .seq xs n) : a ≠ b := by
  rintro rfl
  obtain ⟨o', ho, hd⟩ := x
  rw [e] at ho; cases ho; rw [d] at hd; cases hd

inductive SlotF (c : Cn) (g : Gh) (env : Env) (h₀ h : Heap) (x : Str) (a : Addr) : LV → Prop where
  | unset : SlotF c g env h₀ h x a .unset
  | v {y : V} {w : Value} : Reach g env h x w → RV c g h y w → SlotF c g env h₀ h x a (.v y)
  | own {xs : List V} {ws : List Value} {n : Nat} : Reach g env h x (.ref a) → h.get? a = some { cls := .type "list", data := .seq ws.toArray n } → g.M a → a ∉ g.δ → h₀.get? a = none → RVs c g h xs ws → SlotF c g env h₀ h x a (.own xs)
  | dct {f : Int → Option V} {n : Nat} {o : Obj} : Reach g env h x (.ref a) → h.get? a = some o → g.M a → a ∉ g.δ → h₀.get? a = none → a ≠ sysModules → a ≠ env.locals → DObj c g h o f n → SlotF c g env h₀ h x a (.dct f n)
def isOwn : LV → Bool
  | .own _ => true
  | .dct .. => true
  | _ => false
structure Fs (c : Cn) (nm : Nm) (env : Env) (h₀ : Heap) (oa : Nat → Addr) (g : Gh) (h : Heap) (loc : List LV) : Prop where
  eo : EnvOk nm env
  nd : nm.ns.Nodup
  len : loc.length = nm.ns.length
  slots : ∀ (i : Nat) (x : Str) (lv : LV), nm.ns[i]? = some x → loc[i]? = some lv → SlotF c g env h₀ h x (oa i) lv
  ns : ∃ m, h.Ns env.locals m
  LM : g.M env.locals
  Lδ : env.locals ∉ g.δ
  L0 : h₀.get? env.locals = none
  kinds : ∀ x ∈ nm.ns, env.kindOf x = some .local ∨ (env.kindOf x = some .cell ∧ ∃ a v, env.cells.lookup x = some a ∧ h.IsCell a v ∧ g.M a ∧ a ∉ g.δ ∧ h₀.get? a = none)
  cinj : ∀ (x y : Str) (a : Addr), x ∈ nm.ns → y ∈ nm.ns → env.cells.lookup x = some a → env.cells.lookup y = some a → x = y
  oinj : ∀ (i j : Nat) (x y : LV), loc[i]? = some x → loc[j]? = some y → isOwn x = true → isOwn y = true → oa i = oa j → i = j

section
variable {c : Cn} {nm : Nm} {env : Env} {h₀ : Heap} {oa : Nat → Addr} {g g' : Gh} {h h' : Heap} {loc : List LV} {st : List Inst}
theorem Fs.le (F : Fs c nm env h₀ oa g h loc) : Le c env nm.ns g h loc := fun i x lv hx hl => by
  cases F.slots i x lv hx hl with
  | unset => exact .unset
  | v r y => exact .v r y
  | own r e m d _ y => exact .own r e m d y
  | dct r e m d _ z _ y => exact .dct r e m d z y
theorem Fs.gro (F : Fs c nm env h₀ oa g h loc) (W : Wd c g st h) (G : Gro g h g' h') : Fs c nm env h₀ oa g' h' loc := by
  obtain ⟨m, hm⟩ := F.ns
  obtain ⟨oL, es, ep, hL, r⟩ := id hm
  refine ⟨F.eo, F.nd, F.len, fun i x lv hx hl => ?_, ⟨m, ns_at hm fun o ho => G.keep _ _ ho F.Lδ⟩, (G.M _ _ hL).mpr F.LM, fun q => F.Lδ (G.new _ _ hL q), F.L0, fun x hx => ?_, F.cinj, F.oinj⟩
  · cases F.slots i x lv hx hl with
    | unset => exact .unset
    | v r y => exact .v (r.gro G) (y.gro W G)
    | own r e m d n y => exact .own (r.gro G) (G.keep _ _ e d) ((G.M _ _ e).mpr m) (fun q => d (G.new _ _ e q)) n (y.gro W G)
    | dct r e m d n z l y => exact .dct (r.gro G) (G.keep _ _ e d) ((G.M _ _ e).mpr m) (fun q => d (G.new _ _ e q)) n z l (y.mono G.ρ (W.imm G))
  · rcases F.kinds x hx with k | ⟨k, a, v, l, ce, m, d, n⟩
    · exact .inl k
    · obtain ⟨oc, hc, hd⟩ := id ce
      exact .inr ⟨k, a, v, l, cell_at ce fun o ho => G.keep _ _ ho d, (G.M _ _ hc).mpr m, fun q => d (G.new _ _ hc q), n⟩
theorem nd_ne {l : List Str} (nd : l.Nodup) {i j : Nat} {x y : Str} (hx : l[i]? = some x) (hy : l[j]? = some y) (h : j ≠ i) : y ≠ x := by
  rintro rfl
  obtain ⟨h1, e1⟩ := List.getElem?_eq_some_iff.mp hx
  obtain ⟨h2, e2⟩ := List.getElem?_eq_some_iff.mp hy
  exact h ((List.getElem_inj nd).mp (e2.trans e1.symm))

/-- storing a value into a slot -/
theorem Fs.store {s : Shared} {A : Around} {i : Nat} {x : Str} {y : V} {w : Value} {g₀ : Gh} {Q : Unit → Shared → Prop} {Ex : Value → Shared → Prop} (F : Fs c nm env h₀ oa g s.heap loc) (W : Wd c g st s.heap) (G : Gro g₀ h₀ g s.heap)
    (hx : nm.ns[i]? = some x) (R : RV c g s.heap y w)
    (h : ∀ h' tk', Gro g₀ h₀ g h' → Wd c g st h' → Fs c nm env h₀ oa g h' (loc.set i (.v y)) → Q () { s with heap := h', toks := tk' }) : wpAny c.M A (storeName env x w) Q Ex s := by
  have hi : i < loc.length := by rw [F.len]; exact (List.getElem?_eq_some_iff.mp hx).1
  obtain ⟨m, hm⟩ := F.ns
  have own' : ∀ (j k : Nat) (x y' : LV), (loc.set i (.v y))[j]? = some x → (loc.set i (.v y))[k]? = some y' → isOwn x = true → isOwn y' = true → oa j = oa k → j = k := by
    intro j k x' y' h1 h2 o1 o2 e
    by_cases hj : j = i
    · subst hj; rw [List.getElem?_set_self hi] at h1; cases h1; cases o1
    · by_cases hk : k = i
      · subst hk; rw [List.getElem?_set_self hi] at h2; cases h2; cases o2
      · rw [List.getElem?_set_ne (Ne.symm hj)] at h1; rw [List.getElem?_set_ne (Ne.symm hk)] at h2
        exact F.oinj j k x' y' h1 h2 o1 o2 e
  rcases F.kinds x (List.mem_of_getElem? hx) with k | ⟨k, a, v, l, ce, Ma, da, na⟩
  · refine wpAny_storeName_local k hm (fun h' hn S => h h' _ (G.ext F.L0 S.extBut) (W.ext F.LM F.Lδ S.extBut (let ⟨o, _, _, e, _⟩ := hn; ⟨o, e⟩)) ?_) (by rw [F.eo.kind]; rfl)
    refine ⟨F.eo, F.nd, by rw [List.length_set]; exact F.len, fun j z lv hz hl => ?_, ⟨_, hn⟩, F.LM, F.Lδ, F.L0, fun z hz => ?_, F.cinj, own'⟩
    · by_cases hj : j = i
      · subst hj
        rw [hx] at hz; cases hz
        rw [List.getElem?_set_self hi] at hl; cases hl
        exact .v (.loc _ k hn F.Lδ (by simp)) (R.ext F.LM S.extBut)
      · rw [List.getElem?_set_ne (Ne.symm hj)] at hl
        have hne := nd_ne F.nd hx hz hj
        have reach : ∀ u, Reach g env s.heap z u → Reach g env h' z u := fun u r => by
          cases r with
          | loc m2 k2 n2 d2 e2 =>
            rw [ns_fun n2 hm] at e2
            exact .loc _ k2 hn F.Lδ (by simp [hne, e2])
          | cell a k2 l2 d2 e2 => exact .cell a k2 l2 d2 (cell_at e2 fun o ho => (S.2 _ (Ne.symm (ns_ne_cell hm e2))).trans ho)
        cases F.slots j z lv hz hl with
        | unset => exact .unset
        | v r q => exact .v (reach _ r) (q.ext F.LM S.extBut)
        | own r e m' d n q => exact .own (reach _ r) ((S.2 _ (Ne.symm (ns_ne_list hm e rfl))).trans e) m' d n (q.ext F.LM S.extBut)
        | dct r e m' d n z l q => exact .dct (reach _ r) ((S.2 _ l).trans e) m' d n z l (q.ext F.LM S.extBut)
    · rcases F.kinds z hz with k2 | ⟨k2, a, v, l, ce, Ma, da, na⟩
      · exact .inl k2
      · exact .inr ⟨k2, a, v, l, cell_at ce fun o ho => (S.2 _ (Ne.symm (ns_ne_cell hm ce))).trans ho, Ma, da, na⟩
  · refine wpAny_storeName_cell F.eo.kind k l ce fun h' hn S => h h' s.toks (G.ext na S.extBut) (W.ext Ma da S.extBut (let ⟨o, e, _⟩ := hn; ⟨o, e⟩)) ?_
    refine ⟨F.eo, F.nd, by rw [List.length_set]; exact F.len, fun j z lv hz hl => ?_, ⟨m, ns_at hm fun o ho => (S.2 _ (ns_ne_cell hm ce)).trans ho⟩, F.LM, F.Lδ, F.L0, fun z hz => ?_, F.cinj, own'⟩
    · by_cases hj : j = i
      · subst hj
        rw [hx] at hz; cases hz
        rw [List.getElem?_set_self hi] at hl; cases hl
        exact .v (.cell a k l da hn) (R.ext Ma S.extBut)
      · rw [List.getElem?_set_ne (Ne.symm hj)] at hl
        have hne := nd_ne F.nd hx hz hj
        have reach : ∀ u, Reach g env s.heap z u → Reach g env h' z u := fun u r => by
          cases r with
          | loc m2 k2 n2 d2 e2 => exact .loc m2 k2 (ns_at n2 fun o ho => (S.2 _ (ns_ne_cell n2 ce)).trans ho) d2 e2
          | cell b k2 l2 d2 e2 =>
            have hb : b ≠ a := fun q => hne (F.cinj z x a (List.mem_of_getElem? hz) (List.mem_of_getElem? hx) (q ▸ l2) l)
            exact .cell b k2 l2 d2 (cell_at e2 fun o ho => (S.2 _ hb).trans ho)
        cases F.slots j z lv hz hl with
        | unset => exact .unset
        | v r q => exact .v (reach _ r) (q.ext Ma S.extBut)
        | own r e m' d n q => exact .own (reach _ r) ((S.2 _ (Ne.symm (cell_ne_list ce e rfl))).trans e) m' d n (q.ext Ma S.extBut)
        | dct r e m' d n z l q => exact .dct (reach _ r) ((S.2 _ (q.neC e ce)).trans e) m' d n z l (q.ext Ma S.extBut)
    · rcases F.kinds z hz with k2 | ⟨k2, b, v2, l2, ce2, Mb, db, nb⟩
      · exact .inl k2
      · by_cases hb : b = a
        · subst hb
          exact .inr ⟨k2, b, _, l2, hn, Mb, db, nb⟩
        · exact .inr ⟨k2, b, v2, l2, cell_at ce2 fun o ho => (S.2 _ hb).trans ho, Mb, db, nb⟩
end
end Mine

namespace Mine
open PySem PySem.W PySem.Calls PyProof.Rows

inductive Fl where
  | next
  | ret (v : V)
inductive FlowR (c : Cn) (g : Gh) (h : Heap) : Fl → Flow → Prop where
  | next : FlowR c g h .next .next
  | ret {v : V} {w : Value} : RV c g h v w → FlowR c g h (.ret v) (.ret w)
def PstS (c : Cn) (nm : Nm) (env : Env) (g₀ : Gh) (h₀ : Heap) (s : Shared) (fl : Fl) (loc' : List LV) (st' : List Inst) (Q : Flow → Shared → Prop) : Prop :=
  ∀ f h' tk' g' oa', Gro g₀ h₀ g' h' → Wd c g' st' h' → Fs c nm env h₀ oa' g' h' loc' → FlowR c g' h' fl f → Q f { s with heap := h', toks := tk' }
/-- one statement -/
def SX (c : Cn) (nm : Nm) (n : Nat) (t : PySem.Stmt) (loc : List LV) (st : List Inst) (fl : Fl) (loc' : List LV) (st' : List Inst) : Prop :=
  ∀ (A : Around) (env : Env) (g₀ : Gh) (h₀ : Heap) (oa : Nat → Addr) (g : Gh) (s : Shared) (Q : Flow → Shared → Prop) (Ex : Value → Shared → Prop),
    Room n A → Gro g₀ h₀ g s.heap → Wd c g st s.heap → Fs c nm env h₀ oa g s.heap loc → PstS c nm env g₀ h₀ s fl loc' st' Q → wpAny c.M A (exec t env) Q Ex s
/-- a row of statements -/
def SS (c : Cn) (nm : Nm) (n : Nat) (ts : List S) (loc : List LV) (st : List Inst) (fl : Fl) (loc' : List LV) (st' : List Inst) : Prop :=
  ∀ (A : Around) (env : Env) (g₀ : Gh) (h₀ : Heap) (oa : Nat → Addr) (g : Gh) (s : Shared) (Q : Flow → Shared → Prop) (Ex : Value → Shared → Prop),
    Room n A → Gro g₀ h₀ g s.heap → Wd c g st s.heap → Fs c nm env h₀ oa g s.heap loc → PstS c nm env g₀ h₀ s fl loc' st' Q → wpAny c.M A (execs (Ss.py ts) env) Q Ex s

section
variable {c : Cn} {nm : Nm} {n : Nat} {loc loc₁ loc₂ : List LV} {st st₁ st₂ st₃ : List Inst} {fl : Fl}

theorem ss_nil : SS c nm n [] loc st .next loc st := fun A env g₀ h₀ oa g s Q Ex r G W F P => by
  exact wpAny_execs_nil (P .next s.heap s.toks g oa G W F .next)
theorem ss_cons {x : S} {xs : List S} {t : PySem.Stmt} (hx : x.py = [t]) (h1 : SX c nm n t loc st .next loc₁ st₁) (h2 : SS c nm n xs loc₁ st₁ fl loc₂ st₂) : SS c nm n (x :: xs) loc st fl loc₂ st₂ := fun A env g₀ h₀ oa g s Q Ex r G W F P => by
  show wpAny _ _ (execs (x.py ++ Ss.py xs) env) Q Ex s
  rw [hx]
  refine wpAny_execs_cons (h1 A env g₀ h₀ oa g s _ Ex r G W F fun f h' tk' g' oa' G' W' F' fr => ?_)
  cases fr with
  | next => exact h2 A env g₀ h₀ oa' g' _ Q Ex r G' W' F' fun f h'' tk'' g'' oa'' G'' W'' F'' fr'' => P f h'' tk'' g'' oa'' G'' W'' F'' fr''
theorem ss_ret {x : S} {xs : List S} {t : PySem.Stmt} {v : V} (hx : x.py = [t]) (h1 : SX c nm n t loc st (.ret v) loc₁ st₁) : SS c nm n (x :: xs) loc st (.ret v) loc₁ st₁ := fun A env g₀ h₀ oa g s Q Ex r G W F P => by
  show wpAny _ _ (execs (x.py ++ Ss.py xs) env) Q Ex s
  rw [hx]
  refine wpAny_execs_cons (h1 A env g₀ h₀ oa g s _ Ex r G W F fun f h' tk' g' oa' G' W' F' fr => ?_)
  cases fr with
  | ret R => exact P _ h' tk' g' oa' G' W' F' (.ret R)

def E.nocomp : E → Bool
  | .comp .. => false
  | _ => true
theorem py_swaps (e : E) (t : Option PySem.Expr) (line : Nat) (env : Env) (h : e.nocomp = true) : swapsWith e.py t line env = pure false := by
  cases e <;> first | rfl | cases h
theorem sx_assign {i : Nat} {x : Str} {q p : Ps} {e : E} {v : V} (hx : nm.ns[i]? = some x) (he : SE c nm n e loc st v st₁) (hc : e.nocomp = true) : SX c nm n (.Assign [.Name x q] e.py p) loc st .next (loc.set i (.v v)) st₁ := fun A env g₀ h₀ oa g s Q Ex r G W F P => by
  refine wpAny_Assign_Name (he A env g s _ Ex r F.eo W F.le fun w h₁ t₁ g₁ G₁ W₁ R₁ => ?_) (py_swaps e _ _ env hc)
  exact (F.gro W G₁).store (s := { s with heap := h₁, toks := t₁ }) W₁ (G.trans G₁) hx R₁ fun h' tk' G' W' F' => P .next h' tk' g₁ oa G' W' F' .next
theorem sx_ret {e : E} {p : Ps} {v : V} (he : SE c nm n e loc st v st₁) : SX c nm n (.Return (some e.py) p) loc st (.ret v) loc st₁ := fun A env g₀ h₀ oa g s Q Ex r G W F P => by
  exact wpAny_Return_some (he A env g s _ Ex r F.eo W F.le fun w h₁ t₁ g₁ G₁ W₁ R₁ => P _ h₁ t₁ g₁ oa (G.trans G₁) W₁ (F.gro W G₁) (.ret R₁))
theorem fs_inter {env : Env} {h₀ h : Heap} {oa : Nat → Addr} {g : Gh} (F : Fs c nm env h₀ oa g h loc) : interactive env = false := by
  unfold interactive; rw [F.eo.kind]; rfl
theorem sx_expr {e : E} {p : Ps} {v : V} (he : SE c nm n e loc st v st₁) (hc : e.nocomp = true) : SX c nm n (.Expr e.py p) loc st .next loc st₁ := fun A env g₀ h₀ oa g s Q Ex r G W F P => by
  exact wpAny_Expr_any (he A env g s _ Ex r F.eo W F.le fun w h₁ t₁ g₁ G₁ W₁ R₁ => P _ h₁ t₁ g₁ oa (G.trans G₁) W₁ (F.gro W G₁) .next) (fs_inter F) (py_swaps e _ _ env hc)
theorem sx_if_t {x : C} {a b : List S} {p : Ps} (hc : SC c nm n x loc st true st₁) (ha : SS c nm n a loc st₁ fl loc₂ st₂) : SX c nm n (.If x.py (Ss.py a) (Ss.py b) p) loc st fl loc₂ st₂ := fun A env g₀ h₀ oa g s Q Ex r G W F P => by
  refine wpAny_If (hc A env g s _ Ex r F.eo W F.le fun h₁ t₁ g₁ G₁ W₁ => ?_)
  exact ha A env g₀ h₀ oa g₁ _ Q Ex r (G.trans G₁) W₁ (F.gro W G₁) P
theorem sx_if_f {x : C} {a b : List S} {p : Ps} (hc : SC c nm n x loc st false st₁) (hb : SS c nm n b loc st₁ fl loc₂ st₂) : SX c nm n (.If x.py (Ss.py a) (Ss.py b) p) loc st fl loc₂ st₂ := fun A env g₀ h₀ oa g s Q Ex r G W F P => by
  refine wpAny_If (hc A env g s _ Ex r F.eo W F.le fun h₁ t₁ g₁ G₁ W₁ => ?_)
  exact hb A env g₀ h₀ oa g₁ _ Q Ex r (G.trans G₁) W₁ (F.gro W G₁) P

/-- while -/
inductive WEv (c : Cn) (nm : Nm) (n : Nat) (x : C) (body : List S) : Nat → List LV → List Inst → Fl → List LV → List Inst → Prop where
  | stop {k : Nat} {loc : List LV} {st st₁ : List Inst} : SC c nm n x loc st false st₁ → WEv c nm n x body k loc st .next loc st₁
  | turn {k : Nat} {loc loc₁ loc₂ : List LV} {st st₁ st₂ st₃ : List Inst} {fl : Fl} : SC c nm n x loc st true st₁ → SS c nm n body loc st₁ .next loc₁ st₂ → WEv c nm n x body k loc₁ st₂ fl loc₂ st₃ → WEv c nm n x body (k + 1) loc st fl loc₂ st₃
  | ret {k : Nat} {loc loc₁ : List LV} {st st₁ st₂ : List Inst} {v : V} : SC c nm n x loc st true st₁ → SS c nm n body loc st₁ (.ret v) loc₁ st₂ → WEv c nm n x body k loc st (.ret v) loc₁ st₂
theorem sx_while {x : C} {body : List S} {p : Ps} {k : Nat} (h : WEv c nm n x body k loc st fl loc₂ st₂) : SX c nm n (.While x.py (Ss.py body) [] p) loc st fl loc₂ st₂ := fun A env g₀ h₀ oa g s Q Ex r G W F P => by
  refine wpAny_While ?_
  refine codeAny_whileLoop (fun k s' => ∃ loc st h' tk' g' oa', s' = { s with heap := h', toks := tk' } ∧ WEv c nm n x body k loc st fl loc₂ st₂ ∧ Gro g₀ h₀ g' h' ∧ Wd c g' st h' ∧ Fs c nm env h₀ oa' g' h' loc) (fun k s' I => ?_) k ⟨loc, st, s.heap, s.toks, g, oa, rfl, h, G, W, F⟩
  obtain ⟨loc, st, h', tk', g', oa', rfl, ev, G, W, F⟩ := I
  have r' : Room n (A.mark none) := ⟨r.hd, r.dep, r.uni⟩
  cases ev with
  | stop hc =>
    refine hc _ env g' _ _ _ r' F.eo W F.le fun h₁ t₁ g₁ G₁ W₁ => ?_
    exact wpAny_execs_nil (P .next h₁ t₁ g₁ oa' (G.trans G₁) W₁ (F.gro W G₁) .next)
  | turn hc hb ev =>
    refine hc _ env g' _ _ _ r' F.eo W F.le fun h₁ t₁ g₁ G₁ W₁ => ?_
    refine hb _ env g₀ h₀ oa' g₁ _ _ _ r' (G.trans G₁) W₁ (F.gro W G₁) fun f h'' tk'' g'' oa'' G'' W'' F'' fr'' => ?_
    cases fr'' with
    | next => exact ⟨_, Nat.lt_succ_self _, _, _, h'', tk'', g'', oa'', rfl, ev, G'', W'', F''⟩
  | ret hc hb =>
    refine hc _ env g' _ _ _ r' F.eo W F.le fun h₁ t₁ g₁ G₁ W₁ => ?_
    refine hb _ env g₀ h₀ oa' g₁ _ _ _ r' (G.trans G₁) W₁ (F.gro W G₁) fun f h'' tk'' g'' oa'' G'' W'' F'' fr'' => ?_
    cases fr'' with
    | ret R => exact P _ h'' tk'' g'' oa'' G'' W'' F'' (.ret R)
end
end Mine

namespace Mine
open PySem PySem.W PySem.Calls PyProof.Rows

def Gh.add (g : Gh) (a : Addr) : Gh := { g with M := fun b => g.M b ∨ b = a }
def Gh.sub (g : Gh) (a : Addr) : Gh := { g with M := fun b => g.M b ∧ b ≠ a }
section
variable {c : Cn} {g g₀ : Gh} {h h' h₀ : Heap} {st : List Inst} {a : Addr}
/-- a fresh object, marked -/
theorem Gro.mark (g : Gh) (ha : h.get? a = none) (k : ∀ b o, h.get? b = some o → h'.get? b = some o) : Gro g h (g.add a) h' :=
  ⟨List.prefix_refl _, List.prefix_refl _, fun b o e _ => k b o e, fun b o e => ⟨o, k b o e⟩, fun b o e => ⟨fun q => q.elim id fun q => (by rw [q, ha] at e; cases e), .inl⟩, fun _ _ _ q => q⟩
theorem Wd.mark (W : Wd c g st h) (ha : h.get? a = none) (k : ∀ b o, h.get? b = some o → h'.get? b = some o) (da : ∃ o, h'.get? a = some o) : Wd c (g.add a) st h' := by
  have ne : ∀ b o, h.get? b = some o → b ≠ a := fun b o e q => by rw [q, ha] at e; cases e
  refine ⟨W.lenρ, W.lenδ, fun k' i x dx h1 h2 h3 => ?_, W.ndδ, W.ndρ, fun d hd => .inl (W.Mδ d hd), fun x hx q => ?_, fun b q => ?_, fun b o e => ?_⟩
  · obtain ⟨e1, es, n, e2, r⟩ := W.inst k' i x dx h1 h2 h3
    exact ⟨k _ _ e1, es, n, k _ _ e2, r.mono (List.prefix_refl _) fun b o e m => ⟨k b o e, fun q => q.elim m (ne b o e)⟩⟩
  · rcases q with q | q
    · exact W.Mρ x hx q
    · obtain ⟨j, hj⟩ := List.getElem?_of_mem hx
      have hj' : j < st.length := by rw [← W.lenρ]; exact (List.getElem?_eq_some_iff.mp hj).1
      obtain ⟨e1, _⟩ := W.inst j _ x _ (List.getElem?_eq_getElem hj') hj (List.getElem?_eq_getElem (by rw [W.lenδ]; exact hj'))
      exact ne x _ e1 q
  · rcases q with q | q
    · obtain ⟨o, e⟩ := W.Mdom b q; exact ⟨o, k b o e⟩
    · subst q; exact da
  · obtain ⟨e1, e2⟩ := W.base b o e
    exact ⟨k b o e1, fun q => q.elim e2 (ne b o e1)⟩
theorem Wd.unmark (W : Wd c g st h) (d : a ∉ g.δ) : Wd c (g.sub a) st h := by
  refine ⟨W.lenρ, W.lenδ, fun k' i x dx h1 h2 h3 => ?_, W.ndδ, W.ndρ, fun x hd => ⟨W.Mδ x hd, fun q => d (q ▸ hd)⟩, fun x hx q => W.Mρ x hx q.1, fun b q => W.Mdom b q.1, fun b o e => ⟨(W.base b o e).1, fun q => (W.base b o e).2 q.1⟩⟩
  obtain ⟨e1, es, n, e2, r⟩ := W.inst k' i x dx h1 h2 h3
  exact ⟨e1, es, n, e2, r.mono (List.prefix_refl _) fun b o e m => ⟨e, fun q => m q.1⟩⟩
theorem Gro.unmark (G : Gro g₀ h₀ g h) (n : h₀.get? a = none) : Gro g₀ h₀ (g.sub a) h :=
  ⟨G.ρ, G.δ, G.keep, G.dom, fun b o e => ⟨fun q => (G.M b o e).mp q.1, fun q => ⟨(G.M b o e).mpr q, fun z => by rw [z, n] at e; cases e⟩⟩, G.new⟩
theorem RV.unmark {v : V} {w : Value} (R : RV c g h v w) : RV c (g.sub a) h v w := R.mono (List.prefix_refl _) fun _ _ e m => ⟨e, fun q => m q.1⟩
theorem DObj.unmark {o : Obj} {f : Int → Option V} {n : Nat} (R : DObj c g h o f n) : DObj c (g.sub a) h o f n := R.mono (List.prefix_refl _) fun _ _ e m => ⟨e, fun q => m q.1⟩
theorem RVs.unmark {v : List V} {w : List Value} (R : RVs c g h v w) : RVs c (g.sub a) h v w := R.mono (List.prefix_refl _) fun _ _ e m => ⟨e, fun q => m q.1⟩
end

section
variable {c : Cn} {nm : Nm} {env : Env} {h₀ : Heap} {oa : Nat → Addr} {g g₀ : Gh} {h h' : Heap} {loc : List LV} {st : List Inst}

def plainD (o : Obj) : Bool := match o.data with
  | .seq .. => true
  | .fields .. => true
  | _ => false
theorem ns_ne_plain {h : Heap} {a b : Addr} {m : Str → Option Value} {o : Obj} (x : h.Ns a m) (e : h.get? b = some o) (d : plainD o = true) : a ≠ b := by
  rintro rfl
  obtain ⟨o', es, ep, ho, hd, _⟩ := x
  rw [e] at ho; cases ho; unfold plainD at d; rw [hd] at d; cases d
theorem cell_ne_plain {h : Heap} {a b : Addr} {o : Obj} {v : Option Value} (x : h.IsCell a v) (e : h.get? b = some o) (d : plainD o = true) : a ≠ b := by
  rintro rfl
  obtain ⟨o', ho, hd⟩ := x
  rw [e] at ho; cases ho; unfold plainD at d; rw [hd] at d; cases d
def lput (i : Nat) (a : Addr) (oa : Nat → Addr) : Nat → Addr := fun j => if j = i then a else oa j
/-- a slot is given its kind anew; what the frame bears stays -/
theorem Fs.slot (F : Fs c nm env h₀ oa g h loc) {i : Nat} {x : Str} {lv : LV} {a : Addr} (hx : nm.ns[i]? = some x) (hs : SlotF c g env h₀ h x a lv)
    (ho : isOwn lv = true → ∀ (j : Nat) (y : LV), loc[j]? = some y → isOwn y = true → oa j = a → j = i) : Fs c nm env h₀ (lput i a oa) g h (loc.set i lv) := by
  have hi : i < loc.length := by rw [F.len]; exact (List.getElem?_eq_some_iff.mp hx).1
  refine ⟨F.eo, F.nd, by rw [List.length_set]; exact F.len, fun j z l hz hl => ?_, F.ns, F.LM, F.Lδ, F.L0, F.kinds, F.cinj, fun j k y z h1 h2 o1 o2 e => ?_⟩
  · by_cases hj : j = i
    · subst hj
      rw [hx] at hz; cases hz
      rw [List.getElem?_set_self hi] at hl; cases hl
      simpa [lput] using hs
    · rw [List.getElem?_set_ne (Ne.symm hj)] at hl
      have := F.slots j z l hz hl
      simpa [lput, hj] using this
  · by_cases hj : j = i
    · by_cases hk : k = i
      · rw [hj, hk]
      · subst hj
        rw [List.getElem?_set_self hi] at h1; cases h1
        rw [List.getElem?_set_ne (Ne.symm hk)] at h2
        simp only [lput, if_pos, if_neg hk] at e
        exact (ho o1 k z h2 o2 e.symm).symm
    · by_cases hk : k = i
      · subst hk
        rw [List.getElem?_set_self hi] at h2; cases h2
        rw [List.getElem?_set_ne (Ne.symm hj)] at h1
        simp only [lput, if_pos, if_neg hj] at e
        exact ho o2 j y h1 o1 e
      · rw [List.getElem?_set_ne (Ne.symm hj)] at h1; rw [List.getElem?_set_ne (Ne.symm hk)] at h2
        simp only [lput, if_neg hj, if_neg hk] at e
        exact F.oinj j k y z h1 h2 o1 o2 e

/-- a value is stored; what it is is told later -/
theorem Fs.storeU {s : Shared} {A : Around} {i : Nat} {x : Str} {w : Value} {Q : Unit → Shared → Prop} {Ex : Value → Shared → Prop} (F : Fs c nm env h₀ oa g s.heap loc) (W : Wd c g st s.heap) (G : Gro g₀ h₀ g s.heap)
    (hx : nm.ns[i]? = some x)
    (h : ∀ h' tk', Gro g₀ h₀ g h' → Wd c g st h' → Fs c nm env h₀ oa g h' (loc.set i .unset) → Reach g env h' x w → (∀ b o, s.heap.get? b = some o → plainD o = true → h'.get? b = some o) → (∀ b o, s.heap.get? b = some o → ¬ g.M b → h'.get? b = some o) → (∃ b, Heap.SameBut b s.heap h' ∧ (b = env.locals ∨ ∃ z ∈ nm.ns, env.kindOf z = some .cell ∧ env.cells.lookup z = some b)) → Q () { s with heap := h', toks := tk' }) : wpAny c.M A (storeName env x w) Q Ex s := by
  have hi : i < loc.length := by rw [F.len]; exact (List.getElem?_eq_some_iff.mp hx).1
  obtain ⟨m, hm⟩ := F.ns
  have own' : ∀ (j k : Nat) (x y' : LV), (loc.set i .unset)[j]? = some x → (loc.set i .unset)[k]? = some y' → isOwn x = true → isOwn y' = true → oa j = oa k → j = k := by
    intro j k x' y' h1 h2 o1 o2 e
    by_cases hj : j = i
    · subst hj; rw [List.getElem?_set_self hi] at h1; cases h1; cases o1
    · by_cases hk : k = i
      · subst hk; rw [List.getElem?_set_self hi] at h2; cases h2; cases o2
      · rw [List.getElem?_set_ne (Ne.symm hj)] at h1; rw [List.getElem?_set_ne (Ne.symm hk)] at h2
        exact F.oinj j k x' y' h1 h2 o1 o2 e
  rcases F.kinds x (List.mem_of_getElem? hx) with k | ⟨k, a, v, l, ce, Ma, da, na⟩
  · refine wpAny_storeName_local k hm (fun h' hn S => h h' _ (G.ext F.L0 S.extBut) (W.ext F.LM F.Lδ S.extBut (let ⟨o, _, _, e, _⟩ := hn; ⟨o, e⟩)) ?_ (.loc _ k hn F.Lδ (by simp)) (fun b o e d => (S.2 b (Ne.symm (ns_ne_plain hm e d))).trans e) (fun b o e nb => (S.2 b fun q => nb (q ▸ F.LM)).trans e) ⟨_, S, .inl rfl⟩) (by rw [F.eo.kind]; rfl)
    refine ⟨F.eo, F.nd, by rw [List.length_set]; exact F.len, fun j z lv hz hl => ?_, ⟨_, hn⟩, F.LM, F.Lδ, F.L0, fun z hz => ?_, F.cinj, own'⟩
    · by_cases hj : j = i
      · subst hj
        rw [List.getElem?_set_self hi] at hl; cases hl
        exact .unset
      · rw [List.getElem?_set_ne (Ne.symm hj)] at hl
        have hne := nd_ne F.nd hx hz hj
        have reach : ∀ u, Reach g env s.heap z u → Reach g env h' z u := fun u r => by
          cases r with
          | loc m2 k2 n2 d2 e2 =>
            rw [ns_fun n2 hm] at e2
            exact .loc _ k2 hn F.Lδ (by simp [hne, e2])
          | cell a k2 l2 d2 e2 => exact .cell a k2 l2 d2 (cell_at e2 fun o ho => (S.2 _ (Ne.symm (ns_ne_cell hm e2))).trans ho)
        cases F.slots j z lv hz hl with
        | unset => exact .unset
        | v r q => exact .v (reach _ r) (q.ext F.LM S.extBut)
        | own r e m' d n q => exact .own (reach _ r) ((S.2 _ (Ne.symm (ns_ne_list hm e rfl))).trans e) m' d n (q.ext F.LM S.extBut)
        | dct r e m' d n z l q => exact .dct (reach _ r) ((S.2 _ l).trans e) m' d n z l (q.ext F.LM S.extBut)
    · rcases F.kinds z hz with k2 | ⟨k2, a, v, l, ce, Ma, da, na⟩
      · exact .inl k2
      · exact .inr ⟨k2, a, v, l, cell_at ce fun o ho => (S.2 _ (Ne.symm (ns_ne_cell hm ce))).trans ho, Ma, da, na⟩
  · refine wpAny_storeName_cell F.eo.kind k l ce fun h' hn S => h h' s.toks (G.ext na S.extBut) (W.ext Ma da S.extBut (let ⟨o, e, _⟩ := hn; ⟨o, e⟩)) ?_ (.cell a k l da hn) (fun b o e d => (S.2 b (Ne.symm (cell_ne_plain ce e d))).trans e) (fun b o e nb => (S.2 b fun q => nb (q ▸ Ma)).trans e) ⟨_, S, .inr ⟨x, List.mem_of_getElem? hx, k, l⟩⟩
    refine ⟨F.eo, F.nd, by rw [List.length_set]; exact F.len, fun j z lv hz hl => ?_, ⟨m, ns_at hm fun o ho => (S.2 _ (ns_ne_cell hm ce)).trans ho⟩, F.LM, F.Lδ, F.L0, fun z hz => ?_, F.cinj, own'⟩
    · by_cases hj : j = i
      · subst hj
        rw [List.getElem?_set_self hi] at hl; cases hl
        exact .unset
      · rw [List.getElem?_set_ne (Ne.symm hj)] at hl
        have hne := nd_ne F.nd hx hz hj
        have reach : ∀ u, Reach g env s.heap z u → Reach g env h' z u := fun u r => by
          cases r with
          | loc m2 k2 n2 d2 e2 => exact .loc m2 k2 (ns_at n2 fun o ho => (S.2 _ (ns_ne_cell n2 ce)).trans ho) d2 e2
          | cell b k2 l2 d2 e2 =>
            have hb : b ≠ a := fun q => hne (F.cinj z x a (List.mem_of_getElem? hz) (List.mem_of_getElem? hx) (q ▸ l2) l)
            exact .cell b k2 l2 d2 (cell_at e2 fun o ho => (S.2 _ hb).trans ho)
        cases F.slots j z lv hz hl with
        | unset => exact .unset
        | v r q => exact .v (reach _ r) (q.ext Ma S.extBut)
        | own r e m' d n q => exact .own (reach _ r) ((S.2 _ (Ne.symm (cell_ne_list ce e rfl))).trans e) m' d n (q.ext Ma S.extBut)
        | dct r e m' d n z l q => exact .dct (reach _ r) ((S.2 _ (q.neC e ce)).trans e) m' d n z l (q.ext Ma S.extBut)
    · rcases F.kinds z hz with k2 | ⟨k2, b, v2, l2, ce2, Mb, db, nb⟩
      · exact .inl k2
      · by_cases hb : b = a
        · subst hb
          exact .inr ⟨k2, b, _, l2, hn, Mb, db, nb⟩
        · exact .inr ⟨k2, b, v2, l2, cell_at ce2 fun o ho => (S.2 _ hb).trans ho, Mb, db, nb⟩

/-- an owned list's object is changed -/
theorem Fs.mut (F : Fs c nm env h₀ oa g h loc) {i : Nat} {x : Str} {xs ys : List V} {ws : List Value} {k : Nat} (hx : nm.ns[i]? = some x) (hl : loc[i]? = some (.own xs)) (S : Heap.SameBut (oa i) h h')
    (e : h'.get? (oa i) = some { cls := .type "list", data := .seq ws.toArray k }) (R : RVs c g h' ys ws) (Mi : g.M (oa i)) : Fs c nm env h₀ oa g h' (loc.set i (.own ys)) := by
  have hi : i < loc.length := by rw [F.len]; exact (List.getElem?_eq_some_iff.mp hx).1
  cases F.slots i x _ hx hl with
  | own r0 e0 m0 d0 n0 q0 =>
    obtain ⟨m, hm⟩ := F.ns
    have hL : env.locals ≠ oa i := ns_ne_list hm e0 rfl
    have reach : ∀ z u, Reach g env h z u → Reach g env h' z u := fun z u r => by
      cases r with
      | loc m2 k2 n2 d2 e2 => exact .loc m2 k2 (ns_at n2 fun o ho => (S.2 _ hL).trans ho) d2 e2
      | cell b k2 l2 d2 e2 => exact .cell b k2 l2 d2 (cell_at e2 fun o ho => (S.2 _ (cell_ne_list e2 e0 rfl)).trans ho)
    refine ⟨F.eo, F.nd, by rw [List.length_set]; exact F.len, fun j z lv hz hl' => ?_, ⟨m, ns_at hm fun o ho => (S.2 _ hL).trans ho⟩, F.LM, F.Lδ, F.L0, fun z hz => ?_, F.cinj, fun j k' y z h1 h2 o1 o2 e' => ?_⟩
    · by_cases hj : j = i
      · subst hj
        rw [hx] at hz; cases hz
        rw [List.getElem?_set_self hi] at hl'; cases hl'
        exact .own (reach _ _ r0) e Mi d0 n0 R
      · rw [List.getElem?_set_ne (Ne.symm hj)] at hl'
        cases F.slots j z lv hz hl' with
        | unset => exact .unset
        | v r q => exact .v (reach _ _ r) (q.ext Mi S.extBut)
        | own r e1 m' d n q => exact .own (reach _ _ r) ((S.2 _ fun z => hj (F.oinj j i _ _ hl' hl rfl rfl z)).trans e1) m' d n (q.ext Mi S.extBut)
        | dct r e1 m' d n z l q => exact .dct (reach _ _ r) ((S.2 _ fun z => hj (F.oinj j i _ _ hl' hl rfl rfl z)).trans e1) m' d n z l (q.ext Mi S.extBut)
    · rcases F.kinds z hz with k2 | ⟨k2, b, v2, l2, ce2, Mb, db, nb⟩
      · exact .inl k2
      · exact .inr ⟨k2, b, v2, l2, cell_at ce2 fun o ho => (S.2 _ (cell_ne_list ce2 e0 rfl)).trans ho, Mb, db, nb⟩
    · have back : ∀ (j : Nat) (y : LV), (loc.set i (.own ys))[j]? = some y → isOwn y = true → ∃ y', loc[j]? = some y' ∧ isOwn y' = true := fun j y q o => by
        by_cases hj : j = i
        · subst hj; exact ⟨_, hl, rfl⟩
        · rw [List.getElem?_set_ne (Ne.symm hj)] at q; exact ⟨y, q, o⟩
      obtain ⟨y', a1, a2⟩ := back j y h1 o1
      obtain ⟨z', b1, b2⟩ := back k' z h2 o2
      exact F.oinj j k' y' z' a1 b1 a2 b2 e'
end

section
variable {c : Cn} {nm : Nm} {n : Nat} {loc loc₁ loc₂ : List LV} {st st₁ st₂ st₃ : List Inst} {fl : Fl}
theorem push_keep {h : Heap} (o : Obj) : ∀ b o', h.get? b = some o' → (h.push o).get? b = some o' := fun _ _ e => Heap.get?_push_of_some _ e
theorem get_size (h : Heap) : h.get? h.objs.size = none := by
  cases e : h.get? h.objs.size with
  | none => rfl
  | some o => exact absurd (Heap.lt_size e) (Nat.lt_irrefl _)
theorem Gro.none {g₀ g : Gh} {h₀ h : Heap} (G : Gro g₀ h₀ g h) {a : Addr} (n : h.get? a = none) : h₀.get? a = none := by
  cases e : h₀.get? a with
  | none => rfl
  | some o => obtain ⟨o', e'⟩ := G.dom a o e; rw [n] at e'; cases e'
theorem sx_own {i : Nat} {x : Str} {q lp p : Ps} {es : List E} {vs : List V} (hx : nm.ns[i]? = some x) (hs : SEs c nm n es loc st vs st₁) (hz : vs.length ≤ 1000000) : SX c nm n (.Assign [.Name x q] (.List (Es.py es) lp) p) loc st .next (loc.set i (.own vs)) st₁ := fun A env g₀ h₀ oa g s Q Ex r G W F P => by
  refine wpAny_Assign_Name (List_ (hs A env g s _ Ex lp r F.eo W F.le fun ws h₁ t₁ g₁ G₁ W₁ R₁ => ?_)) rfl
  refine wpAny_newObj_type ?_ (by show ws.toArray.size ≤ sizeLine; rw [List.size_toArray, R₁.length]; exact Nat.le_trans hz (by decide))
  have ha : h₁.get? h₁.objs.size = none := get_size h₁
  have new : (h₁.push { cls := .type "list", data := .seq ws.toArray }).get? h₁.objs.size = some { cls := .type "list", data := .seq ws.toArray } := Heap.get?_push_size _ rfl
  have G₂ := Gro.mark (a := h₁.objs.size) (h' := h₁.push { cls := .type "list", data := .seq ws.toArray }) g₁ ha (push_keep _)
  have W₂ := W₁.mark ha (push_keep _) ⟨_, new⟩
  have F₂ := (F.gro W G₁).gro W₁ G₂
  have n0 := (G.trans G₁).none ha
  have dδ : h₁.objs.size ∉ g₁.δ := fun q => by
    obtain ⟨o, e⟩ := W₁.Mdom _ (W₁.Mδ _ q); rw [ha] at e; cases e
  refine F₂.storeU (s := { s with heap := h₁.push _, toks := t₁ }) W₂ ((G.trans G₁).trans G₂) hx fun h' tk' G' W' F' rc kl ki _ => ?_
  have hi : i < loc.length := by rw [F.len]; exact (List.getElem?_eq_some_iff.mp hx).1
  have hset : (loc.set i LV.unset).set i (.own vs) = loc.set i (.own vs) := List.set_set ..
  rw [← hset] at P
  refine P .next h' tk' _ (lput i h₁.objs.size oa) G' W' (F'.slot hx (.own rc (kl _ _ new rfl) (.inr rfl) dδ n0 ((R₁.gro W₁ G₂).mono (List.prefix_refl _) fun b o e m => ⟨ki b o e m, m⟩)) fun _ j y hy oy e => ?_) .next
  exfalso
  by_cases hj : j = i
  · subst hj; rw [List.getElem?_set_self hi] at hy; cases hy; cases oy
  · rw [List.getElem?_set_ne (Ne.symm hj)] at hy
    have hjl : j < nm.ns.length := by rw [← F.len]; exact (List.getElem?_eq_some_iff.mp hy).1
    cases y with
    | own ys =>
      cases F.slots j _ _ (List.getElem?_eq_getElem hjl) hy with
      | own r1 e1 m1 d1 n1 q1 => rw [e] at e1; have := G₁.dom _ _ e1; obtain ⟨o', e'⟩ := this; rw [ha] at e'; cases e'
    | dct f n =>
      cases F.slots j _ _ (List.getElem?_eq_getElem hjl) hy with
      | dct r1 e1 m1 d1 n1 z1 l1 q1 => rw [e] at e1; have := G₁.dom _ _ e1; obtain ⟨o', e'⟩ := this; rw [ha] at e'; cases e'
    | _ => cases oy
end
end Mine

namespace Mine
open PySem PySem.W PySem.Calls PyProof.Rows

section
variable {c : Cn} {nm : Nm} {n : Nat} {loc loc₁ loc₂ : List LV} {st st₁ st₂ st₃ : List Inst} {fl : Fl}

theorem sx_append {i : Nat} {x : Str} {xp ap cp p : Ps} {e : E} {xs : List V} {v : V} (hx : nm.ns[i]? = some x) (hl : loc[i]? = some (.own xs)) (hd : (x == ("__debug__" : Str)) = false) (he : SE c nm n e loc st v st₁) (hline : (ap.endLine == cp.line) = true) (hz : xs.length ≤ 1000000) :
    SX c nm n (.Expr (.Call (.Attribute (.Name x xp) "append" ap) [e.py] [] cp) p) loc st .next (loc.set i (.own (xs ++ [v]))) st₁ := fun A env g₀ h₀ oa g s Q Ex r G W F P => by
  refine wpAny_Expr_any ?_ (fs_inter F) rfl
  have hs := star_py e [] env
  have hb : backTo cp (starEach [e.py] env) = [(false, eval e.py env)] := by rw [hs]; rfl
  refine wpAny_Call_append rfl (by rw [hb]; rfl) hline hb ?_
  cases F.slots i x _ hx hl with
  | own R e0 m0 d0 n0 q0 =>
    rename_i ws k
    refine wpAny_Name (reach_load F.eo R ?_) hd
    refine ⟨oa i, ws.toArray, rfl, ⟨_, k, e0, rfl, rfl, rfl⟩, ?_⟩
    refine he A env g s _ Ex r F.eo W F.le fun w h₁ t₁ g₁ G₁ W₁ R₁ => ?_
    have F₁ := F.gro W G₁
    refine wpAny_list_append_plain (s := { s with heap := h₁, toks := t₁ }) (hl := ⟨k, G₁.keep _ _ e0 d0⟩) (fun h' hp S => ?_) (by rw [List.size_toArray, q0.length]; exact Nat.le_trans hz (by decide))
    obtain ⟨k', hp⟩ := hp
    have e1 : ws.toArray.push w = (ws ++ [w]).toArray := by simp
    rw [e1] at hp
    have M1 := (G₁.M _ _ e0).mpr m0
    have d1 : oa i ∉ g₁.δ := fun q => d0 (G₁.new _ _ e0 q)
    exact P .next h' t₁ g₁ oa ((G.trans G₁).ext n0 S.extBut) (W₁.ext M1 d1 S.extBut ⟨_, hp⟩) (F₁.mut hx hl S hp (((q0.gro W G₁).append (.cons R₁ .nil)).ext M1 S.extBut) M1) .next

theorem erase_last {ws : List Value} {k : Nat} (h : ws.length = k + 1) : (ws.toArray.eraseIdxIfInBounds k) = (ws.take k).toArray := by
  unfold Array.eraseIdxIfInBounds
  rw [dif_pos (by rw [List.size_toArray]; omega)]
  apply Array.ext'
  simp only [List.eraseIdx_toArray]
  rw [List.eraseIdx_eq_take_drop_succ, List.drop_of_length_le (by omega), List.append_nil]
/-- del x[len(x) - 1] -/
theorem sx_del {i : Nat} {x : Str} {xp sp p : Ps} {e : E} {xs : List V} {y : V} {k : Nat} (hx : nm.ns[i]? = some x) (hl : loc[i]? = some (.own xs)) (hd : (x == ("__debug__" : Str)) = false) (he : SE c nm n e loc st y st₁) (hy : y.iv c = some (k : Int)) (hk : xs.length = k + 1) (hz : xs.length ≤ 1000000) :
    SX c nm n (.Delete [.Subscript (.Name x xp) e.py sp] p) loc st .next (loc.set i (.own (xs.take k))) st₁ := fun A env g₀ h₀ oa g s Q Ex r G W F P => by
  refine wpAny_Delete (wpAny_deleteEach_cons (wpAny_delete_Subscript ?_))
  cases F.slots i x _ hx hl with
  | own R e0 m0 d0 n0 q0 =>
    rename_i ws kk
    refine wpAny_Name (reach_load F.eo R ?_) hd
    refine he A env g s _ Ex r F.eo W F.le fun w h₁ t₁ g₁ G₁ W₁ R₁ => ?_
    obtain ⟨t, rfl⟩ := R₁.iv hy
    have F₁ := F.gro W G₁
    have hw : ws.length = k + 1 := q0.length.trans hk
    refine wpAny_delItem_plain (s := { s with heap := h₁, toks := t₁ }) (k := k) (hl := ⟨kk, G₁.keep _ _ e0 d0⟩) ?_ ?_ (fun h' hp S => ?_) (by rw [List.size_toArray, hw, ← hk]; exact Nat.le_trans hz (by decide))
    · unfold Builtin.List.listFitsIndex; simp; omega
    · unfold seqIndex?; simp only [List.size_toArray]; rw [hw]; simp; omega
    · obtain ⟨k', hp⟩ := hp
      rw [erase_last hw] at hp
      have M1 := (G₁.M _ _ e0).mpr m0
      have d1 : oa i ∉ g₁.δ := fun q => d0 (G₁.new _ _ e0 q)
      refine wpAny_deleteEach_nil ?_
      exact P .next h' t₁ g₁ oa ((G.trans G₁).ext n0 S.extBut) (W₁.ext M1 d1 S.extBut ⟨_, hp⟩) (F₁.mut hx hl S hp (((q0.gro W G₁).take k).ext M1 S.extBut) M1) .next

/-- an owned list is data from here on -/
theorem Fs.freeze {env : Env} {h₀ h : Heap} {oa : Nat → Addr} {g : Gh} (F : Fs c nm env h₀ oa g h loc) {i : Nat} {x : Str} {xs : List V} (hx : nm.ns[i]? = some x) (hl : loc[i]? = some (.own xs)) :
    oa i ∉ g.δ ∧ h₀.get? (oa i) = none ∧ Fs c nm env h₀ oa (g.sub (oa i)) h (loc.set i (.v (.list xs))) := by
  have hi : i < loc.length := by rw [F.len]; exact (List.getElem?_eq_some_iff.mp hx).1
  cases F.slots i x _ hx hl with
  | own R e0 m0 d0 n0 q0 =>
    refine ⟨d0, n0, ?_⟩
    obtain ⟨m, hm⟩ := F.ns
    have reach : ∀ z u, Reach g env h z u → Reach (g.sub (oa i)) env h z u := fun z u r => by
      cases r with
      | loc m2 k2 n2 d2 e2 => exact .loc m2 k2 n2 d2 e2
      | cell b k2 l2 d2 e2 => exact .cell b k2 l2 d2 e2
    refine ⟨F.eo, F.nd, by rw [List.length_set]; exact F.len, fun j z lv hz hl' => ?_, ⟨m, hm⟩, ⟨F.LM, ns_ne_list hm e0 rfl⟩, F.Lδ, F.L0, fun z hz => ?_, F.cinj, fun j k' y z h1 h2 o1 o2 e' => ?_⟩
    · by_cases hj : j = i
      · subst hj
        rw [hx] at hz; cases hz
        rw [List.getElem?_set_self hi] at hl'; cases hl'
        exact .v (reach _ _ R) (.list e0 (fun q => q.2 rfl) q0.unmark)
      · rw [List.getElem?_set_ne (Ne.symm hj)] at hl'
        cases F.slots j z lv hz hl' with
        | unset => exact .unset
        | v r q => exact .v (reach _ _ r) q.unmark
        | own r e1 m' d n q => exact .own (reach _ _ r) e1 ⟨m', fun z => hj (F.oinj j i _ _ hl' hl rfl rfl z)⟩ d n q.unmark
        | dct r e1 m' d n z l q => exact .dct (reach _ _ r) e1 ⟨m', fun z => hj (F.oinj j i _ _ hl' hl rfl rfl z)⟩ d n z l q.unmark
    · rcases F.kinds z hz with k2 | ⟨k2, b, v2, l2, ce2, Mb, db, nb⟩
      · exact .inl k2
      · exact .inr ⟨k2, b, v2, l2, ce2, ⟨Mb, cell_ne_list ce2 e0 rfl⟩, db, nb⟩
    · by_cases hj : j = i
      · subst hj; rw [List.getElem?_set_self hi] at h1; cases h1; cases o1
      · by_cases hk : k' = i
        · subst hk; rw [List.getElem?_set_self hi] at h2; cases h2; cases o2
        · rw [List.getElem?_set_ne (Ne.symm hj)] at h1; rw [List.getElem?_set_ne (Ne.symm hk)] at h2
          exact F.oinj j k' y z h1 h2 o1 o2 e'
theorem ss_freeze {i : Nat} {x : Str} {xs : List V} {ts : List S} (hx : nm.ns[i]? = some x) (hl : loc[i]? = some (.own xs)) (h : SS c nm n ts (loc.set i (.v (.list xs))) st fl loc₂ st₂) : SS c nm n (.freeze i :: ts) loc st fl loc₂ st₂ := fun A env g₀ h₀ oa g s Q Ex r G W F P => by
  obtain ⟨d, n0, F'⟩ := F.freeze hx hl
  show wpAny _ _ (execs (Ss.py ts) env) Q Ex s
  exact h A env g₀ h₀ oa (g.sub (oa i)) s Q Ex r (G.unmark n0) (W.unmark d) F' P

/-- a, b = t -/
theorem py_swapped (e : E) (ts : List PySem.Expr) (k : Nat) (q : Ps) (env : Env) (h : ∀ es k p, e ≠ .tup es k p) : swappedStores [.Tuple ts k q] e.py env = pure none := by
  cases e <;> first | rfl | exact absurd rfl (h _ _ _)
theorem py_sole (e : E) (t : PySem.Expr) (line : Nat) (env : Env) (h : e.nocomp = true) : swapsWithSole [t] e.py line env = pure false := py_swaps e (some t) line env h
def setMany : List Nat → List V → List LV → List LV
  | i :: is, v :: vs, loc => setMany is vs (loc.set i (.v v))
  | _, _, loc => loc
theorem stores {is : List (Nat × Str × Ps)} {env : Env} {A : Around} {g₀ : Gh} {h₀ : Heap} {oa : Nat → Addr} : ∀ {vs : List V} {ws : List Value} {loc : List LV} {g : Gh} {s : Shared} {Q : Unit → Shared → Prop} {Ex : Value → Shared → Prop},
    (∀ y ∈ is, nm.ns[y.1]? = some y.2.1) → vs.length = is.length → Gro g₀ h₀ g s.heap → Wd c g st s.heap → Fs c nm env h₀ oa g s.heap loc → RVs c g s.heap vs ws →
    (∀ h' tk', Gro g₀ h₀ g h' → Wd c g st h' → Fs c nm env h₀ oa g h' (setMany (is.map (·.1)) vs loc) → Q () { s with heap := h', toks := tk' }) →
    wpAny c.M A (assignInOrder ((assignEach (is.map fun y => .Name y.2.1 y.2.2) env).map (·.2)) ws) Q Ex s := by
  induction is with
  | nil =>
    intro vs ws loc g s Q Ex hn hlen G W F R h
    cases vs with
    | cons => cases hlen
    | nil => cases R; exact wpAny_assignInOrder_none (h s.heap s.toks G W F)
  | cons y is ih =>
    intro vs ws loc g s Q Ex hn hlen G W F R h
    cases vs with
    | nil => cases hlen
    | cons v vs =>
      cases R with
      | cons R0 R =>
        show wpAny _ _ (assignInOrder (assign (.Name y.2.1 y.2.2) env :: _) _) _ _ _
        obtain ⟨m, hm⟩ := F.ns
        refine wpAny_assignInOrder_more (wpAny_assign_Name (F.storeU W G (hn y (.head _)) fun h' tk' G' W' F' rc kl ki _ => ?_))
        have R' := R.mono (g' := g) (h' := h') (List.prefix_refl _) fun b o e m => ⟨ki b o e m, m⟩
        have R0' := R0.mono (g' := g) (h' := h') (List.prefix_refl _) fun b o e m => ⟨ki b o e m, m⟩
        have F'' := F'.slot (a := oa y.1) (hn y (.head _)) (.v rc R0') (fun q => by cases q)
        have e1 : lput y.1 (oa y.1) oa = oa := by funext j; unfold lput; split <;> simp_all
        rw [e1, List.set_set] at F''
        exact ih (s := { s with heap := h', toks := tk' }) (fun z hz => hn z (.tail _ hz)) (Nat.succ.inj hlen) G' W' F'' R' fun h'' tk'' => h h'' tk''
theorem assignEach_len (is : List (Nat × Str × Ps)) (env : Env) : (assignEach (is.map fun y => PySem.Expr.Name y.2.1 y.2.2) env).length = is.length ∧ (assignEach (is.map fun y => PySem.Expr.Name y.2.1 y.2.2) env).findIdx? (·.1) = none := by
  induction is with
  | nil => exact ⟨rfl, rfl⟩
  | cons y is ih =>
    constructor
    · show ((false, _) :: assignEach (is.map fun y => PySem.Expr.Name y.2.1 y.2.2) env).length = _
      rw [List.length_cons, ih.1, List.length_cons]
    · show ((false, _) :: assignEach (is.map fun y => PySem.Expr.Name y.2.1 y.2.2) env).findIdx? (·.1) = none
      rw [List.findIdx?_cons, ih.2]; rfl
theorem sx_unpack {is : List (Nat × Str × Ps)} {k : Nat} {q p : Ps} {e : E} {vs : List V} (hn : ∀ y ∈ is, nm.ns[y.1]? = some y.2.1) (he : SE c nm n e loc st (.tup vs) st₁) (hlen : vs.length = is.length) (hc : e.nocomp = true) (ht : ∀ es k p, e ≠ .tup es k p) :
    SX c nm n (.Assign [.Tuple (is.map fun y => .Name y.2.1 y.2.2) k q] e.py p) loc st .next (setMany (is.map (·.1)) vs loc) st₁ := fun A env g₀ h₀ oa g s Q Ex r G W F P => by
  refine Assign_Tuple (he A env g s _ Ex r F.eo W F.le fun w h₁ t₁ g₁ G₁ W₁ R₁ => ?_) (py_sole e _ _ env hc) (py_swapped e _ _ _ env ht)
  cases R₁ with
  | tup e0 m0 q0 =>
    rename_i a ws nn
    refine wpAny_assign_Tuple (s := { s with heap := h₁, toks := t₁ }) r.hd ⟨_, e0, rfl, _, rfl⟩ (by rw [(assignEach_len is env).1, List.size_toArray, q0.length, hlen]) (assignEach_len is env).2 fun h' X => ?_
    have k' : ∀ b o, h₁.get? b = some o → h'.get? b = some o := fun b o e => X b o (Nat.ne_of_lt (Heap.lt_size e)) e
    have G₂ : Gro g₁ h₁ g₁ h' := ⟨List.prefix_refl _, List.prefix_refl _, fun b o e _ => k' b o e, fun b o e => ⟨o, k' b o e⟩, fun _ _ _ => Iff.rfl, fun _ _ _ q => q⟩
    have W₂ : Wd c g₁ st₁ h' := by
      refine ⟨W₁.lenρ, W₁.lenδ, fun k'' i x dx h1 h2 h3 => ?_, W₁.ndδ, W₁.ndρ, W₁.Mδ, W₁.Mρ, fun b q => let ⟨o, e⟩ := W₁.Mdom b q; ⟨o, k' b o e⟩, fun b o e => ⟨k' b o (W₁.base b o e).1, (W₁.base b o e).2⟩⟩
      obtain ⟨e1, es, n, e2, r⟩ := W₁.inst k'' i x dx h1 h2 h3
      exact ⟨k' _ _ e1, es, n, k' _ _ e2, r.mono (List.prefix_refl _) fun b o e m => ⟨k' b o e, m⟩⟩
    exact stores (s := { s with heap := h', toks := t₁ }) hn hlen ((G.trans G₁).trans G₂) W₂ ((F.gro W G₁).gro W₁ G₂) (q0.gro W₁ G₂) fun h'' tk'' G' W' F' => P .next h'' tk'' g₁ oa G' W' F' .next
end
end Mine

namespace Mine
open PySem PySem.W PySem.Calls PyProof.Rows

/-- a call, as code -/
def SCode (c : Cn) (n : Nat) (a : Addr) (vs : List V) (st : List Inst) (v : V) (st' : List Inst) : Prop :=
  ∀ (A : Around) (g : Gh) (s : Shared) (ws : List Value) (R : Result → Shared → Prop),
    Room n A → Wd c g st s.heap → RVs c g s.heap vs ws → (∀ val h' tk' g', Gro g s.heap g' h' → Wd c g' st' h' → RV c g' h' v val → R (.ok (.ret val)) { s with heap := h', toks := tk' }) → codeAny c.M A (.call (.ref a) ⟨ws, []⟩) R s
theorem SCode.call {c : Cn} {n : Nat} {a : Addr} {vs : List V} {st : List Inst} {v : V} {st' : List Inst} (h : SCode c n a vs st v st') : SCall c n a vs st v st' := fun A g s ws Q Ex r W R P =>
  wpAny_call (h A g s ws _ r W R fun val h' tk' g' G W' R' => P val h' tk' g' G W' R')

structure FnD where
  name : Str
  qual : Str
  params : Arguments
  body : List Stmt
  scope : Scope
  dV : Value
  kV : Value
  doc : Value
  pm : Value
  an : Option Addr
  cdv : Value
  ct : Value
  oc : Value
  od : Option Addr
  osl : Array (Option Value)
def FnD.fd (d : FnD) : FuncData := fnOf d.name d.qual d.params d.body d.scope d.dV d.kV d.doc d.pm d.an d.cdv d.ct
/-- the def that stands at a: its slots' names (the first ones its parameters), its body -/
structure FnAt (c : Cn) (a : Addr) (d : FnD) (nm : Nm) (np : Nat) (body : List S) : Prop where
  look : c.K.lookup a = some ⟨d.oc, d.od, .func d.fd, d.osl⟩
  code : codeIn c.K d.cdv d.qual = true
  hco : d.scope.isCoroutine = false
  hgen : d.scope.isGenerator = false
  hk : d.scope.kind = .function
  body : d.body = Ss.py body
  binds : ∀ ws : List Value, ws.length = np → bindArgs d.fd ⟨ws, []⟩ = pure ((nm.ns.take np).zip ws)
  nd : nm.ns.Nodup
  np : np ≤ nm.ns.length
  loc : ∀ x ∈ nm.ns, d.scope.names.lookup x = some .local
  gs : ∀ x ∈ nm.gs, d.scope.names.lookup x = some .globalImplicit
  nocell : ∀ x ∈ d.scope.names, x.2 ≠ .cell
  nocs : nm.cs = []
  ls : ∀ x ∈ nm.ls, x ∈ nm.ns

def locInit (nm : Nm) (vs : List V) : List LV := vs.map .v ++ List.replicate (nm.ns.length - vs.length) .unset
theorem locInit_len {nm : Nm} {vs : List V} (h : vs.length ≤ nm.ns.length) : (locInit nm vs).length = nm.ns.length := by
  unfold locInit; rw [List.length_append, List.length_map, List.length_replicate]; omega
theorem locInit_get {nm : Nm} {vs : List V} {i : Nat} {lv : LV} (h : (locInit nm vs)[i]? = some lv) : lv = .unset ∨ ∃ v, vs[i]? = some v ∧ lv = .v v := by
  unfold locInit at h
  by_cases hi : i < vs.length
  · rw [List.getElem?_append_left (by rw [List.length_map]; exact hi), List.getElem?_map, List.getElem?_eq_getElem hi] at h
    cases h
    exact .inr ⟨_, List.getElem?_eq_getElem hi, rfl⟩
  · rw [List.getElem?_append_right (by rw [List.length_map]; omega), List.getElem?_replicate] at h
    split at h
    · cases h; exact .inl rfl
    · cases h
theorem zip_lookup : ∀ {ns : List Str} {ws : List Value} {i : Nat} {x : Str} {w : Value}, ns.Nodup → ns[i]? = some x → ws[i]? = some w → (ns.zip ws).reverse.lookup x = some w := by
  intro ns
  induction ns with
  | nil => intro ws i x w _ h _; cases h
  | cons y ns ih =>
    intro ws i x w nd hx hw
    cases ws with
    | nil => cases hw
    | cons u ws =>
      rw [List.zip_cons_cons, List.reverse_cons]
      cases i with
      | zero =>
        cases hx; cases hw
        have : ((ns.zip ws).reverse).lookup y = none := by
          rw [List.lookup_eq_none_iff]
          intro p hp
          have hm := List.of_mem_zip (List.mem_reverse.mp hp)
          have hne : ¬ y = p.1 := fun q => (List.nodup_cons.mp nd).1 (q ▸ hm.1)
          simpa using hne
        rw [List.lookup_append, this]; simp
      | succ i =>
        have := ih (List.nodup_cons.mp nd).2 hx hw
        rw [List.lookup_append, this]; rfl

section
variable {c : Cn} {nm : Nm} {n np : Nat} {a : Addr} {d : FnD} {body : List S} {st st₁ st₂ : List Inst} {vs : List V} {v : V} {loc : List LV} {fl : Fl}
theorem Room.deeper {A : Around} {env : Env} (r : Room (n + 1) A) : Room n (A.deeper env) := by
  have h1 := r.dep; have h2 := r.uni
  refine ⟨r.hd, ?_, ?_⟩
  · show A.depth + 1 + 4 * n < 900; omega
  · show A.units + 3 + 100 * n < 9000; omega
/-- the frame of a def without cells -/
theorem fs_enter {g : Gh} {s : Shared} {h₁ : Heap} {ws : List Value} (ok : FnAt c a d nm np body) (W : Wd c g st s.heap) (R : RVs c g s.heap vs ws) (hn : vs.length = np)
    (hns : h₁.Ns s.heap.objs.size (fun x => ((nm.ns.take np).zip ws).reverse.lookup x)) (hk : ∀ b o, s.heap.get? b = some o → h₁.get? b = some o) :
    Gro g s.heap (g.add s.heap.objs.size) h₁ ∧ Wd c (g.add s.heap.objs.size) st h₁ ∧ Fs c nm (callEnv d.fd s.heap.objs.size a) s.heap (fun _ => 0) (g.add s.heap.objs.size) h₁ (locInit nm vs) := by
  have h0 := get_size s.heap
  have dom : ∃ o, h₁.get? s.heap.objs.size = some o := let ⟨o, _, _, e, _⟩ := hns; ⟨o, e⟩
  have G := Gro.mark (a := s.heap.objs.size) (h' := h₁) g h0 hk
  refine ⟨G, W.mark h0 hk dom, ?_⟩
  have dδ : s.heap.objs.size ∉ g.δ := fun q => by
    obtain ⟨o, e⟩ := W.Mdom _ (W.Mδ _ q); rw [h0] at e; cases e
  refine ⟨⟨fun x hx => ok.loc x (ok.ls x hx), fun x hx => (by rw [ok.nocs] at hx; cases hx), fun x hx => ok.gs x hx, ok.hk, rfl, rfl⟩, ok.nd, locInit_len (by rw [hn]; exact ok.np), fun i x lv hx hl => ?_, ⟨_, hns⟩, .inr rfl, dδ, h0, fun x hx => .inl (ok.loc x hx), fun x y b _ _ e => (by cases e), fun i j x y h1 h2 o1 o2 _ => ?_⟩
  · rcases locInit_get hl with rfl | ⟨u, hu, rfl⟩
    · exact .unset
    · obtain ⟨w, hw, Rw⟩ := R.get hu
      have hi : i < np := by rw [← hn]; exact (List.getElem?_eq_some_iff.mp hu).1
      have hx' : (nm.ns.take np)[i]? = some x := by rw [List.getElem?_take, if_pos hi]; exact hx
      exact .v (.loc _ (ok.loc x (List.mem_of_getElem? hx)) hns dδ (zip_lookup (ok.nd.sublist (List.take_sublist ..)) hx' hw)) (Rw.gro W G)
  · rcases locInit_get h1 with rfl | ⟨u, hu, rfl⟩ <;> cases o1
inductive FlV : Fl → V → Prop where
  | next : FlV .next .none
  | ret (v : V) : FlV (.ret v) v
theorem sCode_fn (ok : FnAt c a d nm np body) (hn : vs.length = np) (h : SS c nm n body (locInit nm vs) st fl loc st₂) (hv : FlV fl v) : SCode c (n + 1) a vs st v st₂ := fun A g s ws R r W RR P => by
  have X := W.X
  refine codeAny_call_def (o := ⟨d.oc, d.od, .func d.fd, d.osl⟩) (fd := d.fd) (body := d.body) (binds := (nm.ns.take np).zip ws) ?_ (X _ _ ok.look) rfl (c.T.nolimit.keeps fun b o e => (W.base b o e).1) (codeRec_of X ok.code) rfl (BindsTo.of_eq (ok.binds ws (RR.length.trans hn))) ok.nocell (fun x hx => ?_) (fun h₁ hns hk => ?_) ok.hco ok.hgen ok.hk
  · have := r.dep; show A.depth < 1000; omega
  · exact ok.loc x.1 (List.mem_of_mem_take (List.of_mem_zip hx).1)
  · obtain ⟨G, W₁, F⟩ := fs_enter ok W RR hn hns hk
    rw [ok.body]
    refine h _ _ g s.heap _ _ { s with heap := h₁, toks := _ } _ _ r.deeper G W₁ F fun f h' tk' g' oa' G' W' F' fr => ?_
    cases fr with
    | next => cases hv; exact P _ h' tk' g' G' W' .none
    | ret R' => cases hv; exact P _ h' tk' g' G' W' R'

/-- a method's call -/
structure MethOk (c : Cn) (k : Nat) (x : Str) (a : Addr) : Prop where
  get : plainGet c.K (c.cls k) x = true
  find : findIn c.K (.ref (c.cls k)) x = some (some (.ref a))
  fn : isFn c.K (.ref a) = true
  keep : keepIn c.K (.ref a) = true
  nofld : x ∉ c.fld k
theorem FR.getL_none {c : Cn} {g : Gh} {h : Heap} {x : Str} : ∀ {ns : List Str} {es : List DictEntry} {fs : List V}, FR c g h ns es fs → x ∉ ns → PySem.W.getL x es = some none
  | _, _, _, .nil, _ => rfl
  | _, _, _, .cons (n := n) (t := t) (w := w) (es := es) r rs, hx => by
    have ih := FR.getL_none rs (fun q => hx (.tail _ q))
    have hne : n ≠ x := fun q => hx (by rw [q]; exact .head _)
    unfold PySem.W.getL at ih ⊢
    rw [List.find?_cons_of_neg (by simpa [Value.isStr] using hne)]
    cases q : List.find? (fun x_1 => x_1.key.isStr x) es with
    | some y => rw [q] at ih; cases ih
    | none =>
      rw [q] at ih
      dsimp only at ih ⊢
      rw [List.any_cons]
      split at ih
      · cases ih
      · rename_i z
        rw [if_neg]
        simp only [Bool.or_eq_true, not_or]
        exact ⟨by simp [DictEntry.refKey], z⟩
theorem py_meth (o : E) (x : Str) (q p : Ps) (es : List E) (env : Env) (ho : o.nocall = true) (hz : es.length < 29) (hline : (q.endLine == p.line) = true) : eval (.Call (.Attribute o.py x q) (Es.py es) [] p) env = (do
      let ov ← eval o.py env
      standAt q.atName
      let (f, first) ← holding [ov] (getMethod ov x (do return (← importBound o.py env).getD true))
      callWith p f first (backTo p (starEach (Es.py es) env)) (backToKw p (keywordEach [] env))) := by
  have hb : attributeBase o.py x env (eval o.py env) = eval o.py env := by cases o <;> first | rfl | cases ho
  have hl : (Es.py es).length = es.length := by
    clear hz
    induction es with
    | nil => rfl
    | cons e es ih => show (e.py :: Es.py es).length = _; rw [List.length_cons, List.length_cons, ih]
  have hall : (backTo p (starEach (Es.py es) env)).all (fun x => !x.1) = true := by
    have := plain_args es p env
    rw [List.all_eq_not_any_not, show (fun (x : Bool × Sem Value) => !!x.1) = (·.1) by funext x; simp, this]; rfl
  have hf : methodCallForm ((Es.py es).length + ([] : List Keyword).length) (backTo p (starEach (Es.py es) env)) (backToKw p (keywordEach [] env)) = true := by
    unfold methodCallForm
    rw [hall, hl]
    show (true && true && decide (es.length + 0 + 0 < 30)) = true
    simp; omega
  rw [arm_eval_Call, hb]
  unfold methodCall
  rw [hf]
  unfold calleeOf methodCallPos
  simp only [hline, Bool.not_true, Bool.false_or, if_true]
  rfl
theorem sE_meth {o : E} {k f : Nat} {x : Str} {q p : Ps} {es : List E} {i : Inst} {ma : Addr} (ho : SE c nm n o loc st (.obj k) st₁) (hi : st₁[k]? = some i) (ok : MethOk c i.cls x ma) (hs : SEs c nm n es loc st₁ vs st₂) {st₃ : List Inst} (hc : SCall c n ma (.obj k :: vs) st₂ v st₃) (hoc : o.nocall = true) (hz : es.length < 29) (hline : (q.endLine == p.line) = true) :
    SE c nm n (.meth o f x q es p) loc st v st₃ := fun A env g s Q Ex r eo W L P => by
  show wpAny _ _ (eval (.Call (.Attribute o.py x q) (Es.py es) [] p) env) Q Ex s
  refine methodCall_KW (ho A env g s _ Ex r eo W L fun wa h₁ t₁ g₁ G₁ W₁ R₁ => ?_) (py_meth o x q p es env hoc hz hline)
  cases R₁ with
  | obj ea =>
    rename_i xa
    have hk : k < g₁.δ.length := by rw [W₁.lenδ]; exact (List.getElem?_eq_some_iff.mp hi).1
    obtain ⟨e1, des, dn, e2, fr⟩ := W₁.inst k i xa _ hi ea (List.getElem?_eq_getElem hk)
    refine method_fn (od := some (dictOf des dn)) W₁.X ⟨e1, rfl, rfl, e2⟩ (plainGet_of ok.get).1 (plainGet_of ok.get).2 ok.find (beq_iff_eq.mp ok.fn) (by show (lookIn x (dictOf des dn)).map _ = _; rw [lookIn_dict, fr.getL_none ok.nofld]; rfl) ?_
    refine callWith_of (P := c.K.In) (by rw [plain_args]; rfl) (keeps_K ok.keep) (args_eval (hs A env g₁ _ _ Ex p r eo W₁ (L.gro W G₁) fun ws h₂ t₂ g₂ G₂ W₂ R₂ => ?_))
    exact ⟨W₂.X, hc A g₂ _ (.ref xa :: ws) Q Ex r W₂ (.cons (RV.gro (.obj ea) W₁ G₂) R₂) (P.trans (G₁.trans G₂))⟩

structure NewOk (c : Cn) (k : Nat) (fI : Addr) : Prop where
  makes : makesIn c.K (c.cls k) = true
  init : findIn c.K (.ref (c.cls k)) "__init__" = some (some (.ref fI))
  fn : isFn c.K (.ref fI) = true
theorem Wd.inst_new {g : Gh} {h : Heap} (W : Wd c g st h) (k : Nat) : let h' := (h.push emptyDict).push (instObj (c.cls k) h.objs.size); let g' : Gh := { ρ := g.ρ ++ [h.objs.size + 1], δ := g.δ ++ [h.objs.size], M := fun b => g.M b ∨ b = h.objs.size }; Gro g h g' h' ∧ Wd c g' (st ++ [⟨k, []⟩]) h' := by
  intro h' g'
  have h0 := get_size h
  have keep : ∀ b o, h.get? b = some o → h'.get? b = some o := fun b o e => Heap.get?_push_of_some _ (Heap.get?_push_of_some _ e)
  have ed : h'.get? h.objs.size = some emptyDict := Heap.get?_push_of_some _ (Heap.get?_push_size _ rfl)
  have ei : h'.get? (h.objs.size + 1) = some (instObj (c.cls k) h.objs.size) := by
    have := Heap.get?_push_size (h.push emptyDict) (o := instObj (c.cls k) h.objs.size) rfl
    rw [Heap.size_push] at this; exact this
  have h1 : h.get? (h.objs.size + 1) = none := by
    cases e : h.get? (h.objs.size + 1) with
    | none => rfl
    | some o => exact absurd (Heap.lt_size e) (Nat.not_lt.mpr (Nat.le_succ _))
  have ne : ∀ b o, h.get? b = some o → b ≠ h.objs.size := fun b o e q => by rw [q, h0] at e; cases e
  have dδ : h.objs.size ∉ g.δ := fun q => by obtain ⟨o, e⟩ := W.Mdom _ (W.Mδ _ q); rw [h0] at e; cases e
  have im : ∀ b o, h.get? b = some o → ¬ g.M b → h'.get? b = some o ∧ ¬ g'.M b := fun b o e m => ⟨keep b o e, fun q => q.elim m (ne b o e)⟩
  have ρin : ∀ x ∈ g.ρ, ∃ o, h.get? x = some o := fun x hx => by
    obtain ⟨j, hj⟩ := List.getElem?_of_mem hx
    have hj' : j < st.length := by rw [← W.lenρ]; exact (List.getElem?_eq_some_iff.mp hj).1
    obtain ⟨e1, _⟩ := W.inst j _ x _ (List.getElem?_eq_getElem hj') hj (List.getElem?_eq_getElem (by rw [W.lenδ]; exact hj'))
    exact ⟨_, e1⟩
  refine ⟨⟨List.prefix_append .., List.prefix_append .., fun b o e _ => keep b o e, fun b o e => ⟨o, keep b o e⟩, fun b o e => ⟨fun q => q.elim id fun q => absurd q (ne b o e), .inl⟩, fun b o e q => ?_⟩, ?_⟩
  · rcases List.mem_append.mp q with q | q
    · exact q
    · exact absurd (List.mem_singleton.mp q) (ne b o e)
  · refine ⟨by show (g.ρ ++ _).length = _; rw [List.length_append, List.length_append, W.lenρ]; rfl, by show (g.δ ++ _).length = _; rw [List.length_append, List.length_append, W.lenδ]; rfl, fun j i x dx a1 a2 a3 => ?_, ?_, ?_, fun dd hd => ?_, fun x hx q => ?_, fun b q => ?_, fun b o e => ⟨keep b o (W.base b o e).1, fun q => q.elim (W.base b o e).2 (ne b o (W.base b o e).1)⟩⟩
    · by_cases hj : j < st.length
      · rw [List.getElem?_append_left hj] at a1
        have a2' : g.ρ[j]? = some x := by rw [← a2]; exact (List.getElem?_append_left (by rw [W.lenρ]; exact hj)).symm
        have a3' : g.δ[j]? = some dx := by rw [← a3]; exact (List.getElem?_append_left (by rw [W.lenδ]; exact hj)).symm
        obtain ⟨e1, es, n, e2, r⟩ := W.inst j i x dx a1 a2' a3'
        exact ⟨keep _ _ e1, es, n, keep _ _ e2, r.mono (List.prefix_append ..) im⟩
      · have hj' : j = st.length := by
          have := (List.getElem?_eq_some_iff.mp a1).1
          rw [List.length_append, List.length_singleton] at this; omega
        subst hj'
        rw [List.getElem?_concat_length] at a1; cases a1
        have a2' : some x = some (h.objs.size + 1) := by rw [← a2]; show (g.ρ ++ [h.objs.size + 1])[st.length]? = _; rw [← W.lenρ, List.getElem?_concat_length]
        have a3' : some dx = some h.objs.size := by rw [← a3]; show (g.δ ++ [h.objs.size])[st.length]? = _; rw [← W.lenδ, List.getElem?_concat_length]
        cases a2'; cases a3'
        exact ⟨ei, [], 0, ed, .nil⟩
    · exact List.nodup_append.mpr ⟨W.ndδ, (by simp), fun x hx y hy q => dδ (by rw [← List.mem_singleton.mp hy, ← q]; exact hx)⟩
    · refine List.nodup_append.mpr ⟨W.ndρ, (by simp), fun x hx y hy q => ?_⟩
      obtain ⟨o, e⟩ := ρin x hx
      rw [q, List.mem_singleton.mp hy, h1] at e; cases e
    · rcases List.mem_append.mp hd with hd | hd
      · exact .inl (W.Mδ dd hd)
      · exact .inr (List.mem_singleton.mp hd)
    · rcases List.mem_append.mp hx with hx | hx
      · obtain ⟨o, e⟩ := ρin x hx
        exact q.elim (W.Mρ x hx) (ne x o e)
      · rw [List.mem_singleton.mp hx] at q
        rcases q with q | q
        · obtain ⟨o, e⟩ := W.Mdom _ q; rw [h1] at e; cases e
        · exact absurd q (Nat.succ_ne_self _)
    · rcases q with q | q
      · obtain ⟨o, e⟩ := W.Mdom b q; exact ⟨o, keep b o e⟩
      · subst q; exact ⟨_, ed⟩
theorem sCode_new {k : Nat} {fI : Addr} (ok : NewOk c k fI) (h : SCode c n fI (.obj st.length :: vs) (st ++ [⟨k, []⟩]) .none st₂) : SCode c (n + 1) (c.cls k) vs st (.obj st.length) st₂ := fun A g s ws R r W RR P => by
  obtain ⟨hp, gs, dr, tk, os⟩ := s
  have X : c.K.In hp := W.X
  obtain ⟨G, W'⟩ := W.inst_new k
  have hne : (some (Value.ref fI) != some (Value.builtin "object.__init__")) = true := rfl
  refine make_core (makes_of X ok.makes) (looks_findIn X ok.init) (fun self => bind_fn X self (beq_iff_eq.mp ok.fn)) (.inl hne) ?_
  have r' : Room n (A.under (.builtin "type.__call__" ⟨.ref (c.cls k) :: ws, []⟩)) := by
    have h1 := r.dep; have h2 := r.uni
    refine ⟨r.hd, ?_, ?_⟩
    · show A.depth + 1 + 4 * n < 900; omega
    · show A.units + 1 + 100 * n < 9000; omega
  have hρ : (g.ρ ++ [hp.objs.size + 1])[st.length]? = some (hp.objs.size + 1) := by rw [← W.lenρ, List.getElem?_concat_length]
  refine h _ _ ⟨(hp.push emptyDict).push (instObj (c.cls k) hp.objs.size), gs, dr, tk, os⟩ (.ref (hp.objs.size + 1) :: ws) _ r' W' (.cons (.obj hρ) (RR.gro W G)) fun val h' tk' g' G' W'' R' => ?_
  cases R' with
  | none =>
    refine ⟨rfl, ?_⟩
    exact P _ h' tk' g' (G.trans G') W'' (.obj (pre_get G'.ρ hρ))
end
end Mine

namespace Mine
open PySem PySem.W PySem.Calls PyProof.Rows

def noHeap : Heap := { objs := #[] }
theorem noHeap_get (a : Addr) : noHeap.get? a = none := by
  cases e : noHeap.get? a with
  | none => rfl
  | some o => exact absurd (Heap.lt_size e) (Nat.not_lt_zero _)
theorem fr_any {h : Heap} {L : Addr} {m : Str → Option Value} (n : h.Ns L m) : Fr noHeap L h m := ⟨n, fun b o e => (by rw [noHeap_get] at e; cases e), Nat.zero_le _⟩
def others (h : Heap) (L d : Addr) : List (Addr × Obj) := (List.range h.objs.size).filterMap fun a => if a = L ∨ a = d then none else (h.get? a).map fun o => (a, o)
theorem mem_others {h : Heap} {L d a : Addr} {o : Obj} (e : h.get? a = some o) (h1 : a ≠ L) (h2 : a ≠ d) : (a, o) ∈ others h L d := by
  unfold others
  refine List.mem_filterMap.mpr ⟨a, List.mem_range.mpr (Heap.lt_size e), ?_⟩
  rw [if_neg (by rintro (q | q); exact h1 q; exact h2 q), e]; rfl
theorem of_others {h : Heap} {L d : Addr} {p : Addr × Obj} (e : p ∈ others h L d) : h.get? p.1 = some p.2 ∧ p.1 ≠ L ∧ p.1 ≠ d := by
  unfold others at e
  obtain ⟨a, _, q⟩ := List.mem_filterMap.mp e
  split at q
  · cases q
  · rename_i hn
    cases g : h.get? a with
    | none => rw [g] at q; cases q
    | some o => rw [g] at q; cases q; exact ⟨g, fun z => hn (.inl z), fun z => hn (.inr z)⟩

structure SetOk (c : Cn) (k : Nat) (x : Str) : Prop where
  set : findIn c.K (.ref (c.cls k)) "__setattr__" = some (some (.builtin "object.__setattr__"))
  over : plainOver c.K (c.cls k) = true
  taker : takerIn c.K (c.cls k) x = some none
  dict : hasDictIn c.K (c.cls k) = true

section
variable {c : Cn} {g : Gh} {h : Heap}
theorem FR.len {ns : List Str} {es : List DictEntry} {fs : List V} (r : FR c g h ns es fs) : es.length = fs.length := by
  induction r with
  | nil => rfl
  | cons _ _ ih => rw [List.length_cons, List.length_cons, ih]
def putV (fs : List V) (f : Nat) (v : V) : List V := if f < fs.length then fs.set f v else fs ++ [v]
theorem FR.put {hs : Int} {t : Tok} {w : Value} {v : V} (R : RV c g h v w) : ∀ {ns : List Str} {es : List DictEntry} {fs : List V}, FR c g h ns es fs → ns.Nodup → ∀ {f : Nat} {x : Str}, ns[f]? = some x → f ≤ fs.length →
    FR c g h ns (putL x hs (.str x t) w es) (putV fs f v)
  | ns, _, _, .nil, nd, f, x, hx, hf => by
    have : f = 0 := Nat.le_zero.mp hf
    subst this
    cases ns with
    | nil => cases hx
    | cons y ns => cases hx; exact .cons R .nil
  | _, _, _, .cons (n := n) (t := t') (w := w') (es := es) (xs := xs) r rs, nd, f, x, hx, hf => by
    cases f with
    | zero =>
      cases hx
      rw [putL, if_pos (by simp [Value.isStr])]
      show FR c g h _ _ (if 0 < (_ :: xs).length then _ else _)
      rw [if_pos (by simp)]
      exact .cons R rs
    | succ f =>
      have hne : n ≠ x := fun q => (List.nodup_cons.mp nd).1 (by rw [q]; exact List.mem_of_getElem? hx)
      have ih := FR.put R (hs := hs) (t := t) rs (List.nodup_cons.mp nd).2 hx (Nat.le_of_succ_le_succ hf)
      rw [putL, if_neg (by simpa [Value.isStr] using hne)]
      unfold putV at ih ⊢
      by_cases hl : f < xs.length
      · rw [if_pos hl] at ih
        rw [if_pos (by rw [List.length_cons]; omega)]
        exact .cons r ih
      · rw [if_neg hl] at ih
        rw [if_neg (by rw [List.length_cons]; omega)]
        exact .cons r ih
end

section
variable {c : Cn} {nm : Nm} {n : Nat} {loc loc₁ loc₂ : List LV} {st st₁ st₂ st₃ : List Inst} {fl : Fl}

theorem sx_setattr {o e : E} {k f : Nat} {x : Str} {q p : Ps} {i : Inst} {v : V} (he : SE c nm n e loc st v st₁) (ho : SE c nm n o loc st₁ (.obj k) st₂) (hi : st₂[k]? = some i) (ok : SetOk c i.cls x) (nd : (c.fld i.cls).Nodup) (hx : (c.fld i.cls)[f]? = some x) (hf : f ≤ i.fs.length) (hz : i.fs.length ≤ 10) (hc : e.nocomp = true) :
    SX c nm n (.Assign [.Attribute o.py x q] e.py p) loc st .next loc (st₂.set k ⟨i.cls, putV i.fs f v⟩) := fun A env g₀ h₀ oa g s Q Ex r G W F P => by
  refine plainObj_wpAny_Assign_Attribute (he A env g s _ Ex r F.eo W F.le fun w h₁ t₁ g₁ G₁ W₁ R₁ => ?_) (py_swaps e _ _ env hc)
  refine ho A env g₁ _ _ Ex r F.eo W₁ (F.le.gro W G₁) fun wo h₂ t₂ g₂ G₂ W₂ R₂ => ?_
  have F₂ := (F.gro W G₁).gro W₁ G₂
  have Rv := R₁.gro W₁ G₂
  cases R₂ with
  | obj ea =>
    rename_i xa
    have hk : k < g₂.δ.length := by rw [W₂.lenδ]; exact (List.getElem?_eq_some_iff.mp hi).1
    have hdx := List.getElem?_eq_getElem hk
    obtain ⟨e1, es, dn, e2, fr⟩ := W₂.inst k i xa _ hi ea hdx
    obtain ⟨m, hm⟩ := F₂.ns
    have dL : g₂.δ[k] ≠ env.locals := fun q => F₂.Lδ (q ▸ List.getElem_mem hk)
    have N : News noHeap env.locals h₂ ([] ++ (g₂.δ[k], dictOf es dn) :: others h₂ env.locals g₂.δ[k]) := by
      intro pr hp
      rcases List.mem_cons.mp hp with rfl | hp
      · exact ⟨e2, dL, noHeap_get _⟩
      · obtain ⟨a1, a2, _⟩ := of_others hp
        exact ⟨a1, a2, noHeap_get _⟩
    have hl : (lookIn x (dictOf es dn)).isSome = true := by
      rw [lookIn_dict]
      by_cases hfl : f < i.fs.length
      · obtain ⟨u, hu, _⟩ := fr.getL nd hx (List.getElem?_eq_getElem hfl)
        rw [hu]; rfl
      · cases gq : PySem.W.getL x es with
        | some _ => rfl
        | none =>
          exfalso
          have keys : ∀ {ns : List Str} {es : List DictEntry} {fs : List V}, FR c g₂ h₂ ns es fs → es.any (·.refKey) = false := fun r => by
            induction r with
            | nil => rfl
            | cons _ _ ih => rw [List.any_cons, ih]; rfl
          unfold PySem.W.getL at gq
          split at gq
          · cases gq
          · rw [keys fr] at gq; cases gq
    refine set_plain (s := { s with heap := h₂, toks := t₂ }) (od := some (dictOf es dn)) W₂.X ⟨e1, rfl, rfl, e2⟩ ok.set ?_
    refine osa_dict (s := { s with heap := h₂, toks := t₂ + 1 }) (pre := []) (fr_any hm) N W₂.X ⟨e1, rfl, rfl, e2⟩ rfl ok.over ok.taker ok.dict hl (fun _ hp => nomatch hp) (fun pr hp => (of_others hp).2.2) (putName_dict ..) rfl ?_ fun h' F' N' => ?_
    · have := (fr.put Rv (hs := PyData.keyHash c.w.params x) (t := t₂ + 1) nd hx hf).len
      rw [this]; unfold putV; split <;> simp <;> omega
    · have ed := (N' _ (.head _)).1
      have keep : ∀ b o, b ≠ env.locals → b ≠ g₂.δ[k] → h₂.get? b = some o → h'.get? b = some o := fun b o n1 n2 e => (N' (b, o) (.tail _ (mem_others e n1 n2))).1
      have Mδ := W₂.Mδ _ (List.getElem_mem hk)
      have imm : ∀ b o, h₂.get? b = some o → ¬ g₂.M b → h'.get? b = some o ∧ ¬ g₂.M b := fun b o e mm => ⟨keep b o (fun q => mm (q ▸ F₂.LM)) (fun q => mm (q ▸ Mδ)) e, mm⟩
      have domL : ∃ o, h'.get? env.locals = some o := let ⟨o, _, _, e, _⟩ := F'.ns; ⟨o, e⟩
      have Gt := (G.trans G₁).trans G₂
      refine P .next h' _ g₂ oa ?_ ?_ ?_ .next
      · refine ⟨Gt.ρ, Gt.δ, fun b o e nb => ?_, fun b o e => ?_, Gt.M, Gt.new⟩
        · exact keep b o (fun q => by rw [q, F.L0] at e; cases e) (fun q => nb (Gt.new b o e (q ▸ List.getElem_mem hk))) (Gt.keep b o e nb)
        · obtain ⟨o', e'⟩ := Gt.dom b o e
          by_cases q : b = g₂.δ[k]
          · subst q; exact ⟨_, ed⟩
          · exact ⟨o', keep b o' (fun q => by rw [q, F.L0] at e; cases e) q e'⟩
      · refine ⟨by rw [List.length_set]; exact W₂.lenρ, by rw [List.length_set]; exact W₂.lenδ, fun j i' a' d' b1 b2 b3 => ?_, W₂.ndδ, W₂.ndρ, W₂.Mδ, W₂.Mρ, fun b q => ?_, fun b o e => imm b o (W₂.base b o e).1 (W₂.base b o e).2⟩
        · by_cases hj : j = k
          · subst hj
            rw [List.getElem?_set_self (List.getElem?_eq_some_iff.mp hi).1] at b1; cases b1
            rw [ea] at b2; cases b2
            rw [hdx] at b3; cases b3
            exact ⟨(imm _ _ e1 (W₂.Mρ _ (List.mem_of_getElem? ea))).1, _, _, ed, (fr.put Rv nd hx hf).mono (List.prefix_refl _) imm⟩
          · rw [List.getElem?_set_ne (Ne.symm hj)] at b1
            obtain ⟨c1, es', n', c2, r'⟩ := W₂.inst j i' a' d' b1 b2 b3
            have hd' : d' ≠ g₂.δ[k] := by
              intro q
              obtain ⟨hj', ej⟩ := List.getElem?_eq_some_iff.mp b3
              exact hj ((List.getElem_inj W₂.ndδ).mp (ej.trans q))
            have hdL : d' ≠ env.locals := fun q => F₂.Lδ (q ▸ List.mem_of_getElem? b3)
            exact ⟨(imm _ _ c1 (W₂.Mρ _ (List.mem_of_getElem? b2))).1, es', n', keep d' _ hdL hd' c2, r'.mono (List.prefix_refl _) imm⟩
        · obtain ⟨o, e⟩ := W₂.Mdom b q
          by_cases q1 : b = g₂.δ[k]
          · subst q1; exact ⟨_, ed⟩
          · by_cases q2 : b = env.locals
            · subst q2; exact domL
            · exact ⟨o, keep b o q2 q1 e⟩
      · have cellk : ∀ b u, h₂.IsCell b u → b ∉ g₂.δ → h'.IsCell b u := fun b u ce nd' => cell_at ce fun o ho => keep b o (Ne.symm (ns_ne_cell hm ce)) (fun q => nd' (q ▸ List.getElem_mem hk)) ho
        have reach : ∀ z u, Reach g₂ env h₂ z u → Reach g₂ env h' z u := fun z u r => by
          cases r with
          | loc m2 k2 n2 d2 e2 => rw [ns_fun n2 hm] at e2; exact .loc _ k2 F'.ns d2 e2
          | cell b k2 l2 d2 e2 => exact .cell b k2 l2 d2 (cellk b _ e2 d2)
        refine ⟨F₂.eo, F₂.nd, F₂.len, fun j z lv hz' hl' => ?_, ⟨_, F'.ns⟩, F₂.LM, F₂.Lδ, F₂.L0, fun z hz' => ?_, F₂.cinj, F₂.oinj⟩
        · cases F₂.slots j z lv hz' hl' with
          | unset => exact .unset
          | v r q => exact .v (reach _ _ r) (q.mono (List.prefix_refl _) imm)
          | own r e1 m' d' n' q => exact .own (reach _ _ r) (keep _ _ (Ne.symm (ns_ne_list hm e1 rfl)) (fun q => d' (q ▸ List.getElem_mem hk)) e1) m' d' n' (q.mono (List.prefix_refl _) imm)
          | dct r e1 m' d' n' z l q => exact .dct (reach _ _ r) (keep _ _ l (fun q => d' (q ▸ List.getElem_mem hk)) e1) m' d' n' z l (q.mono (List.prefix_refl _) imm)
        · rcases F₂.kinds z hz' with k2 | ⟨k2, b, v2, l2, ce2, Mb, db, nb⟩
          · exact .inl k2
          · exact .inr ⟨k2, b, v2, l2, cellk b _ ce2 db, Mb, db, nb⟩
end
end Mine

namespace Mine
open PySem PySem.W PySem.Calls PyProof.Rows

/-- what an iterator over xs is -/
structure ItOk (c : Cn) (A : Around) (g : Gh) (h : Heap) (I : Addr) (xs : List V) (fp : List Addr) (P : Nat → Value → Prop) (Stt : Nat → Heap → Prop) : Prop where
  W : Walks c.prog c.w A I fp [I] xs.length P Stt
  M : g.M I
  dδ : I ∉ g.δ
  dat : ∀ i h, Stt i h → ∃ o vs, h.get? I = some o ∧ o.data = .fields vs
  st : Stt 0 h
  fp : ∀ b ∈ fp, b ≠ I → ¬ g.M b ∧ ∃ o, h.get? b = some o
  val : ∀ i v, i < xs.length → P i v → ∃ y, xs[i]? = some y ∧ RV c g h y v
  size : xs.length ≤ 1000000
def SI (c : Cn) (nm : Nm) (n : Nat) (e : E) (loc : List LV) (st : List Inst) (xs : List V) (st' : List Inst) : Prop :=
  ∀ (A : Around) (env : Env) (g : Gh) (s : Shared) (Q : Value → Shared → Prop) (Ex : Value → Shared → Prop),
    Room n A → EnvOk nm env → Wd c g st s.heap → Le c env nm.ns g s.heap loc →
    (∀ I h' tk' g' fp P Stt, Gro g s.heap g' h' → Wd c g' st' h' → s.heap.get? I = none → ItOk c A g' h' I xs fp P Stt → Q (.ref I) { s with heap := h', toks := tk' }) →
    wpAny c.M A (eval e.py env) (fun x s₁ => wpAny c.M A (pyIter x) Q Ex s₁) Ex s

section
variable {c : Cn} {nm : Nm} {n : Nat} {loc loc₁ loc₂ : List LV} {st st₁ st₂ st₃ : List Inst} {fl : Fl}

theorem si_list {e : E} {xs : List V} (he : SE c nm n e loc st (.list xs) st₁) (hz : xs.length ≤ 1000000) : SI c nm n e loc st xs st₁ := fun A env g s Q Ex r eo W L P => by
  refine he A env g s _ Ex r eo W L fun w h₁ t₁ g₁ G₁ W₁ R₁ => ?_
  cases R₁ with
  | list e0 m0 q0 =>
    rename_i l ws k
    have hl : h₁.IsList l ws.toArray := ⟨_, e0, rfl, _, rfl⟩
    refine wpAny_pyIter_list (s := { s with heap := h₁, toks := t₁ }) hl ?_
    have ha := get_size h₁
    have hne : l ≠ h₁.objs.size := Nat.ne_of_lt (Heap.lt_size e0)
    have new := Heap.get?_push_size h₁ (o := { cls := .type "list_iterator", data := .fields #[.ref l, .int 0 0] }) rfl
    have G₂ := Gro.mark (a := h₁.objs.size) (h' := h₁.push { cls := .type "list_iterator", data := .fields #[.ref l, .int 0 0] }) g₁ ha (push_keep _)
    have hs : ws.toArray.size = xs.length := by rw [List.size_toArray, q0.length]
    have Wk := Walks.list (prog := c.prog) (w := c.w) r.hd h₁.objs.size l hne ws.toArray
    rw [hs] at Wk
    refine P _ _ t₁ (g₁.add h₁.objs.size) _ _ _ (G₁.trans G₂) (W₁.mark ha (push_keep _) ⟨_, new⟩) (G₁.none ha) ⟨Wk, .inr rfl, ?_, ?_, ?_, ?_, ?_, hz⟩
    · exact fun q => by obtain ⟨o, e⟩ := W₁.Mdom _ (W₁.Mδ _ q); rw [ha] at e; cases e
    · exact fun i h st => let ⟨o, e, _, d⟩ := st.1; ⟨o, _, e, d⟩
    · exact ⟨⟨_, new, rfl, rfl⟩, ⟨_, push_keep _ _ _ e0, rfl, _, rfl⟩⟩
    · intro b hb hbI
      have : b = l := by simpa [hbI] using hb
      subst this
      exact ⟨fun q => q.elim m0 hne, _, push_keep _ _ _ e0⟩
    · intro i v _ hv
      rw [List.getElem?_toArray] at hv
      obtain ⟨y, hy, R⟩ := q0.get' hv
      exact ⟨y, hy, R.gro W₁ G₂⟩
theorem si_tup {e : E} {xs : List V} (he : SE c nm n e loc st (.tup xs) st₁) (hz : xs.length ≤ 1000000) : SI c nm n e loc st xs st₁ := fun A env g s Q Ex r eo W L P => by
  refine he A env g s _ Ex r eo W L fun w h₁ t₁ g₁ G₁ W₁ R₁ => ?_
  cases R₁ with
  | tup e0 m0 q0 =>
    rename_i l ws k
    have hl : h₁.IsTuple l ws.toArray := ⟨_, e0, rfl, _, rfl⟩
    refine wpAny_pyIter_tuple (s := { s with heap := h₁, toks := t₁ }) hl ?_
    have ha := get_size h₁
    have hne : l ≠ h₁.objs.size := Nat.ne_of_lt (Heap.lt_size e0)
    have new := Heap.get?_push_size h₁ (o := { cls := .type "tuple_iterator", data := .fields #[.ref l, .int 0 0] }) rfl
    have G₂ := Gro.mark (a := h₁.objs.size) (h' := h₁.push { cls := .type "tuple_iterator", data := .fields #[.ref l, .int 0 0] }) g₁ ha (push_keep _)
    have hs : ws.toArray.size = xs.length := by rw [List.size_toArray, q0.length]
    have Wk := Walks.tuple (prog := c.prog) (w := c.w) r.hd h₁.objs.size l hne ws.toArray
    rw [hs] at Wk
    refine P _ _ t₁ (g₁.add h₁.objs.size) _ _ _ (G₁.trans G₂) (W₁.mark ha (push_keep _) ⟨_, new⟩) (G₁.none ha) ⟨Wk, .inr rfl, ?_, ?_, ?_, ?_, ?_, hz⟩
    · exact fun q => by obtain ⟨o, e⟩ := W₁.Mdom _ (W₁.Mδ _ q); rw [ha] at e; cases e
    · exact fun i h st => let ⟨o, e, _, d⟩ := st.1; ⟨o, _, e, d⟩
    · exact ⟨⟨_, new, rfl, rfl⟩, ⟨_, push_keep _ _ _ e0, rfl, _, rfl⟩⟩
    · intro b hb hbI
      have : b = l := by simpa [hbI] using hb
      subst this
      exact ⟨fun q => q.elim m0 hne, _, push_keep _ _ _ e0⟩
    · intro i v _ hv
      rw [List.getElem?_toArray] at hv
      obtain ⟨y, hy, R⟩ := q0.get' hv
      exact ⟨y, hy, R.gro W₁ G₂⟩
/-- the ints of a range -/
def rng (a c : Int) (n : Nat) : List V := (List.range n).map fun i : Nat => V.int (a + i * c)
theorem rng_len (a c : Int) (n : Nat) : (rng a c n).length = n := by unfold rng; rw [List.length_map, List.length_range]
theorem range_it {A : Around} {g : Gh} {s : Shared} {r : Addr} {a b d : Int} {t u v : Tok} {k : Nat} {Q : Value → Shared → Prop} {Ex : Value → Shared → Prop} (ro : Room n A) (W : Wd c g st s.heap) (hr : IsRange s.heap r a b d t u v) (hs : Builtin.Range.small a b d = true) (hk : Builtin.Range.rangeSize a b d = k) (hz : k ≤ 1000000)
    (P : ∀ I h' g' fp P Stt, Gro g s.heap g' h' → Wd c g' st h' → s.heap.get? I = none → ItOk c A g' h' I (rng a d k) fp P Stt → Q (.ref I) { s with heap := h' }) : wpAny c.M A (pyIter (.ref r)) Q Ex s := by
  refine wpAny_pyIter_range hr hs ?_
  rw [hk]
  have ha := get_size s.heap
  have new := Heap.get?_push_size s.heap (o := { cls := .type "range_iterator", data := .fields #[rawInt a, rawInt k, rawInt d] }) rfl
  have G₂ := Gro.mark (a := s.heap.objs.size) (h' := s.heap.push { cls := .type "range_iterator", data := .fields #[rawInt a, rawInt k, rawInt d] }) g ha (push_keep _)
  have Wk := Walks.range (prog := c.prog) (w := c.w) ro.hd s.heap.objs.size a d k
  have e : (rng a d k).length = k := rng_len ..
  rw [← e] at Wk
  refine P _ _ (g.add s.heap.objs.size) _ _ _ G₂ (W.mark ha (push_keep _) ⟨_, new⟩) ha ⟨Wk, .inr rfl, ?_, ?_, ?_, ?_, ?_, by rw [e]; exact hz⟩
  · exact fun q => by obtain ⟨o, e⟩ := W.Mdom _ (W.Mδ _ q); rw [ha] at e; cases e
  · exact fun i h st => ⟨_, _, st, rfl⟩
  · show (s.heap.push _).get? _ = _
    rw [new, e]
    simp [rawInt]
  · intro b hb hbI
    exact absurd (by simpa using hb) hbI
  · rintro i w hi ⟨tt, rfl⟩
    rw [e] at hi
    refine ⟨.int (a + i * d), ?_, .int _ _⟩
    unfold rng
    rw [List.getElem?_map, List.getElem?_range hi]; rfl
/-- range(e) -/
theorem si_range1 {x : Str} {q p : Ps} {e : E} {y : V} {k : Nat} (ok : BtOk c nm x (.type "range")) (he : SE c nm n e loc st y st₁) (hy : y.iv c = some (k : Int)) (hz : k ≤ 1000000) : SI c nm n (.call .range x q [e] p) loc st (rng 0 1 k) st₁ := fun A env g s Q Ex r eo W L P => by
  show wpAny _ _ (eval (.Call (.Name x q) [e.py] [] p) env) _ _ s
  refine Call_Name rfl (blt_load eo W ok ?_)
  refine PyProof.Rows.callWith_type (plain_args [e] p env) (args_eval (es := [e]) (sEs_cons he sEs_nil A env g s _ Ex p r eo W L fun ws h₁ t₁ g₁ G₁ W₁ R₁ => ?_))
  cases R₁ with
  | cons R0 R' =>
    cases R'
    obtain ⟨t, rfl⟩ := R0.iv hy
    refine call_range_1 (s := { s with heap := h₁, toks := t₁ }) ?_
    have G₂ := Gro.push g₁ h₁ { cls := .type "range", data := .fields #[.int 0 t₁, .int k t, .int 1 (t₁ + 1)] }
    refine range_it (s := { s with heap := h₁.push _, toks := t₁ + 1 + 1 }) (k := k) r (W₁.push _) (IsRange.new ..) ?_ ?_ hz fun I h' g' fp P' Stt G' W' n' ok' => P I h' _ g' fp P' Stt ((G₁.trans G₂).trans G') W' ((G₁.trans G₂).none n') ok'
    · exact small_one (by omega) (by omega) (by omega) (by omega)
    · rw [rangeSize_one]; split <;> omega
/-- range(a, b, d) -/
theorem si_range3 {x : Str} {q p : Ps} {e₁ e₂ e₃ : E} {y₁ y₂ y₃ : V} {a b d : Int} {k : Nat} (ok : BtOk c nm x (.type "range")) (h1 : SE c nm n e₁ loc st y₁ st₁) (h2 : SE c nm n e₂ loc st₁ y₂ st₂) (h3 : SE c nm n e₃ loc st₂ y₃ st₃) (hy1 : y₁.iv c = some a) (hy2 : y₂.iv c = some b) (hy3 : y₃.iv c = some d) (hd : d ≠ 0)
    (ha : a.natAbs < 100000) (hb : b.natAbs < 100000) (hd' : d.natAbs < 100000) (hk : Builtin.Range.rangeSize a b d = k) (hz : k ≤ 1000000) : SI c nm n (.call .range x q [e₁, e₂, e₃] p) loc st (rng a d k) st₃ := fun A env g s Q Ex r eo W L P => by
  show wpAny _ _ (eval (.Call (.Name x q) [e₁.py, e₂.py, e₃.py] [] p) env) _ _ s
  refine Call_Name rfl (blt_load eo W ok ?_)
  refine PyProof.Rows.callWith_type (plain_args [e₁, e₂, e₃] p env) (args_eval (es := [e₁, e₂, e₃]) (sEs_cons h1 (sEs_cons h2 (sEs_cons h3 sEs_nil)) A env g s _ Ex p r eo W L fun ws h₁ t₁ g₁ G₁ W₁ R₁ => ?_))
  cases R₁ with
  | cons R0 R' =>
    cases R' with
    | cons R1 R' =>
      cases R' with
      | cons R2 R' =>
        cases R'
        obtain ⟨t, rfl⟩ := R0.iv hy1
        obtain ⟨u, rfl⟩ := R1.iv hy2
        obtain ⟨v, rfl⟩ := R2.iv hy3
        refine call_range_3 (s := { s with heap := h₁, toks := t₁ }) hd ?_ (Or.inl (PyProof.noPylong_small (by omega)))
        have G₂ := Gro.push g₁ h₁ { cls := .type "range", data := .fields #[.int a t, .int b u, .int d v] }
        refine range_it (s := { s with heap := h₁.push _, toks := t₁ }) (k := k) r (W₁.push _) (IsRange.new ..) ?_ hk hz fun I h' g' fp P' Stt G' W' n' ok' => P I h' _ g' fp P' Stt ((G₁.trans G₂).trans G') W' ((G₁.trans G₂).none n') ok'
        unfold Builtin.Range.small
        rw [hk]
        simp only [Builtin.Range.rangeFitsLong, Bool.and_eq_true, Bool.or_eq_true, decide_eq_true_eq, beq_iff_eq]
        refine ⟨⟨⟨⟨by omega, by omega⟩, by omega⟩, by omega⟩, .inr ?_⟩
        split <;> simp only [Bool.and_eq_true, decide_eq_true_eq] <;> omega
end

/-- the frame's own objects -/
def fmut (env : Env) (ns : List Str) (oa : Nat → Addr) (loc : List LV) : List Addr :=
  env.locals :: (ns.filterMap fun x => if env.kindOf x = some .cell then env.cells.lookup x else none) ++ (List.range loc.length).filterMap fun i => match loc[i]? with | some (LV.own _) => some (oa i) | some (LV.dct ..) => some (oa i) | _ => none
section
variable {c : Cn} {nm : Nm} {env : Env} {h₀ : Heap} {oa oa' : Nat → Addr} {g g₀ g' : Gh} {h h' : Heap} {loc loc' : List LV} {st st' : List Inst}
theorem fmut_own {i : Nat} {xs : List V} {ns : List Str} (h : loc[i]? = some (.own xs)) : oa i ∈ fmut env ns oa loc := by
  refine List.mem_append.mpr (.inr (List.mem_filterMap.mpr ⟨i, List.mem_range.mpr (List.getElem?_eq_some_iff.mp h).1, ?_⟩))
  rw [h]
theorem fmut_dct {i : Nat} {f : Int → Option V} {n : Nat} {ns : List Str} (h : loc[i]? = some (.dct f n)) : oa i ∈ fmut env ns oa loc := by
  refine List.mem_append.mpr (.inr (List.mem_filterMap.mpr ⟨i, List.mem_range.mpr (List.getElem?_eq_some_iff.mp h).1, ?_⟩))
  rw [h]
theorem fmut_cell {x : Str} {a : Addr} {ns : List Str} (hx : x ∈ ns) (k : env.kindOf x = some .cell) (h : env.cells.lookup x = some a) : a ∈ fmut env ns oa loc :=
  List.mem_append.mpr (.inl (.tail _ (List.mem_filterMap.mpr ⟨x, hx, by rw [if_pos k]; exact h⟩)))
theorem fmut_L {ns : List Str} : env.locals ∈ fmut env ns oa loc := List.mem_append.mpr (.inl (.head _))
theorem Fs.fmut0 (F : Fs c nm env h₀ oa g h loc) {b : Addr} (hb : b ∈ fmut env nm.ns oa loc) : h₀.get? b = none := by
  rcases List.mem_append.mp hb with hb | hb
  · rcases List.mem_cons.mp hb with rfl | hb
    · exact F.L0
    · obtain ⟨x, hx, e⟩ := List.mem_filterMap.mp hb
      split at e
      · rename_i kc
        rcases F.kinds x hx with k | ⟨k, a, v, l, ce, Ma, da, na⟩
        · rw [kc] at k; cases k
        · rw [e] at l; cases l; exact na
      · cases e
  · obtain ⟨i, hi, e⟩ := List.mem_filterMap.mp hb
    split at e
    · rename_i xs hl
      cases e
      have hi' : i < nm.ns.length := by rw [← F.len]; exact List.mem_range.mp hi
      have hl' : loc[i]? = some (.own xs) := hl
      cases F.slots i _ _ (List.getElem?_eq_getElem hi') hl' with
      | own r e1 m d n q => exact n
    · rename_i f k hl
      cases e
      have hi' : i < nm.ns.length := by rw [← F.len]; exact List.mem_range.mp hi
      have hl' : loc[i]? = some (.dct f k) := hl
      cases F.slots i _ _ (List.getElem?_eq_getElem hi') hl' with
      | dct r e1 m d n z l q => exact n
    · cases e
/-- the frame over all that now stands -/
theorem Fs.rebase (F : Fs c nm env h₀ oa g h loc) : Fs c nm env (hideAll h (fmut env nm.ns oa loc)) oa g h loc := by
  refine ⟨F.eo, F.nd, F.len, fun i x lv hx hl => ?_, F.ns, F.LM, F.Lδ, hideAll_none _ fmut_L, fun x hx => ?_, F.cinj, F.oinj⟩
  · cases F.slots i x lv hx hl with
    | unset => exact .unset
    | v r q => exact .v r q
    | own r e1 m d n q => exact .own r e1 m d (hideAll_none _ (fmut_own hl)) q
    | dct r e1 m d n z l q => exact .dct r e1 m d (hideAll_none _ (fmut_dct hl)) z l q
  · rcases F.kinds x hx with k | ⟨k, a, v, l, ce, Ma, da, na⟩
    · exact .inl k
    · exact .inr ⟨k, a, v, l, ce, Ma, da, hideAll_none _ (fmut_cell hx k l)⟩
theorem Gro.hide (g : Gh) (h : Heap) (l : List Addr) : Gro g (hideAll h l) g h :=
  ⟨List.prefix_refl _, List.prefix_refl _, fun _ _ e _ => of_hideAll _ e, fun _ o e => ⟨o, of_hideAll _ e⟩, fun _ _ _ => Iff.rfl, fun _ _ _ q => q⟩
theorem Gro.back {l : List Addr} (G : Gro g₀ h₀ g h) (n : ∀ b ∈ l, h₀.get? b = Option.none) (G' : Gro g (hideAll h l) g' h') : Gro g₀ h₀ g' h' := by
  have up : ∀ b o, h₀.get? b = some o → ∀ o', h.get? b = some o' → (hideAll h l).get? b = some o' := fun b o e o' e' => hideAll_get _ e' fun q => by rw [n b q] at e; cases e
  refine ⟨G.ρ.trans G'.ρ, G.δ.trans G'.δ, fun b o e nb => ?_, fun b o e => ?_, fun b o e => ?_, fun b o e q => ?_⟩
  · exact G'.keep b o (up b o e o (G.keep b o e nb)) fun q => nb (G.new b o e q)
  · obtain ⟨o', e'⟩ := G.dom b o e; exact G'.dom b o' (up b o e o' e')
  · obtain ⟨o', e'⟩ := G.dom b o e; exact (G'.M b o' (up b o e o' e')).trans (G.M b o e)
  · obtain ⟨o', e'⟩ := G.dom b o e; exact G.new b o e (G'.new b o' (up b o e o' e') q)
theorem Fs.back {l : List Addr} (F : Fs c nm env h₀ oa g h loc) (G : Gro g₀ h₀ g h) (n : ∀ b ∈ l, h₀.get? b = none) (F' : Fs c nm env (hideAll h l) oa' g' h' loc') : Fs c nm env h₀ oa' g' h' loc' := by
  refine ⟨F'.eo, F'.nd, F'.len, fun i x lv hx hl => ?_, F'.ns, F'.LM, F'.Lδ, F.L0, fun x hx => ?_, F'.cinj, F'.oinj⟩
  · cases F'.slots i x lv hx hl with
    | unset => exact .unset
    | v r q => exact .v r q
    | own r e1 m d nn q =>
      refine .own r e1 m d ?_ q
      cases e : h₀.get? (oa' i) with
      | none => rfl
      | some o =>
        obtain ⟨o', e'⟩ := G.dom _ o e
        have := hideAll_get l e' fun q => by rw [n _ q] at e; cases e
        rw [nn] at this; cases this
    | dct r e1 m d nn z l' q =>
      refine .dct r e1 m d ?_ z l' q
      cases e : h₀.get? (oa' i) with
      | none => rfl
      | some o =>
        obtain ⟨o', e'⟩ := G.dom _ o e
        have := hideAll_get l e' fun q => by rw [n _ q] at e; cases e
        rw [nn] at this; cases this
  · rcases F'.kinds x hx with k | ⟨k, a, v, l', ce, Ma, da, na⟩
    · exact .inl k
    · rcases F.kinds x hx with k2 | ⟨k2, a2, v2, l2, ce2, Ma2, da2, na2⟩
      · rw [k] at k2; cases k2
      · rw [l'] at l2; cases l2
        exact .inr ⟨k, a, v, l', ce, Ma, da, na2⟩
theorem plain_nd {o : Obj} (d : plainD o = true) : ∀ es ep, o.data ≠ .dict es ep := fun es ep q => by unfold plainD at d; rw [q] at d; cases d
/-- the iterator's own step -/
theorem Fs.iter (F : Fs c nm env h₀ oa g h loc) {I : Addr} {o : Obj} (e : h.get? I = some o) (d : plainD o = true) (nl : ∀ xs n, o.data ≠ .seq xs n) (M : g.M I) (S : Heap.ExtBut I h h') : Fs c nm env h₀ oa g h' loc := by
  obtain ⟨m, hm⟩ := F.ns
  have hL : env.locals ≠ I := ns_ne_plain hm e d
  have reach : ∀ z u, Reach g env h z u → Reach g env h' z u := fun z u r => by
    cases r with
    | loc m2 k2 n2 d2 e2 => exact .loc m2 k2 (ns_at n2 fun o ho => S _ _ hL ho) d2 e2
    | cell b k2 l2 d2 e2 => exact .cell b k2 l2 d2 (cell_at e2 fun o ho => S _ _ (cell_ne_plain e2 e d) ho)
  refine ⟨F.eo, F.nd, F.len, fun i x lv hx hl => ?_, ⟨m, ns_at hm fun o ho => S _ _ hL ho⟩, F.LM, F.Lδ, F.L0, fun x hx => ?_, F.cinj, F.oinj⟩
  · cases F.slots i x lv hx hl with
    | unset => exact .unset
    | v r q => exact .v (reach _ _ r) (q.ext M S)
    | own r e1 m d' n q =>
      refine .own (reach _ _ r) (S _ _ (fun z => ?_) e1) m d' n (q.ext M S)
      rw [z, e] at e1; cases e1; exact nl _ _ rfl
    | dct r e1 m d' n z l q => exact .dct (reach _ _ r) (S _ _ (q.ne e1 e (plain_nd d)) e1) m d' n z l (q.ext M S)
  · rcases F.kinds x hx with k | ⟨k, a, v, l, ce, Ma, da, na⟩
    · exact .inl k
    · exact .inr ⟨k, a, v, l, cell_at ce fun o ho => S _ _ (cell_ne_plain ce e d) ho, Ma, da, na⟩
theorem Fs.unmark (F : Fs c nm env h₀ oa g h loc) {I : Addr} {o : Obj} (e : h.get? I = some o) (d : plainD o = true) (nl : ∀ xs n, o.data ≠ .seq xs n) : Fs c nm env h₀ oa (g.sub I) h loc := by
  obtain ⟨m, hm⟩ := F.ns
  have hL : env.locals ≠ I := ns_ne_plain hm e d
  have reach : ∀ z u, Reach g env h z u → Reach (g.sub I) env h z u := fun z u r => by
    cases r with
    | loc m2 k2 n2 d2 e2 => exact .loc m2 k2 n2 d2 e2
    | cell b k2 l2 d2 e2 => exact .cell b k2 l2 d2 e2
  refine ⟨F.eo, F.nd, F.len, fun i x lv hx hl => ?_, ⟨m, hm⟩, ⟨F.LM, hL⟩, F.Lδ, F.L0, fun x hx => ?_, F.cinj, F.oinj⟩
  · cases F.slots i x lv hx hl with
    | unset => exact .unset
    | v r q => exact .v (reach _ _ r) q.unmark
    | own r e1 m d' n q =>
      refine .own (reach _ _ r) e1 ⟨m, fun z => ?_⟩ d' n q.unmark
      rw [z, e] at e1; cases e1; exact nl _ _ rfl
    | dct r e1 m d' n z l q => exact .dct (reach _ _ r) e1 ⟨m, q.ne e1 e (plain_nd d)⟩ d' n z l q.unmark
  · rcases F.kinds x hx with k | ⟨k, a, v, l, ce, Ma, da, na⟩
    · exact .inl k
    · exact .inr ⟨k, a, v, l, ce, ⟨Ma, cell_ne_plain ce e d⟩, da, na⟩
theorem Wd.extD {a : Addr} (W : Wd c g st h) (m : g.M a) (d : a ∉ g.δ) (S : Heap.ExtBut a h h') : Wd c (g.sub a) st h' := by
  have im : ∀ b o, h.get? b = some o → ¬ g.M b → h'.get? b = some o ∧ ¬ (g.sub a).M b := fun b o e k => ⟨S b o (fun q => k (q ▸ m)) e, fun q => k q.1⟩
  refine ⟨W.lenρ, W.lenδ, fun k i x dx h1 h2 h3 => ?_, W.ndδ, W.ndρ, fun x hd => ⟨W.Mδ x hd, fun q => d (q ▸ hd)⟩, fun x hx q => W.Mρ x hx q.1, fun b q => ?_, fun b o e => ?_⟩
  · obtain ⟨e1, es, n, e2, r⟩ := W.inst k i x dx h1 h2 h3
    have hx : x ≠ a := fun q => W.Mρ x (List.mem_of_getElem? h2) (q ▸ m)
    have hd : dx ≠ a := fun q => d (q ▸ List.mem_of_getElem? h3)
    exact ⟨S x _ hx e1, es, n, S dx _ hd e2, r.mono (List.prefix_refl _) im⟩
  · obtain ⟨o, e⟩ := W.Mdom b q.1; exact ⟨o, S b o q.2 e⟩
  · obtain ⟨e1, e2⟩ := W.base b o e
    exact im b o e1 e2
theorem Fs.extD (F : Fs c nm env h₀ oa g h loc) {I : Addr} {o : Obj} (e : h.get? I = some o) (d : plainD o = true) (nl : ∀ xs n, o.data ≠ .seq xs n) (M : g.M I) (S : Heap.ExtBut I h h') : Fs c nm env h₀ oa (g.sub I) h' loc := by
  obtain ⟨m, hm⟩ := F.ns
  have hL : env.locals ≠ I := ns_ne_plain hm e d
  have reach : ∀ z u, Reach g env h z u → Reach (g.sub I) env h' z u := fun z u r => by
    cases r with
    | loc m2 k2 n2 d2 e2 => exact .loc m2 k2 (ns_at n2 fun o ho => S _ _ hL ho) d2 e2
    | cell b k2 l2 d2 e2 => exact .cell b k2 l2 d2 (cell_at e2 fun o ho => S _ _ (cell_ne_plain e2 e d) ho)
  refine ⟨F.eo, F.nd, F.len, fun i x lv hx hl => ?_, ⟨m, ns_at hm fun o ho => S _ _ hL ho⟩, ⟨F.LM, hL⟩, F.Lδ, F.L0, fun x hx => ?_, F.cinj, F.oinj⟩
  · cases F.slots i x lv hx hl with
    | unset => exact .unset
    | v r q => exact .v (reach _ _ r) (q.ext M S).unmark
    | own r e1 m d' n q =>
      have hne : oa i ≠ I := fun z => by rw [z, e] at e1; cases e1; exact nl _ _ rfl
      exact .own (reach _ _ r) (S _ _ hne e1) ⟨m, hne⟩ d' n (q.ext M S).unmark
    | dct r e1 m d' n z l q => exact .dct (reach _ _ r) (S _ _ (q.ne e1 e (plain_nd d)) e1) ⟨m, q.ne e1 e (plain_nd d)⟩ d' n z l (q.ext M S).unmark
  · rcases F.kinds x hx with k | ⟨k, a, v, l, ce, Ma, da, na⟩
    · exact .inl k
    · exact .inr ⟨k, a, v, l, cell_at ce fun o ho => S _ _ (cell_ne_plain ce e d) ho, ⟨Ma, cell_ne_plain ce e d⟩, da, na⟩
end

section
variable {c : Cn} {nm : Nm} {n : Nat} {loc loc₁ loc₂ : List LV} {st st₁ st₂ st₃ : List Inst} {fl : Fl}
/-- for -/
inductive FEv (c : Cn) (nm : Nm) (n : Nat) (i : Nat) (body : List S) : List V → List LV → List Inst → Fl → List LV → List Inst → Prop where
  | nil {loc : List LV} {st : List Inst} : FEv c nm n i body [] loc st .next loc st
  | cons {x : V} {xs : List V} {loc loc₁ loc₂ : List LV} {st st₁ st₂ : List Inst} {fl : Fl} : SS c nm n body (loc.set i (.v x)) st .next loc₁ st₁ → FEv c nm n i body xs loc₁ st₁ fl loc₂ st₂ → FEv c nm n i body (x :: xs) loc st fl loc₂ st₂
  | ret {x : V} {xs : List V} {loc loc₁ : List LV} {st st₁ : List Inst} {v : V} : SS c nm n body (loc.set i (.v x)) st (.ret v) loc₁ st₁ → FEv c nm n i body (x :: xs) loc st (.ret v) loc₁ st₁
theorem py_folded (e : E) (env : Env) (x : Value) : foldedSetIterable e.py env x = pure x := by cases e <;> rfl
theorem fields_plain {o : Obj} {vs : Array Value} (d : o.data = .fields vs) : plainD o = true := by unfold plainD; rw [d]
theorem sx_for {i : Nat} {x : Str} {q p : Ps} {it : E} {body : List S} {xs : List V} (hx : nm.ns[i]? = some x) (hi : SI c nm n it loc st xs st₁) (h : FEv c nm n i body xs loc st₁ fl loc₂ st₂) : SX c nm n (.For (.Name x q) it.py (Ss.py body) [] p) loc st fl loc₂ st₂ := fun A env g₀ h₀ oa g s Q Ex r G W F P => by
  refine wpAny_For (hi A env g s _ Ex r F.eo W F.le fun I hS tS gS fp P' Stt GS WS nI ok => ?_) (py_folded it env)
  have FS := F.gro W GS
  have nI0 := G.none nI
  refine codeAny_forLoop (fun k s' => ∃ j loc st h' tk' g' oa', s' = { s with heap := h', toks := tk' } ∧ j ≤ xs.length ∧ k = xs.length + 1 - j ∧ FEv c nm n i body (xs.drop j) loc st fl loc₂ st₂ ∧ Gro g₀ h₀ g' h' ∧ Wd c g' st h' ∧ Fs c nm env h₀ oa' g' h' loc ∧ Stt j h' ∧ g'.M I ∧ I ∉ g'.δ ∧ gS.ρ <+: g'.ρ ∧
    (∀ b o, hS.get? b = some o → ¬ gS.M b → h'.get? b = some o ∧ ¬ g'.M b)) (fun k s' I' => ?_) (xs.length + 1) ⟨0, loc, st₁, hS, tS, gS, oa, rfl, Nat.zero_le _, rfl, h, G.trans GS, WS, FS, ok.st, ok.M, ok.dδ, List.prefix_refl _, fun b o e m => ⟨e, m⟩⟩ (fun _ => rfl)
  obtain ⟨j, loc, st, h', tk', g', oa', rfl, hj, rfl, ev, G', W', F', S', M', d', ρ', im⟩ := I'
  obtain ⟨oI, vI, eI, dI⟩ := ok.dat _ _ S'
  have pI := fields_plain dI
  have nl : ∀ ys n, oI.data ≠ .seq ys n := fun ys n q => by rw [dI] at q; cases q
  by_cases hlt : j < xs.length
  · refine ok.W.item j _ _ _ hlt S' fun v h₁ t₁ hv S₁ k₁ => ?_
    have X₁ : Heap.ExtBut I h' h₁ := fun b o nb e => k₁ b o (by simpa using nb) e
    obtain ⟨o₁, v₁, e₁, d₁⟩ := ok.dat _ _ S₁
    have W₁ := W'.ext M' d' X₁ ⟨_, e₁⟩
    have F₁ := F'.iter eI pI nl M' X₁
    have G₁ := G'.ext nI0 X₁
    obtain ⟨y, hy, R⟩ := ok.val j v hlt hv
    have im₁ : ∀ b o, hS.get? b = some o → ¬ gS.M b → h₁.get? b = some o ∧ ¬ g'.M b := fun b o e m => ⟨X₁ b o (fun q => (im b o e m).2 (q ▸ M')) (im b o e m).1, (im b o e m).2⟩
    have R₁ := R.mono ρ' im₁
    have hdrop : xs.drop j = y :: xs.drop (j + 1) := by
      rw [List.drop_eq_getElem_cons hlt]
      rw [List.getElem?_eq_getElem hlt] at hy; cases hy; rfl
    rw [hdrop] at ev
    refine wpAny_assign_Name (F₁.storeU (s := { s with heap := h₁, toks := t₁ }) W₁ G₁ hx fun h₂ t₂ G₂ W₂ F₂ rc kf ki _ => ?_)
    have R₂ := R₁.mono (g' := g') (h' := h₂) (List.prefix_refl _) fun b o e m => ⟨ki b o e m, m⟩
    have F₃ := F₂.slot (a := oa' i) hx (.v rc R₂) (fun q => by cases q)
    have e1 : lput i (oa' i) oa' = oa' := by funext z; unfold lput; split <;> simp_all
    rw [e1, List.set_set] at F₃
    have e₂ := kf _ _ e₁ (fields_plain d₁)
    have n0 := fun b (hb : b ∈ fmut env nm.ns oa' (loc.set i (.v y))) => F₃.fmut0 hb
    have im₂ : ∀ b o, hS.get? b = some o → ¬ gS.M b → h₂.get? b = some o ∧ ¬ g'.M b := fun b o e m => ⟨ki b o (im₁ b o e m).1 (im₁ b o e m).2, (im₁ b o e m).2⟩
    have S₂ : Stt (j + 1) h₂ := ok.W.frame _ _ _ S₁ fun b hb o e => by
      by_cases q : b = I
      · subst q; rw [e₁] at e; cases e; exact e₂
      · obtain ⟨nm', o', e'⟩ := ok.fp b hb q
        have := (im₁ b o' e' nm').1
        rw [e] at this; cases this
        exact (im₂ b o e' nm').1
    have notin : I ∉ fmut env nm.ns oa' (loc.set i (.v y)) := by
      intro hb
      rcases List.mem_append.mp hb with hb | hb
      · rcases List.mem_cons.mp hb with rfl | hb
        · obtain ⟨m, hm⟩ := F₃.ns; exact ns_ne_plain hm e₂ (fields_plain d₁) rfl
        · obtain ⟨z, hz, ez⟩ := List.mem_filterMap.mp hb
          split at ez
          · rename_i kc
            rcases F₃.kinds z hz with k | ⟨k, a, v, l, ce, Ma, da, na⟩
            · rw [kc] at k; cases k
            · rw [ez] at l; cases l; exact cell_ne_plain ce e₂ (fields_plain d₁) rfl
          · cases ez
      · obtain ⟨z, hz, ez⟩ := List.mem_filterMap.mp hb
        split at ez
        · rename_i ys hl
          cases ez
          have hl' : (loc.set i (.v y))[z]? = some (.own ys) := hl
          have hz' : z < nm.ns.length := by rw [← F₃.len]; exact List.mem_range.mp hz
          cases F₃.slots z _ _ (List.getElem?_eq_getElem hz') hl' with
          | own r e3 m d n q => rw [e₂] at e3; cases e3; cases d₁
        · rename_i f k hl
          cases ez
          have hl' : (loc.set i (.v y))[z]? = some (.dct f k) := hl
          have hz' : z < nm.ns.length := by rw [← F₃.len]; exact List.mem_range.mp hz
          cases F₃.slots z _ _ (List.getElem?_eq_getElem hz') hl' with
          | dct r e3 m d n z l q => exact q.ne e3 e₂ (plain_nd (fields_plain d₁)) rfl
        · cases ez
    have after : ∀ (f : Flow) (h₃ : Heap) (t₃ : Nat) (g₃ : Gh) (oa₃ : Nat → Addr) (loc₃ : List LV) (st₃ : List Inst), Gro g' (hideAll h₂ (fmut env nm.ns oa' (loc.set i (.v y)))) g₃ h₃ → Wd c g₃ st₃ h₃ → Fs c nm env (hideAll h₂ (fmut env nm.ns oa' (loc.set i (.v y)))) oa₃ g₃ h₃ loc₃ →
        Gro g₀ h₀ g₃ h₃ ∧ Fs c nm env h₀ oa₃ g₃ h₃ loc₃ ∧ Stt (j + 1) h₃ ∧ g₃.M I ∧ I ∉ g₃.δ ∧ gS.ρ <+: g₃.ρ ∧ (∀ b o, hS.get? b = some o → ¬ gS.M b → h₃.get? b = some o ∧ ¬ g₃.M b) := by
      intro f h₃ t₃ g₃ oa₃ loc₃ st₃ G₃ W₃ F₄
      have eI₃ := hideAll_get _ e₂ notin
      have im₃ : ∀ b o, hS.get? b = some o → ¬ gS.M b → h₃.get? b = some o ∧ ¬ g₃.M b := fun b o e m => by
        obtain ⟨a1, a2⟩ := im₂ b o e m
        have hin : (hideAll h₂ (fmut env nm.ns oa' (loc.set i (.v y)))).get? b = some o := hideAll_get _ a1 fun q => a2 (by
          rcases List.mem_append.mp q with q | q
          · rcases List.mem_cons.mp q with rfl | q
            · exact F₃.LM
            · obtain ⟨z, hz, ez⟩ := List.mem_filterMap.mp q
              split at ez
              · rename_i kc
                rcases F₃.kinds z hz with k | ⟨k, a, v, l, ce, Ma, da, na⟩
                · rw [kc] at k; cases k
                · rw [ez] at l; cases l; exact Ma
              · cases ez
          · obtain ⟨z, hz, ez⟩ := List.mem_filterMap.mp q
            split at ez
            · rename_i ys hl
              cases ez
              have hl' : (loc.set i (.v y))[z]? = some (.own ys) := hl
              have hz' : z < nm.ns.length := by rw [← F₃.len]; exact List.mem_range.mp hz
              cases F₃.slots z _ _ (List.getElem?_eq_getElem hz') hl' with
              | own r e3 m d n q => exact m
            · rename_i f k hl
              cases ez
              have hl' : (loc.set i (.v y))[z]? = some (.dct f k) := hl
              have hz' : z < nm.ns.length := by rw [← F₃.len]; exact List.mem_range.mp hz
              cases F₃.slots z _ _ (List.getElem?_eq_getElem hz') hl' with
              | dct r e3 m d n z l q => exact m
            · cases ez)
        exact ⟨G₃.keep b o hin fun q => a2 (W₂.Mδ b q), fun q => a2 ((G₃.M b o hin).mp q)⟩
      refine ⟨G₂.back n0 G₃, F₃.back G₂ n0 F₄, ok.W.frame _ _ _ S₂ fun b hb o e => ?_, (G₃.M _ _ eI₃).mpr M', fun q => d' (G₃.new _ _ eI₃ q), ρ'.trans G₃.ρ, im₃⟩
      by_cases q : b = I
      · subst q
        rw [e₂] at e; cases e
        exact G₃.keep _ _ eI₃ d'
      · obtain ⟨nm', o', e'⟩ := ok.fp b hb q
        have := (im₂ b o' e' nm').1
        rw [e] at this; cases this
        exact (im₃ b o e' nm').1
    cases ev with
    | cons hb ev =>
      refine hb _ env g' _ oa' g' { s with heap := h₂, toks := t₂ } _ _ r (Gro.hide g' h₂ _) W₂ F₃.rebase fun f h₃ t₃ g₃ oa₃ G₃ W₃ F₄ fr => ?_
      obtain ⟨a1, a2, a3, a4, a5, a6, a7⟩ := after f h₃ t₃ g₃ oa₃ _ _ G₃ W₃ F₄
      cases fr with
      | next => exact ⟨xs.length + 1 - (j + 1), by omega, j + 1, _, _, h₃, t₃, g₃, oa₃, rfl, hlt, rfl, ev, a1, W₃, a2, a3, a4, a5, a6, a7⟩
    | ret hb =>
      refine hb _ env g' _ oa' g' { s with heap := h₂, toks := t₂ } _ _ r (Gro.hide g' h₂ _) W₂ F₃.rebase fun f h₃ t₃ g₃ oa₃ G₃ W₃ F₄ fr => ?_
      obtain ⟨a1, a2, a3, a4, a5, a6, a7⟩ := after f h₃ t₃ g₃ oa₃ _ _ G₃ W₃ F₄
      cases fr with
      | ret Rv =>
        obtain ⟨o3, v3, e3, d3⟩ := ok.dat _ _ a3
        exact P _ h₃ t₃ (g₃.sub I) oa₃ (a1.unmark nI0) (W₃.unmark a5) (a2.unmark e3 (fields_plain d3) fun ys n q => by rw [d3] at q; cases q) (.ret Rv.unmark)
  · have hjl : j = xs.length := by omega
    subst hjl
    rw [List.drop_length] at ev
    cases ev
    refine ok.W.done _ _ _ S' fun h₁ t₁ k₁ => ?_
    have X₁ : Heap.ExtBut I h' h₁ := fun b o nb e => k₁ b o (by simpa using nb) e
    exact wpAny_execs_nil (P .next h₁ t₁ (g'.sub I) oa' ((G'.ext nI0 X₁).unmark nI0) (W'.extD M' d' X₁) (F'.extD eI pI nl M' X₁) .next)
end
end Mine

namespace Mine
open PySem PySem.W PySem.Calls PyProof.Rows

def closOf (env : Env) : List (Str × NameKind) → List (Str × Addr) → List (Str × Addr)
  | [], cs => cs
  | (n, k) :: r, cs => closOf env r (if k == .free then (match env.cells.lookup n with | some a => (n, a) :: cs | none => cs) else cs)
theorem closureFor_of {env : Env} {sc : Scope} (h : ∀ y ∈ sc.names, y.2 = .free → (env.cells.lookup y.1).isSome = true) : closureFor sc env = pure (closOf env sc.names []) := by
  have go : ∀ (l : List (Str × NameKind)) (cs : List (Str × Addr)), (∀ y ∈ l, y.2 = .free → (env.cells.lookup y.1).isSome = true) →
      (forIn l cs fun (x : Str × NameKind) (r : List (Str × Addr)) => (if (x.2 == NameKind.free) = true then do let c ← cellOf env x.1; pure (ForInStep.yield ((x.1, c) :: r)) else pure (ForInStep.yield r) : Sem (ForInStep (List (Str × Addr))))) = pure (closOf env l cs) := by
    intro l
    induction l with
    | nil => intro cs _; rfl
    | cons y l ih =>
      intro cs hl
      rw [List.forIn_cons]
      obtain ⟨n, k⟩ := y
      by_cases hk : (k == NameKind.free) = true
      · have hs := hl (n, k) (.head _) (by simpa using hk)
        obtain ⟨a, ha⟩ := Option.isSome_iff_exists.mp hs
        have hc : cellOf env n = pure a := by unfold cellOf; dsimp only at ha; rw [ha]
        simp only [hk, if_true, hc, pure_bind]
        rw [ih _ fun y hy => hl y (.tail _ hy)]
        show _ = pure (closOf env l (if (k == NameKind.free) = true then (match env.cells.lookup n with | some a => (n, a) :: cs | none => cs) else cs))
        rw [if_pos hk, ha]
      · simp only [hk, if_false, pure_bind, Bool.false_eq_true]
        rw [ih _ fun y hy => hl y (.tail _ hy)]
        rw [closOf, if_neg hk]
  unfold closureFor
  have := go sc.names [] h
  simpa using this
theorem closOf_lookup {env : Env} {x : Str} {a : Addr} (ha : env.cells.lookup x = some a) : ∀ (l : List (Str × NameKind)) (cs : List (Str × Addr)), ((x, NameKind.free) ∈ l ∨ cs.lookup x = some a) → (cs.lookup x = none ∨ cs.lookup x = some a) → (closOf env l cs).lookup x = some a
  | [], cs, h, _ => h.elim (fun q => nomatch q) id
  | (n, k) :: l, cs, h, h2 => by
    unfold closOf
    by_cases hk : (k == NameKind.free) = true
    · rw [if_pos hk]
      by_cases hn : x = n
      · subst hn
        rw [ha]
        have e1 : ((x, a) :: cs).lookup x = some a := by simp
        exact closOf_lookup ha l _ (.inr e1) (.inr e1)
      · have keep : ∀ cs', (cs' = cs ∨ ∃ b, cs' = (n, b) :: cs) → cs'.lookup x = cs.lookup x := by
          rintro cs' (rfl | ⟨b, rfl⟩)
          · rfl
          · have hb : (x == n) = false := by simpa using hn
            rw [List.lookup_cons, hb]
        have hcs : ∃ cs', (match env.cells.lookup n with | some a => (n, a) :: cs | none => cs) = cs' ∧ (cs' = cs ∨ ∃ b, cs' = (n, b) :: cs) := by
          cases env.cells.lookup n with
          | none => exact ⟨_, rfl, .inl rfl⟩
          | some b => exact ⟨_, rfl, .inr ⟨b, rfl⟩⟩
        obtain ⟨cs', e, q⟩ := hcs
        rw [e]
        refine closOf_lookup ha l cs' ?_ ?_
        · rcases h with h | h
          · rcases List.mem_cons.mp h with h | h
            · cases h; exact absurd rfl hn
            · exact .inl h
          · exact .inr ((keep cs' q).trans h)
        · rw [keep cs' q]; exact h2
    · rw [if_neg hk]
      refine closOf_lookup ha l cs ?_ h2
      rcases h with h | h
      · rcases List.mem_cons.mp h with h | h
        · cases h; exact absurd rfl hk
        · exact .inl h
      · exact .inr h

/-- a comprehension's own block -/
structure CompOk (nm nm' : Nm) (sc : Scope) (x : Str) (caps : List Nat) (cn : List Str) : Prop where
  kind : sc.kind = .function
  hx : sc.names.lookup x = some .local
  nocell : ∀ y ∈ sc.names, y.2 ≠ .cell
  locs : ∀ y ∈ sc.names, y.2 = .local → sc.names.lookup y.1 = some .local
  frees : ∀ y ∈ sc.names, y.2 = .free → y.1 ∈ cn
  caps : caps.map (fun j => nm.ns[j]?) = cn.map some
  cells : ∀ y ∈ cn, y ∈ nm.cs
  isfree : ∀ y ∈ cn, sc.names.lookup y = some .free
  ns : nm'.ns = x :: cn
  gs : ∀ y ∈ nm'.gs, sc.names.lookup y = some .globalImplicit
  cs : nm'.cs = []
  ls : nm'.ls = []
theorem lookup_mem {x : Str} {k : NameKind} : ∀ {l : List (Str × NameKind)}, l.lookup x = some k → (x, k) ∈ l
  | [], h => by cases h
  | (n, k') :: l, h => by
    rw [List.lookup_cons] at h
    split at h
    · rename_i q; cases h; rw [eq_of_beq q]; exact .head _
    · exact .tail _ (lookup_mem h)
theorem relabel_other {sc : Scope} {env : Env} {x : Str} {k : NameKind} (hk : k ≠ .free) (h : sc.names.lookup x = some k) : (relabel sc env).names.lookup x = some k := by
  unfold relabel
  dsimp only
  generalize sc.names = l at h ⊢
  induction l with
  | nil => cases h
  | cons y l ih =>
    obtain ⟨n, k'⟩ := y
    rw [List.lookup_cons] at h
    rw [List.map_cons]
    dsimp only
    split at h
    · rename_i q
      cases h
      rw [if_neg (by simp [hk]), List.lookup_cons, q]
    · rename_i q
      by_cases hc : (k' == NameKind.free && env.scope.kind == .function && env.kindOf n == some .cell) = true
      · rw [if_pos hc, List.lookup_cons, q]; exact ih h
      · rw [if_neg hc, List.lookup_cons, q]; exact ih h
theorem relabel_free {sc : Scope} {env : Env} {x : Str} (hk : env.scope.kind = .function) (hc : env.kindOf x = some .cell) (h : sc.names.lookup x = some .free) : (relabel sc env).names.lookup x = some .cell := by
  unfold relabel
  dsimp only
  generalize sc.names = l at h ⊢
  induction l with
  | nil => cases h
  | cons y l ih =>
    obtain ⟨n, k'⟩ := y
    rw [List.lookup_cons] at h
    rw [List.map_cons]
    dsimp only
    split at h
    · rename_i q
      cases h
      have : x = n := eq_of_beq q
      subst this
      rw [if_pos (by rw [hk, hc]; rfl), List.lookup_cons, q]
    · rename_i q
      by_cases hc : (k' == NameKind.free && env.scope.kind == .function && env.kindOf n == some .cell) = true
      · rw [if_pos hc, List.lookup_cons, q]; exact ih h
      · rw [if_neg hc, List.lookup_cons, q]; exact ih h

inductive CEv (c : Cn) (nm : Nm) (n : Nat) (elt : E) (cv : List LV) : List V → List Inst → List V → List Inst → Prop where
  | nil {st : List Inst} : CEv c nm n elt cv [] st [] st
  | cons {x y : V} {xs ys : List V} {st st₁ st₂ : List Inst} : SE c nm n elt (.v x :: cv) st y st₁ → CEv c nm n elt cv xs st₁ ys st₂ → CEv c nm n elt cv (x :: xs) st (y :: ys) st₂
theorem CEv.len {c : Cn} {nm : Nm} {n : Nat} {elt : E} {cv : List LV} {xs ys : List V} {st st' : List Inst} (h : CEv c nm n elt cv xs st ys st') : ys.length = xs.length := by
  induction h with
  | nil => rfl
  | cons _ _ ih => rw [List.length_cons, List.length_cons, ih]
def capV (loc : List LV) (caps : List Nat) : List LV := caps.map fun j => (loc[j]?).getD .unset

section
variable {c : Cn} {nm nm' : Nm} {n : Nat} {loc loc₁ loc₂ : List LV} {st st₁ st₂ st₃ : List Inst} {fl : Fl}
/-- the names of the block's own -/
theorem le_comp {env : Env} {g g' : Gh} {h h' : Heap} {sc : Scope} {x : Str} {caps : List Nat} {cn : List Str} {C : Addr} {m : Str → Option Value} {y : V} {w : Value} (ok : CompOk nm nm' sc x caps cn) (eo : EnvOk nm env) (W : Wd c g st h) (L : Le c env nm.ns g h loc) (hcap : ∀ j ∈ caps, ∃ v, loc[j]? = some (.v v)) (G : Gro g h g' h') (hC : h'.Ns C m) (dC : C ∉ g'.δ) (hm : m x = some w) (R : RV c g' h' y w) :
    Le c (compEnvC sc (closOf env sc.names []) C env) nm'.ns g' h' (.v y :: capV loc caps) := by
  intro i z lv hz hl
  rw [ok.ns] at hz
  cases i with
  | zero =>
    cases hz; cases hl
    exact .v (.loc m (relabel_other (by decide) ok.hx) hC dC hm) R
  | succ i =>
    have hz' : cn[i]? = some z := hz
    have hl' : (capV loc caps)[i]? = some lv := hl
    unfold capV at hl'
    rw [List.getElem?_map] at hl'
    obtain ⟨j, hj, rfl⟩ := Option.map_eq_some_iff.mp hl'
    have hjn : nm.ns[j]? = some z := by
      have e := congrArg (fun l => l[i]?) ok.caps
      try dsimp only at e
      rw [List.getElem?_map, List.getElem?_map, hj, hz'] at e
      simpa using e
    obtain ⟨v, hv⟩ := hcap j (List.mem_of_getElem? hj)
    rw [hv]
    have zc := ok.cells z (List.mem_of_getElem? hz')
    cases L j z _ hjn hv with
    | v r q =>
      have r' := r.gro G
      cases r' with
      | loc m2 k2 n2 d2 e2 => have := eo.cs z zc; rw [k2] at this; cases this
      | cell b k2 l2 d2 e2 =>
        refine .v (.cell b (relabel_free eo.kind k2 (ok.isfree z (List.mem_of_getElem? hz'))) ?_ d2 e2) (q.gro W G)
        exact closOf_lookup l2 _ _ (.inl (lookup_mem (ok.isfree z (List.mem_of_getElem? hz')))) (.inl rfl)
theorem clos_ok {env : Env} {g : Gh} {h : Heap} {sc : Scope} {x : Str} {caps : List Nat} {cn : List Str} (ok : CompOk nm nm' sc x caps cn) (eo : EnvOk nm env) (L : Le c env nm.ns g h loc) (hcap : ∀ j ∈ caps, ∃ v, loc[j]? = some (.v v)) : closureFor sc env = pure (closOf env sc.names []) := by
  refine closureFor_of fun y hy hf => ?_
  obtain ⟨i, hi⟩ := List.getElem?_of_mem (ok.frees y hy hf)
  have e := congrArg (fun l => l[i]?) ok.caps
  try dsimp only at e
  rw [List.getElem?_map, List.getElem?_map, hi] at e
  obtain ⟨j, hj, hjn⟩ := Option.map_eq_some_iff.mp e
  obtain ⟨v, hv⟩ := hcap j (List.mem_of_getElem? hj)
  cases L j _ _ hjn hv with
  | v r q =>
    cases r with
    | loc m2 k2 n2 d2 e2 => have := eo.cs _ (ok.cells _ (ok.frees y hy hf)); rw [k2] at this; cases this
    | cell b k2 l2 d2 e2 => rw [l2]; rfl

/-- the block's run; what stands behind it is told by K -/
theorem comp_core {elt it : E} {sc : Scope} {x : Str} {q p : Ps} {caps : List Nat} {cn : List Str} {A : Around} {env : Env} {g gS : Gh} {s : Shared} {hS : Heap} {tS : Nat} {I : Addr} {fp : List Addr} {P' : Nat → Value → Prop} {Stt : Nat → Heap → Prop} {xs ys : List V} {Ex : Value → Shared → Prop}
    {RR : Value → Addr → Result → Shared → Prop}
    (ok : CompOk nm nm' sc x caps cn) (r : Room n A) (eo : EnvOk nm env) (W : Wd c g st s.heap) (L : Le c env nm.ns g s.heap loc) (hcap : ∀ j ∈ caps, ∃ v, loc[j]? = some (.v v)) (GS : Gro g s.heap gS hS) (WS : Wd c gS st₁ hS) (nI : s.heap.get? I = none) (iok : ItOk c A gS hS I xs fp P' Stt)
    (ev : CEv c nm' n elt (capV loc caps) xs st₁ ys st₂)
    (K : ∀ D C h' tk' g' m', Gro g s.heap g' h' → Wd c g' st₂ h' → RV c g' h' (.list ys) (.ref D) → h'.Ns C m' → g'.M C → C ∉ g'.δ → s.heap.get? C = none → D ≠ C → RR (.ref D) C (.ok .next) { s with heap := h', toks := tk' }) :
    wpAny c.M A (newList []) (fun acc s₃ => wpAny c.M A (newFunctionEnv sc env.globals (closOf env sc.names []) [] env.qual none .none (some env)) (fun cenv s₄ =>
      codeAny c.M A (.compStart (.ListComp elt.py [⟨.Name x q, it.py, [], 0⟩] sc p) 0 (.ref I) acc { cenv with scope := relabel sc env }) (RR acc cenv.locals) s₄) Ex s₃) Ex { s with heap := hS, toks := tS } := by
  have hD0 := get_size hS
  refine wpAny_newObj_type ?_ (by show ([] : List Value).toArray.size ≤ sizeLine; decide)
  have hDn := Heap.get?_push_size hS (o := { cls := .type "list", data := .seq ([] : List Value).toArray }) rfl
  generalize hH : hS.push { cls := .type "list", dict := none, data := .seq ([] : List Value).toArray } = H at hDn
  have kH : ∀ b o, hS.get? b = some o → H.get? b = some o := fun b o e => hH ▸ Heap.get?_push_of_some _ e
  refine wpAny_newFunctionEnv ok.nocell (fun y hy => nomatch hy) (fun h₁ hns hsb => ?_) ok.kind
  dsimp only at hns hsb ⊢
  have hC0 := get_size H
  have k1 : ∀ b o, H.get? b = some o → h₁.get? b = some o := fun b o e => hsb.extBut b o (Nat.ne_of_lt (Heap.lt_size e)) (Heap.get?_push_of_some _ e)
  have hDC : hS.objs.size ≠ H.objs.size := fun e => by rw [e, hC0] at hDn; cases hDn
  have hC0S : hS.get? H.objs.size = none := by
    cases e : hS.get? H.objs.size with
    | none => rfl
    | some o => rw [kH _ _ e] at hC0; cases hC0
  -- the marks
  have G₁ : Gro gS hS ((gS.add hS.objs.size).add H.objs.size) h₁ := (Gro.mark gS hD0 kH).trans (Gro.mark _ hC0 k1)
  have W₁ : Wd c ((gS.add hS.objs.size).add H.objs.size) st₁ h₁ := (WS.mark hD0 kH ⟨_, hDn⟩).mark hC0 k1 (let ⟨o, _, _, e, _⟩ := hns; ⟨o, e⟩)
  obtain ⟨oI, vI, eI, dI⟩ := iok.dat _ _ iok.st
  have hID : I ≠ hS.objs.size := Nat.ne_of_lt (Heap.lt_size eI)
  have hIC : I ≠ H.objs.size := fun e => by rw [e, hC0S] at eI; cases eI
  have nδ : ∀ a, hS.get? a = none → a ∉ gS.δ := fun a ha q => by obtain ⟨o, e⟩ := WS.Mdom _ (WS.Mδ _ q); rw [ha] at e; cases e
  have n0 : ∀ a, hS.get? a = none → s.heap.get? a = none := fun a ha => GS.none ha
  have loop : codeAny c.M A (.compLoop (.ListComp elt.py [⟨.Name x q, it.py, [], 0⟩] sc p) 0 (.ref I) (.ref hS.objs.size) (compEnvC sc (closOf env sc.names []) H.objs.size env)) (RR (.ref hS.objs.size) H.objs.size) { s with heap := h₁, toks := tS } := by
    refine codeAny_compLoop_tests (fun k s' => ∃ j st ws h' tk' g' m', s' = { s with heap := h', toks := tk' } ∧ j ≤ xs.length ∧ k = xs.length + 1 - j ∧ CEv c nm' n elt (capV loc caps) (xs.drop j) st (ys.drop j) st₂ ∧ Gro g s.heap g' h' ∧ Wd c g' st h' ∧ Stt j h' ∧ g'.M I ∧ I ∉ g'.δ ∧ g'.M hS.objs.size ∧ hS.objs.size ∉ g'.δ ∧ g'.M H.objs.size ∧ H.objs.size ∉ g'.δ ∧
      h'.Ns H.objs.size m' ∧ h'.PlainList hS.objs.size (List.toArray ws) ∧ RVs c g' h' (ys.take j) ws ∧ gS.ρ <+: g'.ρ ∧ (∀ b o, hS.get? b = some o → ¬ gS.M b → h'.get? b = some o ∧ ¬ g'.M b)) (fun k s' I' => ?_) (xs.length + 1)
      ⟨0, st₁, [], h₁, tS, _, _, rfl, Nat.zero_le _, rfl, ev, GS.trans G₁, W₁, ?_, .inl (.inl iok.M), iok.dδ, .inl (.inr rfl), nδ _ hD0, .inr rfl, nδ _ hC0S, hns, ⟨_, k1 _ _ hDn⟩, .nil, List.prefix_refl _, fun b o e m => ⟨k1 _ _ (kH _ _ e), fun q => ?_⟩⟩ (fun _ => rfl)
    · obtain ⟨j, st, ws, h', tk', g', m', rfl, hj, rfl, ev, G', W', S', MI, dI', MD, dD, MC, dC, hns', hpl, RW, ρ', im⟩ := I'
      obtain ⟨oI, vI, eI, dI⟩ := iok.dat _ _ S'
      have hyl := ev.len
      rw [List.length_drop, List.length_drop] at hyl
      by_cases hlt : j < xs.length
      · refine iok.W.item j _ _ _ hlt S' fun v h₂ t₂ hv S₂ k₂ => ?_
        have X₂ : Heap.ExtBut I h' h₂ := fun b o nb e => k₂ b o (by simpa using nb) e
        obtain ⟨o₂, v₂, e₂, d₂⟩ := iok.dat _ _ S₂
        have W₂ := W'.ext MI dI' X₂ ⟨_, e₂⟩
        have G₂ := G'.ext nI X₂
        obtain ⟨y, hy, R⟩ := iok.val j v hlt hv
        have hdrop : xs.drop j = y :: xs.drop (j + 1) := by
          rw [List.drop_eq_getElem_cons hlt]
          rw [List.getElem?_eq_getElem hlt] at hy; cases hy; rfl
        rw [hdrop] at ev
        have hnsC := ns_at hns' fun o ho => X₂ _ o (Ne.symm hIC) ho
        refine wpAny_assign_Name (wpAny_storeName_local (env := compEnvC sc (closOf env sc.names []) H.objs.size env) (s := { s with heap := h₂, toks := t₂ }) (relabel_other (by decide) ok.hx) hnsC (fun h₃ hn₃ S₃ => ?_) (by rw [show (compEnvC sc (closOf env sc.names []) H.objs.size env).scope.kind = .function from ok.kind]; rfl))
        have X₃ := S₃.extBut
        have W₃ := W₂.ext MC dC X₃ (let ⟨o, _, _, e, _⟩ := hn₃; ⟨o, e⟩)
        have G₃ := G₂.ext (n0 _ hC0S) X₃
        have im₃ : ∀ b o, hS.get? b = some o → ¬ gS.M b → h₃.get? b = some o ∧ ¬ g'.M b := fun b o e m => ⟨X₃ b o (fun z => (im b o e m).2 (z ▸ MC)) (X₂ b o (fun z => (im b o e m).2 (z ▸ MI)) (im b o e m).1), (im b o e m).2⟩
        have e₃ : h₃.get? I = some o₂ := X₃ _ _ hIC e₂
        have S₃' : Stt (j + 1) h₃ := iok.W.frame _ _ _ S₂ fun b hb o e => by
          by_cases z : b = I
          · subst z; rw [e₂] at e; cases e; exact e₃
          · obtain ⟨nb, o', e'⟩ := iok.fp b hb z
            have h1 := X₂ b o' z (im b o' e' nb).1
            rw [e] at h1; cases h1
            exact (im₃ b o e' nb).1
        refine wpAny_pure ?_
        rw [if_pos rfl]
        generalize hyd : ys.drop j = yd at ev
        cases ev with
        | cons he ev =>
          rename_i u us st'
          have Le' := le_comp (C := H.objs.size) ok eo W L hcap G₃ hn₃ dC (by simp) (R.mono ρ' im₃)
          have eo' : EnvOk nm' (compEnvC sc (closOf env sc.names []) H.objs.size env) := ⟨fun z hz => (by rw [ok.ls] at hz; cases hz), fun z hz => (by rw [ok.cs] at hz; cases hz), fun z hz => relabel_other (by decide) (ok.gs z hz), ok.kind, eo.gl, eo.bl⟩
          refine he A _ g' { s with heap := h₃, toks := t₂ + 1 } _ _ r eo' W₃ Le' fun w h₄ t₄ g₄ G₄ W₄ R₄ => ?_
          obtain ⟨kk, hpl⟩ := hpl
          have hp₃ : h₃.get? hS.objs.size = some { cls := .type "list", data := .seq ws.toArray kk } := X₃ _ _ hDC (X₂ _ _ (Ne.symm hID) hpl)
          have hp₄ := G₄.keep _ _ hp₃ dD
          have hwl : ws.length = j := by rw [RW.length, List.length_take]; omega
          refine wpAny_list_append_plain (s := { s with heap := h₄, toks := t₄ }) ⟨kk, hp₄⟩ (fun h₅ hp₅ S₅ => ?_) (by rw [List.size_toArray, hwl]; have := iok.size; exact Nat.le_trans (Nat.le_trans (Nat.le_of_lt hlt) this) (by decide))
          have X₅ := S₅.extBut
          have MD₄ := (G₄.M _ _ hp₃).mpr MD
          have dD₄ : hS.objs.size ∉ g₄.δ := fun z => dD (G₄.new _ _ hp₃ z)
          have MI₄ := (G₄.M _ _ e₃).mpr MI
          obtain ⟨oC, esC, epC, eC, rC⟩ := id hn₃
          have e1 : ws.toArray.push w = (ws ++ [w]).toArray := by simp
          rw [e1] at hp₅
          have hyt : ys.take (j + 1) = ys.take j ++ [u] := by
            have hj' : j < ys.length := by omega
            have : ys[j] = u := by
              have := congrArg List.head? hyd
              rw [List.head?_drop, List.getElem?_eq_getElem hj'] at this
              simpa using this
            rw [List.take_succ, List.getElem?_eq_getElem hj', this]; rfl
          have hyd' : ys.drop (j + 1) = us := by
            have := congrArg List.tail hyd
            rw [List.tail_drop] at this
            simpa using this
          have im₅ : ∀ b o, hS.get? b = some o → ¬ gS.M b → h₅.get? b = some o ∧ ¬ g₄.M b := fun b o e m => by
            obtain ⟨a1, a2⟩ := im₃ b o e m
            have b1 := G₄.keep b o a1 (fun z => a2 (W₃.Mδ b z))
            have b2 : ¬ g₄.M b := fun z => a2 ((G₄.M b o a1).mp z)
            exact ⟨X₅ b o (fun z => b2 (z ▸ MD₄)) b1, b2⟩
          have e₅ : h₅.get? I = some o₂ := X₅ _ _ hID (G₄.keep _ _ e₃ dI')
          have S₅' : Stt (j + 1) h₅ := iok.W.frame _ _ _ S₃' fun b hb o e => by
            by_cases z : b = I
            · subst z; rw [e₃] at e; cases e; exact e₅
            · obtain ⟨nb, o', e'⟩ := iok.fp b hb z
              have h1 := (im₃ b o' e' nb).1
              rw [e] at h1; cases h1
              exact (im₅ b o e' nb).1
          obtain ⟨k5, hp5⟩ := hp₅
          refine ⟨xs.length + 1 - (j + 1), by omega, j + 1, _, ws ++ [w], h₅, t₄, g₄, _, rfl, hlt, rfl, by rw [hyd']; exact ev, (G₃.trans G₄).ext (n0 _ hD0) X₅, W₄.ext MD₄ dD₄ X₅ ⟨_, hp5⟩, S₅', MI₄, fun z => dI' (G₄.new _ _ e₃ z), MD₄, dD₄, (G₄.M _ _ eC).mpr MC, fun z => dC (G₄.new _ _ eC z), ns_at (ns_at hn₃ fun o ho => G₄.keep _ _ ho dC) fun o ho => X₅ _ _ (Ne.symm hDC) ho, ⟨k5, hp5⟩, ?_, ρ'.trans G₄.ρ, im₅⟩
          rw [hyt]
          have RW₃ := (RW.ext MI X₂).ext MC X₃
          exact (((RW₃.gro W₃ G₄).append (.cons R₄ .nil))).ext MD₄ X₅
      · have hjl : j = xs.length := by omega
        refine iok.W.done _ _ _ (hjl ▸ S') fun h₂ t₂ k₂ => ?_
        have X₂ : Heap.ExtBut I h' h₂ := fun b o nb e => k₂ b o (by simpa using nb) e
        obtain ⟨kk, hpl⟩ := hpl
        have hp₂ : h₂.get? hS.objs.size = some { cls := .type "list", data := .seq ws.toArray kk } := X₂ _ _ (Ne.symm hID) hpl
        rw [hjl] at ev hyl RW
        rw [List.drop_length] at ev
        have hyn : ys.take xs.length = ys := List.take_of_length_le (by omega)
        rw [hyn] at RW
        generalize hyd : ys.drop xs.length = yd at ev
        cases ev
        have W₂ := (W'.extD MI dI' X₂).unmark (a := hS.objs.size) dD
        refine K _ _ h₂ t₂ ((g'.sub I).sub hS.objs.size) m' (((G'.ext nI X₂).unmark nI).unmark (n0 _ hD0)) W₂ ?_ (ns_at hns' fun o ho => X₂ _ _ (Ne.symm hIC) ho) ⟨⟨MC, Ne.symm hIC⟩, Ne.symm hDC⟩ dC (n0 _ hC0S) hDC
        exact .list hp₂ (fun z => z.2 rfl) ((RW.ext MI X₂).unmark.unmark)
    · refine iok.W.frame _ _ _ iok.st fun b _ o e => k1 _ _ (kH _ _ e)
    · rcases q with (q | q) | q
      · exact m q
      · rw [q, hD0] at e; cases e
      · rw [q, hC0S] at e; cases e
  exact codeAny_compStart_list loop (iok.W.self 0 _ _ _ (iok.W.frame _ _ _ iok.st fun b _ o e => k1 _ _ (kH _ _ e)) loop)
theorem sE_comp {elt it : E} {sc : Scope} {x : Str} {q p : Ps} {caps : List Nat} {cn : List Str} {xs ys : List V} (ok : CompOk nm nm' sc x caps cn) (hcap : ∀ j ∈ caps, ∃ v, loc[j]? = some (.v v)) (hi : SI c nm n it loc st xs st₁) (ev : CEv c nm' n elt (capV loc caps) xs st₁ ys st₂) :
    SE c nm n (.comp elt caps x q it sc p) loc st (.list ys) st₂ := fun A env g s Q Ex r eo W L P => by
  show wpAny _ _ (eval (.ListComp elt.py [⟨.Name x q, it.py, [], 0⟩] sc p) env) Q Ex s
  rw [eval_ListComp]
  refine wpAny_comprehension_free (use := none) rfl (py_folded it env) (clos_ok ok eo L hcap) ok.kind ok.locs (hi A env g s _ Ex r eo W L fun I hS tS gS fp P' Stt GS WS nI iok => ?_)
  refine comp_core (RR := fun acc C => compPost c.M A Ex none Q acc C) ok r eo W L hcap GS WS nI iok ev fun D C h' tk' g' m' G' W' R' hn MC dC nC hDC => ?_
  refine ⟨m', hn, fun h'' S => ?_⟩
  exact P _ h'' tk' (g'.sub C) ((G'.ext nC S.extBut).unmark nC) (W'.extD MC dC S.extBut) (R'.ext MC S.extBut).unmark
end
end Mine

namespace Mine
open PySem PySem.W PySem.Calls PyProof.Rows

section
variable {c : Cn} {nm nm' : Nm} {n : Nat} {loc loc₁ loc₂ : List LV} {st st₁ st₂ st₃ : List Inst} {fl : Fl}

theorem Fs.extC {env : Env} {h₀ h h' : Heap} {oa : Nat → Addr} {g : Gh} (F : Fs c nm env h₀ oa g h loc) {C : Addr} (hL : env.locals ≠ C) (hc : ∀ x a, x ∈ nm.ns → env.cells.lookup x = some a → env.kindOf x = some .cell → a ≠ C) (ho : ∀ i lv, loc[i]? = some lv → isOwn lv = true → oa i ≠ C) (M : g.M C) (S : Heap.ExtBut C h h') : Fs c nm env h₀ oa (g.sub C) h' loc := by
  obtain ⟨m, hm⟩ := F.ns
  have reach : ∀ z u, z ∈ nm.ns → Reach g env h z u → Reach (g.sub C) env h' z u := fun z u hz r => by
    cases r with
    | loc m2 k2 n2 d2 e2 => exact .loc m2 k2 (ns_at n2 fun o ho => S _ _ hL ho) d2 e2
    | cell b k2 l2 d2 e2 => exact .cell b k2 l2 d2 (cell_at e2 fun o ho => S _ _ (hc z b hz l2 k2) ho)
  refine ⟨F.eo, F.nd, F.len, fun i x lv hx hl => ?_, ⟨m, ns_at hm fun o ho => S _ _ hL ho⟩, ⟨F.LM, hL⟩, F.Lδ, F.L0, fun x hx => ?_, F.cinj, F.oinj⟩
  · cases F.slots i x lv hx hl with
    | unset => exact .unset
    | v r q => exact .v (reach _ _ (List.mem_of_getElem? hx) r) (q.ext M S).unmark
    | own r e1 m d' n q => exact .own (reach _ _ (List.mem_of_getElem? hx) r) (S _ _ (ho i _ hl rfl) e1) ⟨m, ho i _ hl rfl⟩ d' n (q.ext M S).unmark
    | dct r e1 m d' n z l q => exact .dct (reach _ _ (List.mem_of_getElem? hx) r) (S _ _ (ho i _ hl rfl) e1) ⟨m, ho i _ hl rfl⟩ d' n z l (q.ext M S).unmark
  · rcases F.kinds x hx with k | ⟨k, a, v, l, ce, Ma, da, na⟩
    · exact .inl k
    · exact .inr ⟨k, a, v, l, cell_at ce fun o ho => S _ _ (hc x a hx l k) ho, ⟨Ma, hc x a hx l k⟩, da, na⟩

/-- x = [e for ..], x a plain local -/
theorem sx_assignC {i : Nat} {y : Str} {py p' : Ps} {elt it : E} {sc : Scope} {x : Str} {q p : Ps} {caps : List Nat} {cn : List Str} {xs ys : List V} (hy : nm.ns[i]? = some y) (hl : y ∈ nm.ls) (hline : (py.line == p.line) = true) (hno : (sc.names.any fun (z : Str × NameKind) => z.1 == y && (z.2 == .local || z.2 == .cell)) = false)
    (ok : CompOk nm nm' sc x caps cn) (hcap : ∀ j ∈ caps, ∃ v, loc[j]? = some (.v v)) (hi : SI c nm n it loc st xs st₁) (ev : CEv c nm' n elt (capV loc caps) xs st₁ ys st₂) :
    SX c nm n (.Assign [.Name y py] (E.comp elt caps x q it sc p).py p') loc st .next (loc.set i (.v (.list ys))) st₂ := fun A env g₀ h₀ oa g s Q Ex r G W F P => by
  have hsw : swapsWith (.ListComp elt.py [⟨.Name x q, it.py, [], 0⟩] sc p) (some (.Name y py)) p'.line env = pure true := by
    show (pure (env.blockKind == .function && env.kindOf y == some .local && py.line == p.line && !(sc.names.any fun (n, k) => n == y && (k == .local || k == .cell))) : Sem Bool) = pure true
    rw [hline, F.eo.ls y hl, hno]
    unfold Env.blockKind
    rw [F.eo.kind]; rfl
  show wpAny _ _ (exec (.Assign [.Name y py] (.ListComp elt.py [⟨.Name x q, it.py, [], 0⟩] sc p) p') env) Q Ex s
  rw [exec_Assign_Name_used _ _ _ _ hsw]
  refine wpAny_bind (wpAny_standAt (wpAny_bind ?_))
  show wpAny _ A (do let _ ← comprehension (.ListComp elt.py [⟨.Name x q, it.py, [], 0⟩] sc p) sc env _ (newList []) false (eval it.py env) (some (assign (.Name y py) env))) _ _ s
  refine wpAny_bind (wpAny_mono (wpAny_comprehension_free (use := some (assign (.Name y py) env)) (Q := fun _ s' => Q .next s') rfl (py_folded it env) (clos_ok ok F.eo F.le hcap) ok.kind ok.locs
    (hi A env g s _ Ex r F.eo W F.le fun I hS tS gS fp P' Stt GS WS nI iok => ?_)) (fun _ s' hq => wpAny_pure (wpAny_pure hq)) fun _ _ e => e)
  refine comp_core (RR := fun acc C => compPost c.M A Ex (some (assign (.Name y py) env)) (fun _ s' => Q .next s') acc C) ok r F.eo W F.le hcap GS WS nI iok ev fun D C h' tk' g' m' G' W' R' hn MC dC nC hDC => ?_
  show wpAny _ A (assign (.Name y py) env (.ref D)) _ _ _
  have F' := F.gro W G'
  obtain ⟨mL, hmL⟩ := F.ns
  obtain ⟨oL, _, _, eL, _⟩ := hmL
  have hLC : env.locals ≠ C := fun z => by rw [z, nC] at eL; cases eL
  refine wpAny_assign_Name (F'.storeU (s := { s with heap := h', toks := tk' }) W' (G.trans G') hy fun h₂ t₂ G₂ W₂ F₂ rc kf ki sb => ?_)
  obtain ⟨b, S₂, hb⟩ := sb
  have cne : ∀ (z : Str) (a : Addr), z ∈ nm.ns → env.cells.lookup z = some a → env.kindOf z = some .cell → a ≠ C := fun z a hz hla hk e => by
    rcases F.kinds z hz with k | ⟨k, a', v, l, ce, Ma, da, na⟩
    · rw [hk] at k; cases k
    · rw [hla] at l; cases l
      obtain ⟨o, ho, _⟩ := ce
      rw [e, nC] at ho; cases ho
  have hbC : C ≠ b := by
    rcases hb with rfl | ⟨z, hz, hk, hla⟩
    · exact Ne.symm hLC
    · exact Ne.symm (cne z b hz hla hk)
  refine ⟨m', ns_at hn fun o ho => (S₂.2 _ hbC).trans ho, fun h₃ S₃ => ?_⟩
  have own : ∀ (j : Nat) (us : LV), (loc.set i .unset)[j]? = some us → isOwn us = true → oa j ≠ C := fun j us hj io e => by
    have hi : i < loc.length := by rw [F.len]; exact (List.getElem?_eq_some_iff.mp hy).1
    by_cases hji : j = i
    · subst hji; rw [List.getElem?_set_self hi] at hj; cases hj; cases io
    · rw [List.getElem?_set_ne (Ne.symm hji)] at hj
      have hjl : j < nm.ns.length := by rw [← F.len]; exact (List.getElem?_eq_some_iff.mp hj).1
      cases F.slots j _ _ (List.getElem?_eq_getElem hjl) hj with
      | own r1 e1 m1 d1 n1 q1 => rw [e, nC] at e1; cases e1
      | dct r1 e1 m1 d1 n1 z1 l1 q1 => rw [e, nC] at e1; cases e1
      | unset => cases io
      | v => cases io
  have F₃ := F₂.extC hLC cne own MC S₃.extBut
  have rc₃ : Reach (g'.sub C) env h₃ y (.ref D) := by
    cases rc with
    | loc m2 k2 n2 d2 e2 => exact .loc m2 k2 (ns_at n2 fun o ho => S₃.extBut _ _ hLC ho) d2 e2
    | cell b k2 l2 d2 e2 => have := F.eo.ls y hl; rw [k2] at this; cases this
  have R₃ : RV c (g'.sub C) h₃ (.list ys) (.ref D) := ((R'.mono (g' := g') (h' := h₂) (List.prefix_refl _) fun b o e m => ⟨ki b o e m, m⟩).ext MC S₃.extBut).unmark
  have F₄ := F₃.slot (a := oa i) hy (.v rc₃ R₃) (fun q => by cases q)
  have e1 : lput i (oa i) oa = oa := by funext z; unfold lput; split <;> simp_all
  rw [e1, List.set_set] at F₄
  exact P .next h₃ t₂ (g'.sub C) oa ((G₂.ext (G.none nC) S₃.extBut).unmark (G.none nC)) (W₂.extD MC dC S₃.extBut) F₄ .next
/-- x = [e for ..], x a cell -/
theorem sx_assignK {i : Nat} {x : Str} {q p : Ps} {e : E} {v : V} (hx : nm.ns[i]? = some x) (hc : x ∈ nm.cs) (he : SE c nm n e loc st v st₁) : SX c nm n (.Assign [.Name x q] e.py p) loc st .next (loc.set i (.v v)) st₁ := fun A env g₀ h₀ oa g s Q Ex r G W F P => by
  have hs : swapsWith e.py (some (.Name x q)) p.line env = pure false := by
    cases e <;> first | rfl | skip
    rename_i elt caps x' q' it sc p'
    show (pure (env.blockKind == .function && env.kindOf x == some .local && q.line == p'.line && !(sc.names.any fun (n, k) => n == x && (k == .local || k == .cell))) : Sem Bool) = pure false
    rw [F.eo.cs x hc]
    congr 1
    simp
  refine wpAny_Assign_Name (he A env g s _ Ex r F.eo W F.le fun w h₁ t₁ g₁ G₁ W₁ R₁ => ?_) hs
  exact (F.gro W G₁).store (s := { s with heap := h₁, toks := t₁ }) W₁ (G.trans G₁) hx R₁ fun h' tk' G' W' F' => P .next h' tk' g₁ oa G' W' F' .next
end

/-- a def whose scope bears cells -/
structure FnAtC (c : Cn) (a : Addr) (d : FnD) (nm : Nm) (np : Nat) (body : List S) : Prop where
  look : c.K.lookup a = some ⟨d.oc, d.od, .func d.fd, d.osl⟩
  code : codeIn c.K d.cdv d.qual = true
  hco : d.scope.isCoroutine = false
  hgen : d.scope.isGenerator = false
  hk : d.scope.kind = .function
  body : d.body = Ss.py body
  binds : ∀ ws : List Value, ws.length = np → bindArgs d.fd ⟨ws, []⟩ = pure ((nm.ns.take np).zip ws)
  nd : nm.ns.Nodup
  np : np ≤ nm.ns.length
  loc : ∀ x ∈ nm.ns, d.scope.names.lookup x = some .local ∨ d.scope.names.lookup x = some .cell
  gs : ∀ x ∈ nm.gs, d.scope.names.lookup x = some .globalImplicit
  cs : ∀ x ∈ nm.cs, d.scope.names.lookup x = some .cell
  ls : ∀ x ∈ nm.ls, d.scope.names.lookup x = some .local
  ndc : ((cellsFrom 0 d.scope.names []).map (·.1)).Nodup
end Mine

namespace Mine
open PySem PySem.W PySem.Calls PyProof.Rows

def Gh.all (g : Gh) (h h' : Heap) : Gh := { g with M := fun b => g.M b ∨ (h.get? b = none ∧ ∃ o, h'.get? b = some o) }
section
variable {c : Cn} {g g₀ : Gh} {h h' h₀ : Heap} {st : List Inst} {a : Addr}
theorem Gro.all (g : Gh) (k : ∀ b o, h.get? b = some o → h'.get? b = some o) : Gro g h (g.all h h') h' :=
  ⟨List.prefix_refl _, List.prefix_refl _, fun b o e _ => k b o e, fun b o e => ⟨o, k b o e⟩, fun b o e => ⟨fun q => q.elim id fun q => (by rw [q.1] at e; cases e), .inl⟩, fun _ _ _ q => q⟩
theorem Wd.all (W : Wd c g st h) (k : ∀ b o, h.get? b = some o → h'.get? b = some o) : Wd c (g.all h h') st h' := by
  have ne : ∀ b o, h.get? b = some o → ¬ (h.get? b = none ∧ ∃ o, h'.get? b = some o) := fun b o e q => by rw [q.1] at e; cases e
  refine ⟨W.lenρ, W.lenδ, fun k' i x dx h1 h2 h3 => ?_, W.ndδ, W.ndρ, fun d hd => .inl (W.Mδ d hd), fun x hx q => ?_, fun b q => ?_, fun b o e => ?_⟩
  · obtain ⟨e1, es, n, e2, r⟩ := W.inst k' i x dx h1 h2 h3
    exact ⟨k _ _ e1, es, n, k _ _ e2, r.mono (List.prefix_refl _) fun b o e m => ⟨k b o e, fun q => q.elim m (ne b o e)⟩⟩
  · rcases q with q | q
    · exact W.Mρ x hx q
    · obtain ⟨j, hj⟩ := List.getElem?_of_mem hx
      have hj' : j < st.length := by rw [← W.lenρ]; exact (List.getElem?_eq_some_iff.mp hj).1
      obtain ⟨e1, _⟩ := W.inst j _ x _ (List.getElem?_eq_getElem hj') hj (List.getElem?_eq_getElem (by rw [W.lenδ]; exact hj'))
      exact ne x _ e1 q
  · rcases q with q | q
    · obtain ⟨o, e⟩ := W.Mdom b q; exact ⟨o, k b o e⟩
    · exact q.2
  · obtain ⟨e1, e2⟩ := W.base b o e
    exact ⟨k b o e1, fun q => q.elim e2 (ne b o e1)⟩
end
theorem bindL_not {kindOf : Str → Option NameKind} {x : Str} : ∀ {l : List (Str × Value)} {m : Str → Option Value}, x ∉ l.map (·.1) → bindL kindOf l m x = m x
  | [], _, _ => rfl
  | (n, v) :: r, m, h => by
    unfold bindL
    rw [bindL_not fun q => h (.tail _ q)]
    split
    · exact if_neg fun q => h (by rw [q]; exact .head _)
    · rfl
theorem bindC_not {kindOf : Str → Option NameKind} {x : Str} : ∀ {l : List (Str × Value)} {m : Str → Option Value}, x ∉ l.map (·.1) → bindC kindOf l m x = m x
  | [], _, _ => rfl
  | (n, v) :: r, m, h => by
    unfold bindC
    rw [bindC_not fun q => h (.tail _ q)]
    split
    · rfl
    · exact if_neg fun q => h (by rw [q]; exact .head _)
theorem bindL_get {kindOf : Str → Option NameKind} {x : Str} {w : Value} (hk : kindOf x = some .local) : ∀ {l : List (Str × Value)} {m : Str → Option Value}, (l.map (·.1)).Nodup → (x, w) ∈ l → bindL kindOf l m x = some w
  | [], _, _, h => nomatch h
  | (n, v) :: r, m, nd, h => by
    unfold bindL
    rcases List.mem_cons.mp h with h | h
    · cases h
      rw [bindL_not (List.nodup_cons.mp nd).1, if_pos hk]; exact if_pos rfl
    · exact bindL_get hk (List.nodup_cons.mp nd).2 h
theorem bindC_get {kindOf : Str → Option NameKind} {x : Str} {w : Value} (hk : kindOf x ≠ some .local) : ∀ {l : List (Str × Value)} {m : Str → Option Value}, (l.map (·.1)).Nodup → (x, w) ∈ l → bindC kindOf l m x = some w
  | [], _, _, h => nomatch h
  | (n, v) :: r, m, nd, h => by
    unfold bindC
    rcases List.mem_cons.mp h with h | h
    · cases h
      rw [bindC_not (List.nodup_cons.mp nd).1, if_neg hk]; exact if_pos rfl
    · exact bindC_get hk (List.nodup_cons.mp nd).2 h
theorem zip_fst {ns : List Str} {ws : List Value} (nd : ns.Nodup) : ((ns.zip ws).map (·.1)).Nodup := by
  induction ns generalizing ws with
  | nil => cases ws <;> exact List.nodup_nil
  | cons x ns ih =>
    cases ws with
    | nil => exact List.nodup_nil
    | cons w ws =>
      rw [List.zip_cons_cons, List.map_cons]
      refine List.nodup_cons.mpr ⟨fun q => ?_, ih (List.nodup_cons.mp nd).2⟩
      obtain ⟨p, hp, e⟩ := List.mem_map.mp q
      have e' : p.1 = x := e
      exact (List.nodup_cons.mp nd).1 (by rw [← e']; exact (List.of_mem_zip hp).1)
theorem zip_mem {ns : List Str} {ws : List Value} {i : Nat} {x : Str} {w : Value} (hx : ns[i]? = some x) (hw : ws[i]? = some w) : (x, w) ∈ ns.zip ws := by
  refine List.mem_of_getElem? (i := i) ?_
  rw [List.getElem?_zip_eq_some]; exact ⟨hx, hw⟩

section
variable {c : Cn} {nm : Nm} {n np : Nat} {a : Addr} {d : FnD} {body : List S} {st st₁ st₂ : List Inst} {vs : List V} {v : V} {loc : List LV} {fl : Fl}
theorem fs_enterC {g : Gh} {s s₁ : Shared} {ws : List Value} (ok : FnAtC c a d nm np body) (W : Wd c g st s.heap) (R : RVs c g s.heap vs ws) (hn : vs.length = np)
    (IC : InCallC s (callEnvC d.fd s.heap.objs.size a).locals (bindL (callEnvC d.fd s.heap.objs.size a).kindOf ((nm.ns.take np).zip ws) fun _ => none) (callEnvC d.fd s.heap.objs.size a).cells (bindC (callEnvC d.fd s.heap.objs.size a).kindOf ((nm.ns.take np).zip ws) fun _ => none) s₁) :
    Gro g s.heap (g.all s.heap s₁.heap) s₁.heap ∧ Wd c (g.all s.heap s₁.heap) st s₁.heap ∧ Fs c nm (callEnvC d.fd s.heap.objs.size a) s.heap (fun _ => 0) (g.all s.heap s₁.heap) s₁.heap (locInit nm vs) := by
  have hk := IC.toInCall.keep
  have hns := IC.toInCall.ns
  have h0 : s.heap.get? (callEnvC d.fd s.heap.objs.size a).locals = none := get_size s.heap
  have G := Gro.all (h := s.heap) (h' := s₁.heap) g hk
  have nδ : ∀ b, s.heap.get? b = none → b ∉ g.δ := fun b hb q => by
    obtain ⟨o, e⟩ := W.Mdom _ (W.Mδ _ q); rw [hb] at e; cases e
  have cells : ∀ x ∈ nm.ns, d.scope.names.lookup x = some .cell → ∃ b, (callEnvC d.fd s.heap.objs.size a).cells.lookup x = some b ∧ s.heap.get? b = none ∧ s₁.heap.IsCell b (bindC (callEnvC d.fd s.heap.objs.size a).kindOf ((nm.ns.take np).zip ws) (fun _ => none) x) := fun x hx hc => by
    have := cellsFrom_some (x := x) d.scope.names (s.heap.objs.size + 1) [] (.inl hc)
    obtain ⟨b, hb⟩ := Option.isSome_iff_exists.mp this
    refine ⟨b, hb, ?_, IC.cell x b hb⟩
    have := IC.above x b (mem_of_lookup hb)
    cases e : s.heap.get? b with
    | none => rfl
    | some o => exact absurd (Heap.lt_size e) (Nat.not_lt.mpr (Nat.le_of_lt this))
  refine ⟨G, W.all hk, ?_⟩
  have nd' := ok.nd.sublist (List.take_sublist np nm.ns)
  refine ⟨⟨fun x hx => ok.ls x hx, fun x hx => ok.cs x hx, fun x hx => ok.gs x hx, ok.hk, rfl, rfl⟩, ok.nd, locInit_len (by rw [hn]; exact ok.np), fun i x lv hx hl => ?_, ⟨_, hns⟩, .inr ⟨h0, let ⟨o, _, _, e, _⟩ := hns; ⟨o, e⟩⟩, nδ _ h0, h0, fun x hx => ?_, fun x y b _ _ e1 e2 => ?_, fun i j x y h1 h2 o1 o2 _ => ?_⟩
  · rcases locInit_get hl with rfl | ⟨u, hu, rfl⟩
    · exact .unset
    · obtain ⟨w, hw, Rw⟩ := R.get hu
      have hi : i < np := by rw [← hn]; exact (List.getElem?_eq_some_iff.mp hu).1
      have hx' : (nm.ns.take np)[i]? = some x := by rw [List.getElem?_take, if_pos hi]; exact hx
      rcases ok.loc x (List.mem_of_getElem? hx) with kl | kc
      · exact .v (.loc _ kl hns (nδ _ h0) (bindL_get kl (zip_fst nd') (zip_mem hx' hw))) (Rw.gro W G)
      · obtain ⟨b, hb, hb0, ce⟩ := cells x (List.mem_of_getElem? hx) kc
        have hne : (callEnvC d.fd s.heap.objs.size a).kindOf x ≠ some .local := fun q => by
          have q' : d.scope.names.lookup x = some .local := q
          rw [kc] at q'; cases q'
        rw [bindC_get hne (zip_fst nd') (zip_mem hx' hw)] at ce
        exact .v (.cell b kc hb (nδ _ hb0) ce) (Rw.gro W G)
  · rcases ok.loc x hx with kl | kc
    · exact .inl kl
    · obtain ⟨b, hb, hb0, ce⟩ := cells x hx kc
      exact .inr ⟨kc, b, _, hb, ce, .inr ⟨hb0, let ⟨o, e, _⟩ := ce; ⟨o, e⟩⟩, nδ _ hb0, hb0⟩
  · exact name_of_addr IC.apart (mem_of_lookup e1) (mem_of_lookup e2)
  · rcases locInit_get h1 with rfl | ⟨u, hu, rfl⟩ <;> cases o1
theorem sCode_fnC (ok : FnAtC c a d nm np body) (hn : vs.length = np) (h : SS c nm n body (locInit nm vs) st fl loc st₂) (hv : FlV fl v) : SCode c (n + 1) a vs st v st₂ := fun A g s ws R r W RR P => by
  have X := W.X
  refine codeAny_call_cells (o := ⟨d.oc, d.od, .func d.fd, d.osl⟩) (fd := d.fd) (body := d.body) (binds := (nm.ns.take np).zip ws) ?_ (X _ _ ok.look) rfl (c.T.nolimit.keeps fun b o e => (W.base b o e).1) (codeRec_of X ok.code) rfl (ok.binds ws (RR.length.trans hn)) rfl (fun x hx => ?_) (fun s₁ IC => ?_) ok.hco ok.hgen ok.hk
  · have := r.dep; show A.depth < 1000; omega
  · rcases ok.loc x.1 (List.mem_of_mem_take (List.of_mem_zip hx).1) with kl | kc
    · exact .inl kl
    · exact .inr ⟨kc, cellsFrom_some _ _ _ (.inl kc)⟩
  · obtain ⟨G, W₁, F⟩ := fs_enterC ok W RR hn IC
    rw [ok.body]
    obtain ⟨h₁, tk, rfl⟩ := IC.toInCall.same
    refine h _ _ g s.heap _ _ { s with heap := h₁, toks := _ } _ _ r.deeper G W₁ F fun f h' tk' g' oa' G' W' F' fr => ?_
    cases fr with
    | next => cases hv; exact P _ h' tk' g' G' W' .none
    | ret R' => cases hv; exact P _ h' tk' g' G' W' R'
end
end Mine

namespace Mine
open PySem PySem.W PySem.Calls PyProof.Rows

/-- growth by new objects alone -/
theorem Gro.keeps (g : Gh) {h h' : Heap} (k : ∀ b o, h.get? b = some o → h'.get? b = some o) : Gro g h g h' :=
  ⟨List.prefix_refl _, List.prefix_refl _, fun b o e _ => k b o e, fun b o e => ⟨o, k b o e⟩, fun _ _ _ => Iff.rfl, fun _ _ _ q => q⟩
theorem Wd.keeps {c : Cn} {g : Gh} {st : List Inst} {h h' : Heap} (W : Wd c g st h) (k : ∀ b o, h.get? b = some o → h'.get? b = some o) : Wd c g st h' := by
  refine ⟨W.lenρ, W.lenδ, fun k'' i x dx h1 h2 h3 => ?_, W.ndδ, W.ndρ, W.Mδ, W.Mρ, fun b q => let ⟨o, e⟩ := W.Mdom b q; ⟨o, k b o e⟩, fun b o e => ⟨k b o (W.base b o e).1, (W.base b o e).2⟩⟩
  obtain ⟨e1, es, n, e2, r⟩ := W.inst k'' i x dx h1 h2 h3
  exact ⟨k _ _ e1, es, n, k _ _ e2, r.mono (List.prefix_refl _) fun b o e m => ⟨k b o e, m⟩⟩

section
variable {c : Cn} {nm : Nm} {n : Nat} {loc : List LV} {st st₁ st₂ st₃ : List Inst}

/-- slices -/
def SEo (c : Cn) (nm : Nm) (n : Nat) (e : Option E) (loc : List LV) (st : List Inst) (v : Option Int) (st' : List Inst) : Prop :=
  ∀ (A : Around) (env : Env) (g : Gh) (s : Shared) (Q : Value → Shared → Prop) (Ex : Value → Shared → Prop),
    Room n A → EnvOk nm env → Wd c g st s.heap → Le c env nm.ns g s.heap loc →
    (∀ val h' tk' g', Gro g s.heap g' h' → Wd c g' st' h' → IsPart val v → Q val { s with heap := h', toks := tk' }) → wpAny c.M A (evalPart (Eo.py e) env) Q Ex s
theorem sEo_none : SEo c nm n Option.none loc st Option.none st := fun A env g s Q Ex _ _ W _ P => by
  exact wpAny_pure (P _ s.heap s.toks g (Gro.refl _ _) W .none)
theorem sEo_some {e : E} {v : V} {i : Int} (he : SE c nm n e loc st v st₁) (hv : v.iv c = some i) : SEo c nm n (some e) loc st (some i) st₁ := fun A env g s Q Ex r eo W L P => by
  refine he A env g s Q Ex r eo W L fun w h₁ t₁ g₁ G₁ W₁ R₁ => ?_
  obtain ⟨t, rfl⟩ := R₁.iv hv
  exact P _ h₁ t₁ g₁ G₁ W₁ (.int i t)
def vpick (l : List V) (lo hi : Option Int) : List V := (l.drop (kms_lo lo l.length)).take (kms_hi hi l.length - kms_lo lo l.length)
theorem sE_slice {a : E} {lo hi : Option E} {q p : Ps} {xs : List V} {x y : Option Int} (ha : SE c nm n a loc st (.list xs) st₁) (hl : SEo c nm n lo loc st₁ x st₂) (hh : SEo c nm n hi loc st₂ y st₃) (hz : xs.length ≤ 1000000) :
    SE c nm n (.slice a lo hi q p) loc st (.list (vpick xs x y)) st₃ := fun A env g s Q Ex r eo W L P => by
  show wpAny _ _ (eval (.Subscript a.py (.Slice (Eo.py lo) (Eo.py hi) Option.none q) p) env) Q Ex s
  refine Subscript_ (ha A env g s _ Ex r eo W L fun wa h₁ t₁ g₁ G₁ W₁ R₁ => ?_)
  refine wpAny_Slice ?_
  refine hl A env g₁ _ _ Ex r eo W₁ (L.gro W G₁) fun wl h₂ t₂ g₂ G₂ W₂ pl => ?_
  refine hh A env g₂ _ _ Ex r eo W₂ ((L.gro W G₁).gro W₁ G₂) fun wu h₃ t₃ g₃ G₃ W₃ pu => ?_
  refine wpAny_pure ?_
  have R₃ := (R₁.gro W₁ G₂).gro W₂ G₃
  cases R₃ with
  | list e m rs =>
    rename_i la ws nn
    have hls : Heap.IsList h₃ la ws.toArray := ⟨_, e, rfl, _, rfl⟩
    have G₄ := Gro.push g₃ h₃ { cls := .type "slice", data := .fields #[wl, wu, .none] }
    have W₄ := W₃.push { cls := .type "slice", data := .fields #[wl, wu, .none] }
    refine tail_any (Heap.IsList.typeIs (s := { s with heap := h₃.push { cls := .type "slice", data := .fields #[wl, wu, .none] }, toks := t₃ }) (hls.push _)) list_getitem_lookup
      (wpAny_getItem_list_slice (s := { s with heap := h₃.push { cls := .type "slice", data := .fields #[wl, wu, .none] }, toks := t₃ }) (hls.push _) (Heap.IsSliceOf.new ..) pl pu .none (by simp) ?_ (by rw [List.size_toArray, rs.length]; exact Nat.le_trans hz (by decide))) rfl
    have e2 : slicePick ws.toArray x y none = (kms_pick ws x y).toArray := by rw [kms_pick_eq]
    rw [e2]
    have rp : RVs c g₃ (h₃.push { cls := .type "slice", data := .fields #[wl, wu, .none] }) (vpick xs x y) (kms_pick ws x y) := by
      unfold vpick kms_pick
      rw [rs.length]
      exact ((rs.gro W₃ G₄).drop _).take _
    exact Pst.new (P.trans (tk := t₃) ((((G₁.trans G₂).trans G₃).trans G₄))) W₄ (RV.newList W₄ rp)


mutual
def V.pd (c : Cn) : V → PyData
  | .scr => .none
  | .none => .none
  | .bool b => .bool b
  | .int i => .int i
  | .key n => .int (c.kv n)
  | .val n => .int (c.vv n)
  | .list xs => .list (Vs.pd c xs)
  | .tup xs => .tuple (Vs.pd c xs)
  | .obj _ => .none
def Vs.pd (c : Cn) : List V → List PyData
  | [] => []
  | x :: xs => x.pd c :: Vs.pd c xs
end
mutual
def V.dat : V → Bool
  | .scr => false
  | .obj _ => false
  | .list xs => Vs.dat xs
  | .tup xs => Vs.dat xs
  | _ => true
def Vs.dat : List V → Bool
  | [] => true
  | x :: xs => x.dat && Vs.dat xs
end
mutual
theorem RV.reads {g : Gh} {h : Heap} {v : V} {w : Value} (R : RV c g h v w) (d : v.dat = true) : ∃ as, Reads h w (v.pd c) as := by
  cases R with
  | scr => cases d
  | none => exact ⟨_, .none⟩
  | bool b => exact ⟨_, .bool b⟩
  | int i t => exact ⟨_, .int i t⟩
  | key n t => exact ⟨_, .int _ t⟩
  | val n t => exact ⟨_, .int _ t⟩
  | obj e => cases d
  | list e m r =>
    obtain ⟨as, q⟩ := RVs.reads r (by rw [V.dat] at d; exact d)
    exact ⟨_, by rw [V.pd]; exact .list e rfl rfl (by simpa using q)⟩
  | tup e m r =>
    obtain ⟨as, q⟩ := RVs.reads r (by rw [V.dat] at d; exact d)
    exact ⟨_, by rw [V.pd]; exact .tuple e rfl rfl (by simpa using q)⟩
theorem RVs.reads {g : Gh} {h : Heap} {v : List V} {w : List Value} (R : RVs c g h v w) (d : Vs.dat v = true) : ∃ as, ReadsAll h w (Vs.pd c v) as := by
  cases R with
  | nil => exact ⟨_, .nil⟩
  | cons a b =>
    rw [Vs.dat, Bool.and_eq_true] at d
    obtain ⟨as, q⟩ := RV.reads a d.1
    obtain ⟨bs, q'⟩ := RVs.reads b d.2
    exact ⟨_, by rw [Vs.pd]; exact .cons q q'⟩
end
mutual
theorem V.lay (v : V) : (v.pd c).canLay0 = true := by
  cases v <;> rw [V.pd] <;> first | rfl | (rw [PyData.canLay0]; exact Vs.lay _)
theorem Vs.lay (v : List V) : PyData.canLayAll0 (Vs.pd c v) = true := by
  cases v with
  | nil => rfl
  | cons x xs => rw [Vs.pd, PyData.canLayAll0, V.lay x, Vs.lay xs]; rfl
end
theorem cmp_dat {op : COp} {a b : V} {t : Bool} (ha : a.dat = true) (hb : b.dat = true) (da : (a.pd c).depth ≤ 64) (db : (b.pd c).depth ≤ 64) (ho : (op = .eq ∧ t = PyData.eqv (a.pd c) (b.pd c)) ∨ (op = .ne ∧ t = !PyData.eqv (a.pd c) (b.pd c))) : CmpOk c n op a b t := fun A g s st x y Q Ex r W R S P => by
  obtain ⟨as, ra⟩ := R.reads ha
  obtain ⟨bs, rb⟩ := S.reads hb
  have sa : SeqAt.shaped (a.pd c) = true := by unfold SeqAt.shaped; rw [V.lay, decide_eq_true da]; rfl
  have sb : SeqAt.shaped (b.pd c) = true := by unfold SeqAt.shaped; rw [V.lay, decide_eq_true db]; rfl
  have hu : A.units + 64 < cLine := by have := r.uni; show A.units + 64 < 9900; omega
  rcases ho with ⟨rfl, rfl⟩ | ⟨rfl, rfl⟩
  · exact eq_dataH ra rb sa sb hu (P.here (tk := s.toks) W (.bool _))
  · exact ne_dataH ra rb sa sb hu (P.here (tk := s.toks) W (.bool _))
end
end Mine

namespace Mine
open PySem PySem.W PySem.Calls PyProof.Rows

section
variable {c : Cn} {nm : Nm} {n : Nat} {loc : List LV} {st st₁ st₂ st₃ : List Inst}

/-- is, is not -/
theorem cmp_is_obj {j k : Nat} {op : COp} {t : Bool} (ho : (op = .is ∧ t = decide (j = k)) ∨ (op = .isnot ∧ t = !decide (j = k))) : CmpOk c n op (.obj j) (.obj k) t := fun A g s st x y Q Ex r W R S P => by
  cases R with
  | obj ea =>
    cases S with
    | obj eb =>
      rename_i a b
      by_cases hjk : j = k
      · subst hjk
        rw [ea] at eb; cases eb
        rcases ho with ⟨rfl, rfl⟩ | ⟨rfl, rfl⟩
        · rw [decide_eq_true rfl] at P
          exact wpAny_is_ref_self (P.here (tk := s.toks) W (.bool _))
        · rw [decide_eq_true rfl] at P
          exact wpAny_isNot_ref_self (P.here (tk := s.toks) W (.bool _))
      · have hj := (List.getElem?_eq_some_iff.mp ea).1
        have hk := (List.getElem?_eq_some_iff.mp eb).1
        have hne : a ≠ b := fun q => by
          subst q
          exact hjk ((List.getElem?_inj hj W.ndρ).mp (ea.trans eb.symm))
        have hjs : j < st.length := by rw [← W.lenρ]; exact hj
        have hks : k < st.length := by rw [← W.lenρ]; exact hk
        obtain ⟨e1, _⟩ := W.inst j _ a _ (List.getElem?_eq_getElem hjs) ea (List.getElem?_eq_getElem (by rw [W.lenδ]; exact hjs))
        obtain ⟨e2, _⟩ := W.inst k _ b _ (List.getElem?_eq_getElem hks) eb (List.getElem?_eq_getElem (by rw [W.lenδ]; exact hks))
        rcases ho with ⟨rfl, rfl⟩ | ⟨rfl, rfl⟩
        · rw [decide_eq_false hjk] at P
          exact wpAny_is_ref_other hne e1 e2 (fun q => by cases q) (P.here (tk := s.toks) W (.bool _))
        · rw [decide_eq_false hjk] at P
          exact wpAny_isNot_ref_other hne e1 e2 (fun q => by cases q) (P.here (tk := s.toks) W (.bool _))
def V.isNone : V → Bool
  | .none => true
  | _ => false
theorem cmp_is_none {a : V} {op : COp} {t : Bool} (ho : (op = .is ∧ t = a.isNone) ∨ (op = .isnot ∧ t = !a.isNone)) : CmpOk c n op a .none t := fun A g s st x y Q Ex r W R S P => by
  cases S
  have h1 : plainIs x .none = true := by cases R <;> rfl
  have h2 : (x == .none) = a.isNone := by cases R <;> rfl
  rcases ho with ⟨rfl, rfl⟩ | ⟨rfl, rfl⟩
  · exact wpAny_is_plain h1 (by rw [h2]; exact P.here (tk := s.toks) W (.bool _))
  · exact wpAny_isNot_plain h1 (by rw [h2]; exact P.here (tk := s.toks) W (.bool _))
theorem cmp_is_bool {a b : Bool} {op : COp} {t : Bool} (ho : (op = .is ∧ t = (a == b)) ∨ (op = .isnot ∧ t = !(a == b))) : CmpOk c n op (.bool a) (.bool b) t := fun A g s st x y Q Ex r W R S P => by
  cases S; cases R
  have h2 : (Value.bool a == .bool b) = (a == b) := by cases a <;> cases b <;> rfl
  rcases ho with ⟨rfl, rfl⟩ | ⟨rfl, rfl⟩
  · exact wpAny_is_plain rfl (by rw [h2]; exact P.here (tk := s.toks) W (.bool _))
  · exact wpAny_isNot_plain rfl (by rw [h2]; exact P.here (tk := s.toks) W (.bool _))

/-- not in -/
theorem cmp_notin {a : V} {xs : List V} {t : Bool} (ha : a.dat = true) (hx : Vs.dat xs = true) (hd : (a.pd c).depth ≤ 64) (ht : t = !(Vs.pd c xs).any fun y => PyData.eqv y (a.pd c)) : CmpOk c n .notin a (.list xs) t := fun A g s st x y Q Ex r W R S P => by
  obtain ⟨as, ra⟩ := R.reads ha
  obtain ⟨bs, rb⟩ := S.reads (by rw [V.dat]; exact hx)
  rw [V.pd] at rb
  have hu : A.units + 1 + min (PyData.depthAll (Vs.pd c xs)) (a.pd c).depth < cLine := by
    have := r.uni
    have h1 : min (PyData.depthAll (Vs.pd c xs)) (a.pd c).depth ≤ (a.pd c).depth := Nat.min_le_right _ _
    show _ < 9900
    omega
  subst ht
  exact SeqAt.notIn_list_reads rb ra (Vs.lay xs) (V.lay a) hu (P.here (tk := s.toks) W (.bool _))

/-- sum -/
def vnums (c : Cn) : List V → Option (List Int)
  | [] => some []
  | x :: xs => match x.iv c, vnums c xs with
    | some i, some is => some (i :: is)
    | _, _ => Option.none
theorem RVs.nums {g : Gh} {h : Heap} {xs : List V} {ws : List Value} {is : List Int} (R : RVs c g h xs ws) (e : vnums c xs = some is) : AllInts ws.toArray ∧ numsOf ws = is := by
  induction xs generalizing ws is with
  | nil => cases R; cases e; exact ⟨fun v hv => by simp at hv, rfl⟩
  | cons x xs ih =>
    cases R with
    | cons a b =>
      unfold vnums at e
      cases h1 : x.iv c with
      | none => rw [h1] at e; cases e
      | some i =>
        cases h2 : vnums c xs with
        | none => rw [h1, h2] at e; cases e
        | some js =>
          rw [h1, h2] at e; cases e
          obtain ⟨p, q⟩ := ih b h2
          obtain ⟨t, rfl⟩ := a.iv h1
          refine ⟨fun v hv => ?_, by rw [numsOf, q]⟩
          rcases List.mem_cons.mp (by simpa using hv) with rfl | hv
          · exact ⟨i, t, rfl⟩
          · exact p v (by simpa using hv)
theorem blt_sum {xs : List V} {is : List Int} (e : vnums c xs = some is) : SBlt c n (.builtin "sum") [.list xs] st (.int is.sum) st := fun A g s ws Q Ex r W R P => by
  cases R with
  | cons R1 R0 =>
    cases R0
    cases R1 with
    | list eo m q =>
      rename_i l ws nn
      have hl : s.heap.IsList l ws.toArray := ⟨_, eo, rfl, _, rfl⟩
      obtain ⟨ha, hn⟩ := q.nums e
      obtain ⟨ys, hys⟩ := ha.items
      rw [hys] at hl
      refine sum_intListG r.hd hl fun h' tk t' k => ?_
      have hs : preSum (numAt ys) ys.size = is.sum := by
        rw [preSum_eq, List.take_of_length_le (by simp), ← nums_intItems, ← hys, ← hn]
      rw [hs]
      exact P _ h' tk g (Gro.keeps g k) (W.keeps k) (.int _ _)
/-- max(a, b) -/
theorem blt_max {a b : V} {i j : Int} (ha : a.iv c = some i) (hb : b.iv c = some j) : SBlt c n (.builtin "max") [a, b] st (.int (if j > i then j else i)) st := fun A g s ws Q Ex r W R P => by
  cases R with
  | cons R1 R0 =>
    cases R0 with
    | cons R2 R0 =>
      cases R0
      obtain ⟨t, rfl⟩ := R1.iv ha
      obtain ⟨u, rfl⟩ := R2.iv hb
      refine max_two_ints r.hd fun h' tk k => ?_
      split
      · rename_i h; rw [if_pos h] at P; exact P _ h' tk g (Gro.keeps g k) (W.keeps k) (.int _ _)
      · rename_i h; rw [if_neg h] at P; exact P _ h' tk g (Gro.keeps g k) (W.keeps k) (.int _ _)
/-- list(..), tuple(..) -/
theorem blt_list {xs : List V} (hz : xs.length ≤ 1000000) : SBlt c n (.type "list") [.list xs] st (.list xs) st := fun A g s ws Q Ex r W R P => by
  cases R with
  | cons R1 R0 =>
    cases R0
    cases R1 with
    | list e m q =>
      refine call_list_seq _ (.inl rfl) e rfl rfl (fun h' c' k e' => ?_) (by rw [List.size_toArray, q.length]; exact Nat.le_trans hz (by decide))
      exact P _ h' s.toks g (Gro.keeps g k) (W.keeps k) (.list e' W.fresh (q.gro W (Gro.keeps g k)))
theorem blt_listT {xs : List V} (hz : xs.length ≤ 1000000) : SBlt c n (.type "list") [.tup xs] st (.list xs) st := fun A g s ws Q Ex r W R P => by
  cases R with
  | cons R1 R0 =>
    cases R0
    cases R1 with
    | tup e m q =>
      refine call_list_seq _ (.inr rfl) e rfl rfl (fun h' c' k e' => ?_) (by rw [List.size_toArray, q.length]; exact Nat.le_trans hz (by decide))
      exact P _ h' s.toks g (Gro.keeps g k) (W.keeps k) (.list e' W.fresh (q.gro W (Gro.keeps g k)))
theorem blt_tuple {xs : List V} (hz : xs.length ≤ 1000000) : SBlt c n (.type "tuple") [.list xs] st (.tup xs) st := fun A g s ws Q Ex r W R P => by
  cases R with
  | cons R1 R0 =>
    cases R0
    cases R1 with
    | list e m q =>
      refine call_tuple_list ⟨_, e, rfl, _, rfl⟩ (fun h' k => ?_) (by rw [List.size_toArray, q.length]; exact Nat.le_trans hz (by decide))
      have W' := W.keeps k
      exact P _ _ s.toks g ((Gro.keeps g k).trans (Gro.push g h' _)) (W'.push _) (RV.newTup W' (q.gro W (Gro.keeps g k)))
theorem bin_catT {xs ys : List V} (hz : xs.length + ys.length ≤ 1000000) : BinOk c n .add (.tup xs) (.tup ys) (.tup (xs ++ ys)) := fun A g s st x y Q Ex r W R S P => by
  have R' := R; have S' := S
  cases R with
  | tup e1 m1 r1 =>
    cases S with
    | tup e2 m2 r2 =>
      rename_i t ws n1 b ws2 n2
      by_cases h1 : ws = []
      · subst h1
        cases r1
        exact concat_meets ⟨_, e1, rfl⟩ ⟨_, e2, rfl⟩ noFill_tuple_add seq_tuple_add PySem.F.slot_tuple_add PySem.F.entry_tuple_add (PySem.F.args_tuple_add_2 _ _)
          (tuple_addW0 t b #[] ws2.toArray n1 n2 none none #[] #[] rfl) ⟨e1, e2, P.here (tk := s.toks) W S'⟩
      · by_cases h2 : ws2 = []
        · subst h2
          cases r2
          rw [List.append_nil] at P
          exact concat_meets ⟨_, e1, rfl⟩ ⟨_, e2, rfl⟩ noFill_tuple_add seq_tuple_add PySem.F.slot_tuple_add PySem.F.entry_tuple_add (PySem.F.args_tuple_add_2 _ _)
            (tuple_addW1 t b ws.toArray #[] n1 n2 none none #[] #[] (by simpa using h1) rfl) ⟨e1, e2, P.here (tk := s.toks) W R'⟩
        · refine concat_meets ⟨_, e1, rfl⟩ ⟨_, e2, rfl⟩ noFill_tuple_add seq_tuple_add PySem.F.slot_tuple_add PySem.F.entry_tuple_add (PySem.F.args_tuple_add_2 _ _)
            (tuple_addW2 t b ws.toArray ws2.toArray n1 n2 none none #[] #[] (by simpa using h1) (by simpa using h2) ?_) ⟨e1, e2, ?_⟩
          · rw [List.size_toArray, List.size_toArray, r1.length, r2.length]; exact Nat.le_trans hz (by decide)
          · have e : ws.toArray ++ ws2.toArray = (ws ++ ws2).toArray := by simp
            rw [e]
            exact P.new (st' := st) W (RV.newTup W (r1.append r2))
/-- a global datum that stands in the base -/
theorem sE_glob {g : Nat} {x : Str} {p : Ps} {v : V} {w : Value} (gl : x ∈ nm.gs) (e : nsIn c.K mainGlobals x = some (some w)) (hd : (x == ("__debug__" : Str)) = false) (hw : ∀ (gh : Gh) (h : Heap) (st : List Inst), Wd c gh st h → RV c gh h v w) : SE c nm n (.glob g x p) loc st v st := fun A env gh s Q Ex r eo W L P => by
  show wpAny _ _ (eval (.Name x p) env) Q Ex s
  exact glob_load eo W gl e hd (P.here (tk := s.toks) W (hw gh _ _ W))
end
end Mine

namespace Mine
open PySem PySem.W PySem.Calls PyProof.Rows
/-- the program as the proof looks at it -/
inductive Fn where
  | ast (np : Nat) (pad : List LV) (nm : Nm) (body : List S)
structure Pg where
  fns : Nat → Option Fn
  addr : Nat → Addr
  gname : Nat → Option Str
  cname : Nat → Option Str
  init : Nat → Nat
  mth : Nat → Nat → Option Nat
  mname : Nat → Option Str
  fpos : Nat → Nat → Option Nat
  aname : Nat → Option Str
structure PgOk (c : Cn) (pg : Pg) : Prop where
  fn : ∀ k x, pg.gname k = some x → nsIn c.K mainGlobals x = some (some (.ref (pg.addr k))) ∧ keepIn c.K (.ref (pg.addr k)) = true ∧ (x == ("__debug__" : Str)) = false
  cls : ∀ k x, pg.cname k = some x → nsIn c.K mainGlobals x = some (some (.ref (c.cls k))) ∧ keepIn c.K (.ref (c.cls k)) = true ∧ (x == ("__debug__" : Str)) = false
  new : ∀ k x, pg.cname k = some x → NewOk c k (pg.addr (pg.init k))
  ast : ∀ k np pad nm body, pg.fns k = some (.ast np pad nm body) → ∃ d, FnAt c (pg.addr k) d nm np body ∨ FnAtC c (pg.addr k) d nm np body
  attr : ∀ cl f j, pg.fpos cl f = some j → ∃ x, pg.aname f = some x ∧ (c.fld cl)[j]? = some x ∧ AttrOk c cl x ∧ SetOk c cl x
  nd : ∀ cl, (c.fld cl).Nodup
  mth : ∀ cl f k, pg.mth cl f = some k → ∃ x, pg.mname f = some x ∧ MethOk c cl x (pg.addr k)
  blt : ∀ x ∈ [("len" : Str), "sum", "max", "list", "tuple", "range"], nsIn c.K mainGlobals x = some none
noncomputable section
def nth {α : Type} (l : List α) : Nat → Option α := List.rec (motive := fun _ => Nat → Option α) (fun _ => none) (fun a _ ih n => Nat.casesOn n (some a) ih) l
def ieq (a b : Int) : Bool := Int.casesOn a (fun a => Int.casesOn b (fun b => Nat.beq a b) fun _ => false) (fun a => Int.casesOn b (fun _ => false) fun b => Nat.beq a b)
theorem ieq_eq (a b : Int) : ieq a b = (a == b) := by
  rw [Bool.eq_iff_iff, beq_iff_eq]
  cases a <;> cases b <;> (unfold ieq; simp <;> omega)
def sameL (f : V → V → Bool) (l : List V) : List V → Bool := List.rec (motive := fun _ => List V → Bool) (fun r => List.casesOn r true fun _ _ => false) (fun a _ ih r => List.casesOn r false fun b r => Bool.casesOn (f a b) false (ih r)) l
def sameStep (ih : V → V → Bool) (a b : V) : Bool :=
  V.casesOn a false
    (V.casesOn b false true (fun _ => false) (fun _ => false) (fun _ => false) (fun _ => false) (fun _ => false) (fun _ => false) (fun _ => false))
    (fun x => V.casesOn b false false (fun y => Bool.casesOn x (Bool.casesOn y true false) y) (fun _ => false) (fun _ => false) (fun _ => false) (fun _ => false) (fun _ => false) (fun _ => false))
    (fun x => V.casesOn b false false (fun _ => false) (fun y => ieq x y) (fun _ => false) (fun _ => false) (fun _ => false) (fun _ => false) (fun _ => false))
    (fun x => V.casesOn b false false (fun _ => false) (fun _ => false) (fun y => Nat.beq x y) (fun _ => false) (fun _ => false) (fun _ => false) (fun _ => false))
    (fun x => V.casesOn b false false (fun _ => false) (fun _ => false) (fun _ => false) (fun y => Nat.beq x y) (fun _ => false) (fun _ => false) (fun _ => false))
    (fun x => V.casesOn b false false (fun _ => false) (fun _ => false) (fun _ => false) (fun _ => false) (fun y => sameL ih x y) (fun _ => false) (fun _ => false))
    (fun x => V.casesOn b false false (fun _ => false) (fun _ => false) (fun _ => false) (fun _ => false) (fun _ => false) (fun y => sameL ih x y) (fun _ => false))
    (fun _ => false)
def same (k : Nat) : V → V → Bool := Nat.rec (motive := fun _ => V → V → Bool) (fun _ _ => false) (fun _ ih => sameStep ih) k
theorem sameL_eq {c : Cn} {f : V → V → Bool} {k : Nat} (hf : ∀ a b, f a b = true → a = b ∧ a.dat = true ∧ (a.pd c).depth ≤ k) : ∀ l r, sameL f l r = true → l = r ∧ Vs.dat l = true ∧ PyData.depthAll (Vs.pd c l) ≤ k := by
  intro l
  induction l with
  | nil =>
    intro r h
    cases r with
    | nil => exact ⟨rfl, rfl, Nat.zero_le _⟩
    | cons => cases h
  | cons a l ih =>
    intro r h
    cases r with
    | nil => cases h
    | cons b r =>
      have h' : (Bool.casesOn (f a b) false (sameL f l r) : Bool) = true := h
      cases q : f a b with
      | false => rw [q] at h'; cases h'
      | true =>
        rw [q] at h'
        obtain ⟨rfl, d1, d2⟩ := hf a b q
        obtain ⟨rfl, d3, d4⟩ := ih r h'
        refine ⟨rfl, ?_, ?_⟩
        · rw [Vs.dat, d1, d3]; rfl
        · rw [Vs.pd, PyData.depthAll]; exact Nat.max_le.mpr ⟨d2, d4⟩
theorem same_eq {c : Cn} : ∀ k a b, same k a b = true → a = b ∧ a.dat = true ∧ (a.pd c).depth ≤ k := by
  intro k
  induction k with
  | zero => intro a b h; cases h
  | succ k ih =>
    intro a b h
    have h' : sameStep (same k) a b = true := h
    unfold sameStep at h'
    cases a <;> cases b <;> simp only [Bool.false_eq_true] at h'
    · exact ⟨rfl, rfl, Nat.zero_le _⟩
    · rename_i x y
      cases x <;> cases y <;> first | exact ⟨rfl, rfl, Nat.zero_le _⟩ | cases h'
    · rw [ieq_eq, beq_iff_eq] at h'; subst h'; exact ⟨rfl, rfl, Nat.zero_le _⟩
    · have := Nat.eq_of_beq_eq_true h'; subst this; exact ⟨rfl, rfl, Nat.zero_le _⟩
    · have := Nat.eq_of_beq_eq_true h'; subst this; exact ⟨rfl, rfl, Nat.zero_le _⟩
    · obtain ⟨rfl, d1, d2⟩ := sameL_eq (c := c) (k := k) ih _ _ h'
      exact ⟨rfl, by rw [V.dat]; exact d1, by rw [V.pd, PyData.depth]; omega⟩
    · obtain ⟨rfl, d1, d2⟩ := sameL_eq (c := c) (k := k) ih _ _ h'
      exact ⟨rfl, by rw [V.dat]; exact d1, by rw [V.pd, PyData.depth]; omega⟩

theorem kv_inj (c : Cn) {i j : Nat} : (c.kv i == c.kv j) = Nat.beq i j := by
  rw [Bool.eq_iff_iff, beq_iff_eq, Nat.beq_eq]
  constructor
  · intro h
    rcases Nat.lt_trichotomy i j with q | q | q
    · have := c.kv_lt i j q; omega
    · exact q
    · have := c.kv_lt j i q; omega
  · rintro rfl; rfl
end
def compNm (nm : Nm) (sc : Scope) (x : Str) (cs : List Nat) : Nm := ⟨x :: cs.map fun j => (nm.ns[j]?).getD x, (sc.names.filter fun y => y.2 == .globalImplicit && decide (sc.names.lookup y.1 = some .globalImplicit)).map (·.1), [], []⟩
def okComp (nm : Nm) (sc : Scope) (x : Str) (cs : List Nat) : Bool :=
  decide (sc.kind = .function) && decide (sc.names.lookup x = some .local) && sc.names.all (fun y => decide (y.2 ≠ .cell) && (decide (y.2 ≠ .local) || decide (sc.names.lookup y.1 = some .local)) && (decide (y.2 ≠ .free) || (cs.map fun j => (nm.ns[j]?).getD x).contains y.1))
  && cs.all (fun j => decide (j < nm.ns.length) && nm.cs.contains ((nm.ns[j]?).getD x) && decide (sc.names.lookup ((nm.ns[j]?).getD x) = some .free))
theorem okComp_ok {nm : Nm} {sc : Scope} {x : Str} {cs : List Nat} (h : okComp nm sc x cs = true) : CompOk nm (compNm nm sc x cs) sc x cs (cs.map fun j => (nm.ns[j]?).getD x) := by
  unfold okComp at h
  simp only [Bool.and_eq_true, decide_eq_true_eq, List.all_eq_true, Bool.or_eq_true, List.contains_iff_mem] at h
  obtain ⟨⟨⟨h1, h2⟩, h3⟩, h4⟩ := h
  refine ⟨h1, h2, fun y hy => (h3 y hy).1.1, fun y hy e => ?_, fun y hy e => ?_, ?_, fun y hy => ?_, fun y hy => ?_, rfl, fun y hy => ?_, rfl, rfl⟩
  · rcases (h3 y hy).1.2 with q | q
    · exact absurd e q
    · exact q
  · rcases (h3 y hy).2 with q | q
    · exact absurd e q
    · exact q
  · rw [List.map_map]
    apply List.map_congr_left
    intro j hj
    have := (h4 j hj).1.1
    show nm.ns[j]? = some ((nm.ns[j]?).getD x)
    rw [List.getElem?_eq_getElem this]; rfl
  · obtain ⟨j, hj, rfl⟩ := List.mem_map.mp hy
    exact (h4 j hj).1.2
  · obtain ⟨j, hj, rfl⟩ := List.mem_map.mp hy
    exact (h4 j hj).2
  · obtain ⟨z, hz, rfl⟩ := List.mem_map.mp hy
    have := (List.mem_filter.mp hz).2
    simp only [Bool.and_eq_true, decide_eq_true_eq] at this
    exact this.2
end Mine

namespace Mine
open PySem PySem.W PySem.Calls PyProof.Rows
section
variable {c : Cn} {nm nm' : Nm} {n : Nat} {loc loc₁ loc₂ : List LV} {st st₁ st₂ st₃ : List Inst} {fl : Fl}
/-- rows of statements, by their first one -/
theorem ss_assign {i : Nat} {x : Str} {q p : Ps} {e : E} {v : V} {rest : List S} (hx : nm.ns[i]? = some x) (he : SE c nm n e loc st v st₁) (hc : e.nocomp = true) (hr : SS c nm n rest (loc.set i (.v v)) st₁ fl loc₂ st₂) : SS c nm n (.assign i x q e p :: rest) loc st fl loc₂ st₂ :=
  ss_cons (x := .assign i x q e p) rfl (sx_assign hx he hc) hr
theorem ss_own {i : Nat} {x : Str} {q lp p : Ps} {es : List E} {vs : List V} {rest : List S} (hx : nm.ns[i]? = some x) (hs : SEs c nm n es loc st vs st₁) (hz : vs.length ≤ 1000000) (hr : SS c nm n rest (loc.set i (.own vs)) st₁ fl loc₂ st₂) : SS c nm n (.own i x q es lp p :: rest) loc st fl loc₂ st₂ :=
  ss_cons (x := .own i x q es lp p) rfl (sx_own hx hs hz) hr
theorem ss_return {e : E} {p : Ps} {v : V} {rest : List S} (he : SE c nm n e loc st v st₁) : SS c nm n (.ret e p :: rest) loc st (.ret v) loc st₁ :=
  ss_ret (x := .ret e p) rfl (sx_ret he)
theorem ss_if_t {x : C} {a b : List S} {p : Ps} {rest : List S} (hc : SC c nm n x loc st true st₁) (ha : SS c nm n a loc st₁ .next loc₁ st₂) (hr : SS c nm n rest loc₁ st₂ fl loc₂ st₃) : SS c nm n (.ite x a b p :: rest) loc st fl loc₂ st₃ :=
  ss_cons (x := .ite x a b p) rfl (sx_if_t hc ha) hr
theorem ss_if_tr {x : C} {a b : List S} {p : Ps} {rest : List S} {v : V} (hc : SC c nm n x loc st true st₁) (ha : SS c nm n a loc st₁ (.ret v) loc₁ st₂) : SS c nm n (.ite x a b p :: rest) loc st (.ret v) loc₁ st₂ :=
  ss_ret (x := .ite x a b p) rfl (sx_if_t hc ha)
theorem ss_if_f {x : C} {a b : List S} {p : Ps} {rest : List S} (hc : SC c nm n x loc st false st₁) (ha : SS c nm n b loc st₁ .next loc₁ st₂) (hr : SS c nm n rest loc₁ st₂ fl loc₂ st₃) : SS c nm n (.ite x a b p :: rest) loc st fl loc₂ st₃ :=
  ss_cons (x := .ite x a b p) rfl (sx_if_f hc ha) hr
theorem ss_if_fr {x : C} {a b : List S} {p : Ps} {rest : List S} {v : V} (hc : SC c nm n x loc st false st₁) (ha : SS c nm n b loc st₁ (.ret v) loc₁ st₂) : SS c nm n (.ite x a b p :: rest) loc st (.ret v) loc₁ st₂ :=
  ss_ret (x := .ite x a b p) rfl (sx_if_f hc ha)
theorem ss_for {i : Nat} {x : Str} {q p : Ps} {it : E} {body : List S} {xs : List V} {rest : List S} (hx : nm.ns[i]? = some x) (hi : SI c nm n it loc st xs st₁) (h : FEv c nm n i body xs loc st₁ .next loc₁ st₂) (hr : SS c nm n rest loc₁ st₂ fl loc₂ st₃) : SS c nm n (.for i x q it body p :: rest) loc st fl loc₂ st₃ :=
  ss_cons (x := .for i x q it body p) rfl (sx_for hx hi h) hr
theorem ss_forr {i : Nat} {x : Str} {q p : Ps} {it : E} {body : List S} {xs : List V} {rest : List S} {v : V} (hx : nm.ns[i]? = some x) (hi : SI c nm n it loc st xs st₁) (h : FEv c nm n i body xs loc st₁ (.ret v) loc₁ st₂) : SS c nm n (.for i x q it body p :: rest) loc st (.ret v) loc₁ st₂ :=
  ss_ret (x := .for i x q it body p) rfl (sx_for hx hi h)
theorem ss_while {x : C} {body : List S} {p : Ps} {k : Nat} {rest : List S} (h : WEv c nm n x body k loc st .next loc₁ st₁) (hr : SS c nm n rest loc₁ st₁ fl loc₂ st₂) : SS c nm n (.while x body p :: rest) loc st fl loc₂ st₂ :=
  ss_cons (x := .while x body p) rfl (sx_while h) hr
theorem ss_whiler {x : C} {body : List S} {p : Ps} {k : Nat} {rest : List S} {v : V} (h : WEv c nm n x body k loc st (.ret v) loc₁ st₁) : SS c nm n (.while x body p :: rest) loc st (.ret v) loc₁ st₁ :=
  ss_ret (x := .while x body p) rfl (sx_while h)
theorem ss_app {i : Nat} {x : Str} {xp ap cp p : Ps} {e : E} {xs : List V} {v : V} {rest : List S} (hx : nm.ns[i]? = some x) (hl : loc[i]? = some (.own xs)) (hd : (x == ("__debug__" : Str)) = false) (he : SE c nm n e loc st v st₁) (hline : (ap.endLine == cp.line) = true) (hz : xs.length ≤ 1000000) (hr : SS c nm n rest (loc.set i (.own (xs ++ [v]))) st₁ fl loc₂ st₂) :
    SS c nm n (.append i x xp ap e cp p :: rest) loc st fl loc₂ st₂ :=
  ss_cons (x := .append i x xp ap e cp p) rfl (sx_append hx hl hd he hline hz) hr
theorem ss_del {i : Nat} {x : Str} {xp sp p : Ps} {e : E} {xs : List V} {y : V} {k : Nat} {rest : List S} (hx : nm.ns[i]? = some x) (hl : loc[i]? = some (.own xs)) (hd : (x == ("__debug__" : Str)) = false) (he : SE c nm n e loc st y st₁) (hy : y.iv c = some (k : Int)) (hk : xs.length = k + 1) (hz : xs.length ≤ 1000000) (hr : SS c nm n rest (loc.set i (.own (xs.take k))) st₁ fl loc₂ st₂) :
    SS c nm n (.del i x xp e sp p :: rest) loc st fl loc₂ st₂ :=
  ss_cons (x := .del i x xp e sp p) rfl (sx_del hx hl hd he hy hk hz) hr
theorem ss_assignC {i : Nat} {y : Str} {py p' : Ps} {elt it : E} {sc : Scope} {x : Str} {q p : Ps} {cs : List Nat} {cn : List Str} {xs ys : List V} {rest : List S} (hy : nm.ns[i]? = some y) (hl : y ∈ nm.ls) (hline : (py.line == p.line) = true) (hno : (sc.names.any fun (z : Str × NameKind) => z.1 == y && (z.2 == .local || z.2 == .cell)) = false)
    (ok : CompOk nm nm' sc x cs cn) (hcap : ∀ j ∈ cs, ∃ v, loc[j]? = some (.v v)) (hi : SI c nm n it loc st xs st₁) (ev : CEv c nm' n elt (capV loc cs) xs st₁ ys st₂) (hr : SS c nm n rest (loc.set i (.v (.list ys))) st₂ fl loc₂ st₃) :
    SS c nm n (.assign i y py (.comp elt cs x q it sc p) p' :: rest) loc st fl loc₂ st₃ :=
  ss_cons (x := .assign i y py (.comp elt cs x q it sc p) p') rfl (sx_assignC hy hl hline hno ok hcap hi ev) hr

/-- the script -/
theorem Wd.scr {g : Gh} {h : Heap} (W : Wd c g st h) : h.IsList c.scr c.sws.toArray := by
  obtain ⟨o, e, r⟩ := c.hscr
  exact ⟨o, (W.base _ _ e).1, r⟩
theorem ints_get {ws : List Value} {ns : List Int} (h : IntsAre ws ns) {k : Nat} {i : Int} (e : ns[k]? = some i) : ∃ t, ws[k]? = some (.int i t) := by
  induction h generalizing k with
  | nil => cases e
  | cons =>
    rename_i ih
    cases k with
    | zero => cases e; exact ⟨_, rfl⟩
    | succ k => exact ih e
theorem blt_lenS (hz : c.sns.length ≤ 1000000) : SBlt c n (.builtin "len") [.scr] st (.int c.sns.length) st := fun A g s ws Q Ex r W R P => by
  cases R with
  | cons R1 R0 =>
    cases R0
    cases R1
    have hl := W.scr
    refine len_list hl (by rw [List.size_toArray, c.hsns.length]; omega) ?_
    rw [List.size_toArray, c.hsns.length]
    exact P.here W (.int _ _)
theorem sE_idxS {a b : E} {p : Ps} {k : Nat} {y : V} {i : Int} (ha : SE c nm n a loc st .scr st₁) (hb : SE c nm n b loc st₁ y st₂) (hy : y.iv c = some (k : Int)) (hx : c.sns[k]? = some i) (hz : c.sns.length ≤ 1000000) : SE c nm n (.idx a b p) loc st (.int i) st₂ := fun A env g s Q Ex r eo W L P => by
  show wpAny _ _ (eval (.Subscript a.py b.py p) env) Q Ex s
  refine Subscript_ (ha A env g s _ Ex r eo W L fun wa h₁ t₁ g₁ G₁ W₁ R₁ => ?_)
  refine hb A env g₁ _ _ Ex r eo W₁ (L.gro W G₁) fun wb h₂ t₂ g₂ G₂ W₂ R₂ => ?_
  obtain ⟨t, rfl⟩ := R₂.iv hy
  cases R₁
  have hl : Heap.IsList h₂ c.scr c.sws.toArray := W₂.scr
  obtain ⟨t', hw⟩ := ints_get c.hsns hx
  have hk := (List.getElem?_eq_some_iff.mp hx).1
  exact tail_any (s := { s with heap := h₂, toks := t₂ }) hl.typeIs slot_list_getitem.lookup (wpAny_getItem_list hl (by omega) (by omega) (by rw [Int.toNat_natCast, List.getElem?_toArray]; exact hw) (P _ h₂ t₂ g₂ (G₁.trans G₂) W₂ (.int _ _))) (py_sub b _ _)
theorem fn_code {pg : Pg} (P : PgOk c pg) {k np : Nat} {pad : List LV} {body : List S} {vs : List V} {v : V} (hk : pg.fns k = some (.ast np pad nm body)) (hl : vs.length = np) (h : SS c nm n body (locInit nm vs) st fl loc st₂) (hv : FlV fl v) : SCode c (n + 1) (pg.addr k) vs st v st₂ := by
  obtain ⟨d, hf⟩ := P.ast k np pad nm body hk
  rcases hf with hf | hf
  · exact sCode_fn hf hl h hv
  · exact sCode_fnC hf hl h hv
theorem fn_ok {pg : Pg} (P : PgOk c pg) {k : Nat} {x : Str} (hx : pg.gname k = some x) (gl : x ∈ nm.gs) : FnOk c nm x (pg.addr k) :=
  let ⟨a1, a2, a3⟩ := P.fn k x hx; ⟨gl, a1, a2, a3⟩
theorem SCode.mono {a : Addr} {vs : List V} {v : V} (h : SCode c n a vs st v st₁) {m : Nat} (hm : n ≤ m) : SCode c m a vs st v st₁ := fun A g s ws R r W RR P => h A g s ws R ⟨r.hd, (by have := r.dep; omega), (by have := r.uni; omega)⟩ W RR P
/-- an int that is a key, a value -/
theorem se_key {e : E} {i : Nat} {k : Int} (h : SE c nm n e loc st (.int k) st₁) (hk : k = c.kv i) : SE c nm n e loc st (.key i) st₁ := fun A env g s Q Ex r eo W L P => h A env g s Q Ex r eo W L fun w h₁ t₁ g₁ G₁ W₁ R₁ => by
  subst hk
  cases R₁ with
  | int _ t => exact P _ h₁ t₁ g₁ G₁ W₁ (.key i t)
theorem se_val {e : E} {i : Nat} {k : Int} (h : SE c nm n e loc st (.int k) st₁) (hk : k = c.vv i) : SE c nm n e loc st (.val i) st₁ := fun A env g s Q Ex r eo W L P => h A env g s Q Ex r eo W L fun w h₁ t₁ g₁ G₁ W₁ R₁ => by
  subst hk
  cases R₁ with
  | int _ t => exact P _ h₁ t₁ g₁ G₁ W₁ (.val i t)
end
end Mine

namespace Mine
open PySem PySem.W PySem.Calls PyProof.Rows
section
variable {c : Cn} {nm : Nm} {n : Nat} {loc loc₁ loc₂ : List LV} {st st₁ st₂ : List Inst} {fl : Fl}

theorem getO {i : Nat} {lv : LV} (h : loc[i]? = some lv) : i < loc.length := (List.getElem?_eq_some_iff.mp h).1
/-- len(x) - 1, x an owned list that is not empty -/
theorem sE_last {i : Nat} {x y : Str} {p1 p2 p3 p4 p5 : Ps} {S : List V} {v : V} (bt : BtOk c nm x (.builtin "len")) (hx : nm.ns[i]? = some y) (hl : loc[i]? = some (.own (S ++ [v]))) (hd : (y == ("__debug__" : Str)) = false) (hz : S.length < 1000000) :
    SE c nm n (.bin .sub (.call .len x p1 [.loc i y p2] p3) (.int 1 p4) p5) loc st (.int (S.length : Int)) st := by
  have h := sE_bin (p := p5) (sE_lenO (q := p1) (p := p3) (p' := p2) (n := n) (st := st) bt hx hl hd (by rw [List.length_append]; simp; omega)) (sE_int (i := 1) (p := p4)) (bin_sub rfl rfl)
  have e : (((S ++ [v]).length : Nat) : Int) - 1 = (S.length : Int) := by rw [List.length_append]; simp
  rw [e] at h
  exact h
/-- y = x[len(x) - 1]; del x[len(x) - 1] -/
theorem ss_pop {i j : Nat} {x y L : Str} {a1 a2 a3 a4 a5 a6 a7 a8 a9 b1 b2 b3 b4 b5 b6 b7 b8 : Ps} {S : List V} {v : V} {rest : List Mine.S} (bt : BtOk c nm L (.builtin "len")) (hx : nm.ns[i]? = some x) (hy : nm.ns[j]? = some y) (hij : j ≠ i) (hl : loc[i]? = some (.own (S ++ [v]))) (hd : (x == ("__debug__" : Str)) = false) (hz : S.length < 1000000)
    (hr : SS c nm n rest ((loc.set j (.v v)).set i (.own S)) st fl loc₂ st₂) :
    SS c nm n (.assign j y a1 (.idx (.loc i x a2) (.bin .sub (.call .len L a3 [.loc i x a4] a5) (.int 1 a6) a7) a8) a9 :: .del i x b1 (.bin .sub (.call .len L b2 [.loc i x b3] b4) (.int 1 b5) b6) b7 b8 :: rest) loc st fl loc₂ st₂ := by
  refine ss_assign (st₁ := st) (v := v) hy (sE_idxO (k := S.length) (z := .int (S.length : Int)) hx hl hd (sE_last bt hx hl hd hz) rfl ?_ ?_) rfl ?_
  · rw [List.getElem?_append_right (Nat.le_refl _), Nat.sub_self]; rfl
  · rw [List.length_append]; simp; omega
  · have hl' : (loc.set j (.v v))[i]? = some (.own (S ++ [v])) := by rw [List.getElem?_set_ne hij]; exact hl
    refine ss_del (st₁ := st) (y := .int (S.length : Int)) (k := S.length) hx hl' hd (sE_last bt hx hl' hd hz) rfl ?_ ?_ ?_
    · rw [List.length_append]; rfl
    · rw [List.length_append]; simp; omega
    · rw [List.take_left]
      exact hr
/-- len(x) > 0 -/
theorem sC_more {i : Nat} {x L : Str} {a1 a2 a3 a4 a5 : Ps} {S : List V} (bt : BtOk c nm L (.builtin "len")) (hx : nm.ns[i]? = some x) (hl : loc[i]? = some (.own S)) (hd : (x == ("__debug__" : Str)) = false) (hz : S.length ≤ 1000000) :
    SC c nm n (.cmp .gt (.call .len L a1 [.loc i x a2] a3) (.int 0 a4) a5) loc st (decide ((0 : Int) < (S.length : Int))) st :=
  sC_cmp (sE_lenO bt hx hl hd hz) sE_int (cmp_gt rfl rfl)
theorem sC_more_t {i : Nat} {x L : Str} {a1 a2 a3 a4 a5 : Ps} {S : List V} {v : V} (bt : BtOk c nm L (.builtin "len")) (hx : nm.ns[i]? = some x) (hl : loc[i]? = some (.own (S ++ [v]))) (hd : (x == ("__debug__" : Str)) = false) (hz : S.length < 1000000) :
    SC c nm n (.cmp .gt (.call .len L a1 [.loc i x a2] a3) (.int 0 a4) a5) loc st true st := by
  have h := sC_more (n := n) (st := st) (a1 := a1) (a2 := a2) (a3 := a3) (a4 := a4) (a5 := a5) bt hx hl hd (by rw [List.length_append]; simp; omega)
  rw [decide_eq_true (by rw [List.length_append, List.length_singleton]; omega)] at h
  exact h
theorem sC_more_f {i : Nat} {x L : Str} {a1 a2 a3 a4 a5 : Ps} (bt : BtOk c nm L (.builtin "len")) (hx : nm.ns[i]? = some x) (hl : loc[i]? = some (.own [])) (hd : (x == ("__debug__" : Str)) = false) :
    SC c nm n (.cmp .gt (.call .len L a1 [.loc i x a2] a3) (.int 0 a4) a5) loc st false st :=
  sC_more (S := []) bt hx hl hd (by simp)
/-- for y in ..: x.append(e), e's value f y -/
theorem fe_push {i j : Nat} {x : Str} {a1 a2 a3 a4 : Ps} {e : E} (f : V → V) (hx : nm.ns[i]? = some x) (hij : j ≠ i) (hd : (x == ("__debug__" : Str)) = false) (hline : (a2.endLine == a3.line) = true) :
    ∀ (ys S : List V) (loc : List LV), loc[i]? = some (.own S) → j < loc.length → S.length + ys.length ≤ 1000000 → (∀ y ∈ ys, ∀ S', SE c nm n e ((loc.set i (.own S')).set j (.v y)) st (f y) st) →
      ∃ lv, FEv c nm n j [.append i x a1 a2 e a3 a4] ys loc st .next ((loc.set i (.own (S ++ ys.map f))).set j lv) st := by
  intro ys
  induction ys with
  | nil =>
    intro S loc hl hj hz he
    have hi := getO hl
    refine ⟨loc[j], ?_⟩
    have e1 : loc.set i (.own (S ++ [].map f)) = loc := by
      rw [List.map_nil, List.append_nil]
      apply List.ext_getElem?
      intro k
      by_cases hk : k = i
      · subst hk; rw [List.getElem?_set_self hi, hl]
      · rw [List.getElem?_set_ne (Ne.symm hk)]
    have e2 : loc.set j loc[j] = loc := List.set_getElem_self hj
    rw [e1, e2]
    exact .nil
  | cons y ys ih =>
    intro S loc hl hj hz he
    have hi := getO hl
    have hS : loc.set i (.own S) = loc := by
      apply List.ext_getElem?
      intro k
      by_cases hk : k = i
      · subst hk; rw [List.getElem?_set_self hi, hl]
      · rw [List.getElem?_set_ne (Ne.symm hk)]
    have h1 : SS c nm n [.append i x a1 a2 e a3 a4] (loc.set j (.v y)) st .next ((loc.set j (.v y)).set i (.own (S ++ [f y]))) st := by
      refine ss_app (st₁ := st) hx (by rw [List.getElem?_set_ne hij]; exact hl) hd ?_ hline (by simp at hz; omega) ss_nil
      have := he y (.head _) S
      rw [hS] at this
      exact this
    obtain ⟨lv, ev⟩ := ih (S ++ [f y]) ((loc.set j (.v y)).set i (.own (S ++ [f y]))) (by rw [List.getElem?_set_self (by rw [List.length_set]; exact hi)]) (by rw [List.length_set, List.length_set]; exact hj) (by rw [List.length_append]; simp at hz ⊢; omega) (fun z hz' S' => by
      have := he z (.tail _ hz') S'
      rw [List.set_set]
      have e3 : ((loc.set j (.v y)).set i (.own S')).set j (.v z) = (loc.set i (.own S')).set j (.v z) := by
        rw [List.set_comm _ _ hij, List.set_set]
      rw [e3]
      exact this)
    refine ⟨lv, .cons h1 ?_⟩
    have e4 : ((((loc.set j (.v y)).set i (.own (S ++ [f y]))).set i (.own (S ++ [f y] ++ ys.map f))).set j lv) = (loc.set i (.own (S ++ (y :: ys).map f))).set j lv := by
      rw [List.set_set, List.set_comm _ _ hij, List.set_set, List.map_cons, List.append_assoc]; rfl
    rw [e4] at ev
    exact ev
end
end Mine

namespace Mine
open PySem PySem.W PySem.Calls PyProof.Rows
section
variable {c : Cn} {nm : Nm} {n : Nat} {loc loc₁ loc₂ : List LV} {st st₁ st₂ : List Inst} {fl : Fl}

theorem DObj.map {g : Gh} {h h1 : Heap} {o : Obj} {a : Addr} {f : Int → Option V} {k : Nat} (x : DObj c g h o f k) (e : h1.get? a = some o) : ∃ fw, h1.MapOf (intKind c.prog c.w) a fw ∧ h1.DictLe a k ∧ ∀ i, OR c g h (f i) (fw i) := by
  obtain ⟨es, ep, fw, d, ks, fb, sz, r⟩ := x.dat
  refine ⟨fw, ⟨o, es, ep, e, x.ex, d, ks, fb⟩, fun o' es' ep' e' d' => ?_, r⟩
  rw [e] at e'; cases e'; rw [d] at d'; cases d'; exact sz
theorem DObj.of {g : Gh} {h : Heap} {a : Addr} {f : Int → Option V} {k : Nat} {fw : Int → Option Value} (m : h.MapOf (intKind c.prog c.w) a fw) (l : h.DictLe a k) (r : ∀ i, OR c g h (f i) (fw i)) : ∃ o, h.get? a = some o ∧ DObj c g h o f k := by
  obtain ⟨o, es, ep, e, ex, d, ks, fb⟩ := m
  exact ⟨o, e, ex, es, ep, fw, d, ks, fb, l o es ep e d, r⟩
/-- a dict's store, with its size -/
theorem dictSet_le {prog : Program} {w : World} {A : Around} {E : Value → Shared → Prop} {s : Shared} {d : Addr} {f : Int → Option Value} {k : Int} {t : Tok} {v : Value} {Q : Unit → Shared → Prop} {n : Nat} (hm : s.heap.MapOf (intKind prog w) d f) (hz : s.heap.DictLe d n) (hn : n ≤ sizeLine)
    (hQ : ∀ h', h'.MapOf (intKind prog w) d (fun x => if x = k then some v else f x) → h'.DictLe d (n + 1) → Heap.SameBut d s.heap h' → Q () { s with heap := h', toks := s.toks + 1 }) :
    wpAny (model prog w) A (dictSet d (.int k t) v) Q E s := by
  have hkey := intKind_is prog w k t
  obtain ⟨o, es, ep, ho, hc, hd, hk, hf⟩ := hm
  have hes : es.size ≤ n := hz _ _ _ ho hd
  unfold dictSet
  try with_reducible refine wpAny_holding ?_
  refine wpAny_bind ((intKind prog w).pyHash hkey ?_)
  unfold dictSetHashed
  try with_reducible refine wpAny_holding ?_
  refine wpAny_bind (wpAny_dictFind_of (s := { s with toks := s.toks + 1 }) hkey ho hd hk ?_)
  cases hi : es.findIdx? fun e => (intKind prog w).is k e.key with
  | some i =>
    refine wpAny_bind (wpAny_rule (wpAny_bind (wpAny_updateDict (s := { s with toks := s.toks + 1 }) ho hd (wpAny_point (hQ _ ⟨_, _, ep, Heap.get?_update_self _ ho (Obj.isFreed_of_dict (Obj.data_mapDict hd _)),
      hc.mapDict _, Obj.data_mapDict hd _, hk.modify _ _, fun x => ?_⟩ (fun o' es' ep' ho' hd' => ?_) (Heap.SameBut.update ..))))))
    · rw [findBy_modify (intKind prog w).is (intKind prog w).inj es k x v i hi, hf]
    · rw [Heap.get?_update_self _ ho (Obj.isFreed_of_dict (Obj.data_mapDict hd _))] at ho'
      cases ho'
      rw [Obj.data_mapDict hd _] at hd'
      cases hd'
      simp only [Array.size_modify]; omega
  | none =>
    refine wpAny_bind (wpAny_rule (wpAny_updateDictKeys (hz := Nat.le_trans hes hn) (s := { s with toks := s.toks + 1 }) ho hd (hQ _ ⟨_, _, ep + 1, Heap.get?_update_self _ ho (Obj.isFreed_of_dict (Obj.data_mapDictKeys hd _)),
      hc.mapDictKeys _, Obj.data_mapDictKeys hd _, hk.push hkey _, fun x => ?_⟩ (fun o' es' ep' ho' hd' => ?_) (Heap.SameBut.update ..))))
    · rw [findBy_push (intKind prog w).is es k x _ _ v (KeyKind.is_eq_decide hkey) hi, hf]
    · rw [Heap.get?_update_self _ ho (Obj.isFreed_of_dict (Obj.data_mapDictKeys hd _))] at ho'
      cases ho'
      rw [Obj.data_mapDictKeys hd _] at hd'
      cases hd'
      simp only [Array.size_push]; omega
theorem setItem_le {prog : Program} {w : World} {A : Around} {E : Value → Shared → Prop} {s : Shared} {d : Addr} {f : Int → Option Value} {k : Int} {t : Tok} {v : Value} {Q : Unit → Shared → Prop} {n : Nat} (hm : s.heap.MapOf (intKind prog w) d f) (hz : s.heap.DictLe d n) (hn : n ≤ sizeLine)
    (hQ : ∀ h', h'.MapOf (intKind prog w) d (fun x => if x = k then some v else f x) → h'.DictLe d (n + 1) → Heap.SameBut d s.heap h' → Q () { s with heap := h', toks := s.toks + 1 }) :
    wpAny (model prog w) A (setItem (.ref d) (.int k t) v) Q E s := by
  unfold setItem
  try with_reducible refine wpAny_holding ?_
  refine wpAny_bind (wpAny_sequenceKey hm.typeIs (by decide) ?_)
  refine wpAny_bind (wpAny_callSpecial?_slot (name := Str.ofString "__setitem__") hm.typeIs slot_dict_setitem
    (wpAny_call_entry slot_dict_setitem hm.typeIs entry_dict_setitem ?_ (args_dict_setitem _ _ _)))
  show wpAny _ _ (Builtin.Dict.notOrdered "__setitem__" ⟨[.ref d, .int k t, v], []⟩ >>= _) _ _ s
  refine wpAny_bind (wpAny_notOrdered_dict hm.typeIs ?_)
  show wpAny _ _ (dictSet d (.int k t) v >>= _) _ _ s
  exact wpAny_bind (dictSet_le hm hz hn fun h' hm' hz' hs' => wpAny_pure ⟨.none, rfl, wpAny_pure (hQ h' hm' hz' hs')⟩)
/-- an owned dict's object is changed -/
theorem Fs.mutD {env : Env} {h₀ h h' : Heap} {oa : Nat → Addr} {g : Gh} (F : Fs c nm env h₀ oa g h loc) {i : Nat} {x : Str} {f f' : Int → Option V} {k k' : Nat} {o : Obj} (hx : nm.ns[i]? = some x) (hl : loc[i]? = some (.dct f k)) (S : Heap.SameBut (oa i) h h')
    (e : h'.get? (oa i) = some o) (R : DObj c g h' o f' k') (Mi : g.M (oa i)) : Fs c nm env h₀ oa g h' (loc.set i (.dct f' k')) := by
  have hi : i < loc.length := by rw [F.len]; exact (List.getElem?_eq_some_iff.mp hx).1
  cases F.slots i x _ hx hl with
  | dct r0 e0 m0 d0 n0 z0 l0 q0 =>
    obtain ⟨m, hm⟩ := F.ns
    have hL : env.locals ≠ oa i := Ne.symm l0
    have reach : ∀ z u, Reach g env h z u → Reach g env h' z u := fun z u r => by
      cases r with
      | loc m2 k2 n2 d2 e2 => exact .loc m2 k2 (ns_at n2 fun o ho => (S.2 _ hL).trans ho) d2 e2
      | cell b k2 l2 d2 e2 => exact .cell b k2 l2 d2 (cell_at e2 fun o ho => (S.2 _ (Ne.symm (q0.neC e0 e2))).trans ho)
    refine ⟨F.eo, F.nd, by rw [List.length_set]; exact F.len, fun j z lv hz hl' => ?_, ⟨m, ns_at hm fun o ho => (S.2 _ hL).trans ho⟩, F.LM, F.Lδ, F.L0, fun z hz => ?_, F.cinj, fun j kk y z h1 h2 o1 o2 e' => ?_⟩
    · by_cases hj : j = i
      · subst hj
        rw [hx] at hz; cases hz
        rw [List.getElem?_set_self hi] at hl'; cases hl'
        exact .dct (reach _ _ r0) e Mi d0 n0 z0 l0 R
      · rw [List.getElem?_set_ne (Ne.symm hj)] at hl'
        cases F.slots j z lv hz hl' with
        | unset => exact .unset
        | v r q => exact .v (reach _ _ r) (q.ext Mi S.extBut)
        | own r e1 m' d n q => exact .own (reach _ _ r) ((S.2 _ fun z => hj (F.oinj j i _ _ hl' hl rfl rfl z)).trans e1) m' d n (q.ext Mi S.extBut)
        | dct r e1 m' d n z l q => exact .dct (reach _ _ r) ((S.2 _ fun z => hj (F.oinj j i _ _ hl' hl rfl rfl z)).trans e1) m' d n z l (q.ext Mi S.extBut)
    · rcases F.kinds z hz with k2 | ⟨k2, b, v2, l2, ce2, Mb, db, nb⟩
      · exact .inl k2
      · exact .inr ⟨k2, b, v2, l2, cell_at ce2 fun o ho => (S.2 _ (Ne.symm (q0.neC e0 ce2))).trans ho, Mb, db, nb⟩
    · have back : ∀ (j : Nat) (y : LV), (loc.set i (.dct f' k'))[j]? = some y → isOwn y = true → ∃ y', loc[j]? = some y' ∧ isOwn y' = true := fun j y q o => by
        by_cases hj : j = i
        · subst hj; exact ⟨_, hl, rfl⟩
        · rw [List.getElem?_set_ne (Ne.symm hj)] at q; exact ⟨y, q, o⟩
      obtain ⟨y', a1, a2⟩ := back j y h1 o1
      obtain ⟨z', b1, b2⟩ := back _ z h2 o2
      exact F.oinj j _ y' z' a1 b1 a2 b2 e'
/-- x = {} -/
theorem sx_dict0 {i : Nat} {x : Str} {q dp p : Ps} (hx : nm.ns[i]? = some x) (hz : ∃ o, c.hb.get? 3 = some o) : SX c nm n (.Assign [.Name x q] (.Dict [] [] dp) p) loc st .next (loc.set i (.dct (fun _ => none) 0)) st := fun A env g₀ h₀ oa g s Q Ex r G W F P => by
  refine wpAny_Assign_Name (wpAny_Dict_empty ?_) rfl
  have ha : s.heap.get? s.heap.objs.size = none := get_size s.heap
  have new : (s.heap.push { cls := .type "dict", data := .dict #[] }).get? s.heap.objs.size = some { cls := .type "dict", data := .dict #[] } := Heap.get?_push_size _ rfl
  have G₂ := Gro.mark (a := s.heap.objs.size) (h' := s.heap.push { cls := .type "dict", data := .dict #[] }) g ha (push_keep _)
  have W₂ := W.mark ha (push_keep _) ⟨_, new⟩
  have F₂ := F.gro W G₂
  have n0 := G.none ha
  have dδ : s.heap.objs.size ∉ g.δ := fun q => by
    obtain ⟨o, e⟩ := W.Mdom _ (W.Mδ _ q); rw [ha] at e; cases e
  have hsys : s.heap.objs.size ≠ sysModules := by
    obtain ⟨o, e⟩ := hz
    have hlt : (3 : Nat) < s.heap.objs.size := Heap.lt_size (W.base _ _ e).1
    intro hq
    have hq' : s.heap.objs.size = (1 : Nat) := hq
    omega
  have hloc : s.heap.objs.size ≠ env.locals := fun q => by
    obtain ⟨m, o, es, ep, e, _⟩ := F.ns
    rw [← q, ha] at e; cases e
  refine F₂.storeU (s := { s with heap := s.heap.push _, toks := _ }) W₂ (G.trans G₂) hx fun h' tk' G' W' F' rc kl ki sb => ?_
  have hi : i < loc.length := by rw [F.len]; exact (List.getElem?_eq_some_iff.mp hx).1
  have hset : (loc.set i LV.unset).set i (.dct (fun _ => none) 0) = loc.set i (.dct (fun _ => none) 0) := List.set_set ..
  rw [← hset] at P
  have new' : h'.get? s.heap.objs.size = some { cls := .type "dict", data := .dict #[] } := by
    obtain ⟨b, S, hb⟩ := sb
    refine (S.2 _ ?_).trans new
    rcases hb with rfl | ⟨z, hz', hk, hla⟩
    · exact hloc
    · rcases F₂.kinds z hz' with k | ⟨k, a, v, l, ce, Ma, da, na⟩
      · rw [hk] at k; cases k
      · rw [hla] at l; cases l
        rintro rfl
        obtain ⟨o, ho, hd⟩ := ce
        rw [new] at ho; cases ho; cases hd
  obtain ⟨o, eo, D⟩ := DObj.of (c := c) (g := g.add s.heap.objs.size) (h := s.heap.push { cls := .type "dict", data := .dict #[] }) (f := fun _ => none) (Heap.MapOf.new (knd := intKind c.prog c.w) s.heap) (Heap.DictLe.new s.heap) fun _ => .no
  rw [new] at eo; cases eo
  refine P .next h' tk' _ (lput i s.heap.objs.size oa) G' W' (F'.slot hx (.dct rc new' (.inr rfl) dδ n0 hsys hloc (D.mono (List.prefix_refl _) fun b o e m => ⟨ki b o e m, m⟩)) fun _ j y hy oy e => ?_) .next
  exfalso
  by_cases hj : j = i
  · subst hj; rw [List.getElem?_set_self hi] at hy; cases hy; cases oy
  · rw [List.getElem?_set_ne (Ne.symm hj)] at hy
    have hjl : j < nm.ns.length := by rw [← F.len]; exact (List.getElem?_eq_some_iff.mp hy).1
    cases y with
    | own ys =>
      cases F.slots j _ _ (List.getElem?_eq_getElem hjl) hy with
      | own r1 e1 m1 d1 n1 q1 => rw [e, ha] at e1; cases e1
    | dct f n =>
      cases F.slots j _ _ (List.getElem?_eq_getElem hjl) hy with
      | dct r1 e1 m1 d1 n1 z1 l1 q1 => rw [e, ha] at e1; cases e1
    | _ => cases oy
/-- x[k] = v -/
theorem sx_dictS {i : Nat} {x : Str} {xp sp p : Ps} {ek ev : E} {f : Int → Option V} {m : Nat} {k v : V} {ik : Int} (hx : nm.ns[i]? = some x) (hl : loc[i]? = some (.dct f m)) (hd : (x == ("__debug__" : Str)) = false) (hv : SE c nm n ev loc st v st₁) (hk : SE c nm n ek loc st₁ k st₂) (hki : k.iv c = some ik) (hm : m ≤ 1000) (hc : ev.nocomp = true) :
    SX c nm n (.Assign [.Subscript (.Name x xp) (E.py ek) sp] (E.py ev) p) loc st .next (loc.set i (.dct (fun j => if j = ik then some v else f j) (m + 1))) st₂ := fun A env g₀ h₀ oa g s Q Ex r G W F P => by
  refine wpAny_Assign_Subscript ?_ (py_swaps ev _ _ env hc)
  refine hv A env g s _ Ex r F.eo W F.le fun wv h₁ t₁ g₁ G₁ W₁ R₁ => ?_
  have F₁ := F.gro W G₁
  cases F.slots i x _ hx hl with
  | dct R e0 m0 d0 n0 z0 l0 q0 =>
    refine wpAny_Name (reach_load F.eo (R.gro G₁) ?_) hd
    refine hk A env g₁ _ _ Ex r F.eo W₁ F₁.le fun wk h₂ t₂ g₂ G₂ W₂ R₂ => ?_
    obtain ⟨t, rfl⟩ := R₂.iv hki
    have F₂ := F₁.gro W₁ G₂
    have G₁₂ := G₁.trans G₂
    have e2 := G₁₂.keep _ _ e0 d0
    have D₂ := q0.mono (g' := g₂) (h' := h₂) G₁₂.ρ (W.imm G₁₂)
    obtain ⟨fw, mp, le, rel⟩ := D₂.map e2
    refine setItem_le (s := { s with heap := h₂, toks := t₂ }) mp le (Nat.le_trans hm (by decide)) fun h' mp' le' S => ?_
    have M2 := (G₁₂.M _ _ e0).mpr m0
    have d2 : oa i ∉ g₂.δ := fun q => d0 (G₁₂.new _ _ e0 q)
    have Rv : RV c g₂ h' v wv := (R₁.gro W₁ G₂).ext M2 S.extBut
    obtain ⟨o', eo', D'⟩ := DObj.of (g := g₂) (f := fun j => if j = ik then some v else f j) mp' le' fun j => by
      show OR c g₂ h' (if j = ik then some v else f j) (if j = ik then some wv else fw j)
      split
      · exact .yes Rv
      · exact (rel j).mono (List.prefix_refl _) (imm_ext M2 S.extBut)
    exact P .next h' _ g₂ oa ((G.trans G₁₂).ext n0 S.extBut) (W₂.ext M2 d2 S.extBut ⟨_, eo'⟩) (F₂.mutD hx hl S eo' D' M2) .next
/-- x.get(k) -/
theorem sE_get {i f' : Nat} {x : Str} {xp q p : Ps} {ek : E} {f : Int → Option V} {m : Nat} {k : V} {ik : Int} (hx : nm.ns[i]? = some x) (hl : loc[i]? = some (.dct f m)) (hd : (x == ("__debug__" : Str)) = false) (hk : SE c nm n ek loc st k st₁) (hki : k.iv c = some ik) (hline : (q.endLine == p.line) = true) :
    SE c nm n (.meth (.loc i x xp) f' "get" q [ek] p) loc st ((f ik).getD .none) st₁ := fun A env g s Q Ex r eo W L P => by
  show wpAny _ _ (eval (.Call (.Attribute (.Name x xp) "get" q) [ek.py] [] p) env) Q Ex s
  have hs := star_py ek [] env
  have hb : backTo p (starEach [ek.py] env) = [(false, eval ek.py env)] := by rw [hs]; rfl
  refine wpAny_Call_method1_late rfl hline hb ?_
  cases L i x _ hx hl with
  | dct R e0 m0 d0 z0 q0 =>
    rename_i o a
    refine wpAny_Name (reach_load eo R ?_) hd
    obtain ⟨fw0, mp0, _, _⟩ := q0.map e0
    refine ⟨"dict", "dict.get", F.plainAttrs_dict, F.slot_dict_get, F.type_dict_get, mp0.typeIs, mp0.noDict, wpAny_dict_get1 (knd := intKind c.prog c.w) (by simpa using z0) ?_⟩
    refine hk A env g s _ Ex r eo W L fun wk h₁ t₁ g₁ G₁ W₁ R₁ => ?_
    obtain ⟨t, rfl⟩ := R₁.iv hki
    obtain ⟨fw, mp, _, rel⟩ := (q0.mono (g' := g₁) (h' := h₁) G₁.ρ (W.imm G₁)).map (G₁.keep _ _ e0 d0)
    refine ⟨ik, fw, intKind_is c.prog c.w ik t, mp, ?_⟩
    refine P _ h₁ _ g₁ G₁ W₁ ?_
    cases hf : f ik with
    | none =>
      have := rel ik
      rw [hf] at this
      generalize fw ik = y at this
      cases this
      exact .none
    | some v =>
      have := rel ik
      rw [hf] at this
      generalize fw ik = y at this
      cases this with
      | yes r => exact r
theorem RVs.rep {g : Gh} {h : Heap} {v : List V} {w : List Value} (x : RVs c g h v w) (k : Nat) : RVs c g h (List.replicate k v).flatten (List.replicate k w).flatten := by
  induction k with
  | zero => exact .nil
  | succ k ih => rw [List.replicate_succ, List.replicate_succ, List.flatten_cons, List.flatten_cons]; exact x.append ih
/-- list * int -/
theorem bin_rep {xs : List V} {b : V} {k : Nat} (hb : b.iv c = some (k : Int)) (hz : xs.length * k ≤ 1000000) (hk : k ≤ 1000000) : BinOk c n .mul (.list xs) b (.list (List.replicate k xs).flatten) := fun A g s st x y Q Ex r W R S P => by
  generalize hx : (k : Int) = x at hb
  have hxk : x.toNat = k := by rw [← hx]; exact Int.toNat_natCast k
  obtain ⟨u, rfl⟩ := S.iv hb
  cases R with
  | list e m rr =>
    rename_i l ws kk
    have hsz' : ws.toArray.size * x.toNat ≤ 2 ^ 24 := by rw [List.size_toArray, rr.length, hxk]; omega
    refine wpAny_binaryOp_repeat_ref (T := "list") (U := "int") (by decide) ⟨_, e, rfl⟩ (fun s' => typeIs_int s' x u) noFill_list_mul F.fills_int_mul F.slot_int_rmul repeat_list F.slot_int_index.lookup
      (call_meets F.slot_int_rmul (typeIs_int s x u) F.entry_int_rmul (F.args_int_rmul_2 _ _) (lm_int_rmul_list_any x u l ws.toArray kk none #[])
        ⟨e, rfl, ⟨_, e, rfl⟩, call_meets F.slot_list_mul ⟨_, e, rfl⟩ F.entry_list_mul (F.args_list_mul_2 _ _)
          (lm_list_mul_any l ws.toArray kk none #[] x u (by simp [Builtin.List.listFitsIndex]; omega) (by omega) (by simp [Builtin.List.listTooLong, sizeLine]; omega))
          ⟨e, ?_⟩⟩)
    rw [listMul_foldl_if, hxk]
    exact P.new W (RV.newList W (rr.rep k))
end
end Mine

namespace Mine
open PySem PySem.W PySem.Calls PyProof.Rows

/-- _law_cell -/
noncomputable def b0 : List S :=
 [.ite (.cmp .lt (.loc 1 "at" ⟨219, 7, 219, 9⟩) (.call .len "len" ⟨219, 12, 219, 15⟩ [(.loc 0 "script" ⟨219, 16, 219, 22⟩)] ⟨219, 12, 219, 23⟩) ⟨219, 7, 219, 23⟩) [.ret (.idx (.loc 0 "script" ⟨220, 15, 220, 21⟩) (.loc 1 "at" ⟨220, 22, 220, 24⟩) ⟨220, 15, 220, 25⟩) ⟨220, 8, 220, 25⟩] [] ⟨219, 4, 220, 25⟩,
   .ret (.loc 1 "at" ⟨221, 11, 221, 13⟩) ⟨221, 4, 221, 13⟩]
noncomputable def nm0 : Nm := ⟨["script", "at"], ["len"], [], ["script", "at"]⟩
noncomputable def f0 : Fn := .ast 2 [] nm0 b0

/-- _law_groups -/
noncomputable def b1 : List S :=
 [.assign 3 "many" ⟨223, 4, 223, 8⟩ (.call (.fn 0) "_law_cell" ⟨223, 11, 223, 20⟩ [(.loc 0 "script" ⟨223, 21, 223, 27⟩), (.int 5 ⟨223, 29, 223, 30⟩)] ⟨223, 11, 223, 31⟩) ⟨223, 4, 223, 31⟩,
   .ite (.cmp .eq (.loc 1 "height" ⟨224, 7, 224, 13⟩) (.int 0 ⟨224, 17, 224, 18⟩) ⟨224, 7, 224, 18⟩) [.ret (.list [(.list [(.bin .mod (.loc 3 "many" ⟨225, 17, 225, 21⟩) (.bin .mul (.int 2 ⟨225, 25, 225, 26⟩) (.loc 2 "t" ⟨225, 29, 225, 30⟩) ⟨225, 25, 225, 30⟩) ⟨225, 17, 225, 31⟩)] ⟨225, 16, 225, 32⟩)] ⟨225, 15, 225, 33⟩) ⟨225, 8, 225, 33⟩] [] ⟨224, 4, 225, 33⟩,
   .ite (.cmp .eq (.loc 1 "height" ⟨226, 7, 226, 13⟩) (.int 1 ⟨226, 17, 226, 18⟩) ⟨226, 7, 226, 18⟩) [.ret (.list [(.comp (.bin .add (.bin .sub (.loc 2 "t" ⟨227, 17, 227, 18⟩) (.int 1 ⟨227, 21, 227, 22⟩) ⟨227, 17, 227, 22⟩) (.bin .mod (.call (.fn 0) "_law_cell" ⟨227, 25, 227, 34⟩ [(.loc 1 "script" ⟨227, 35, 227, 41⟩), (.bin .add (.int 8 ⟨227, 43, 227, 44⟩) (.loc 0 "j" ⟨227, 47, 227, 48⟩) ⟨227, 43, 227, 48⟩)] ⟨227, 25, 227, 49⟩) (.bin .add (.loc 2 "t" ⟨227, 53, 227, 54⟩) (.int 1 ⟨227, 57, 227, 58⟩) ⟨227, 53, 227, 58⟩) ⟨227, 25, 227, 59⟩) ⟨227, 17, 227, 59⟩) [0, 2] "j" ⟨227, 64, 227, 65⟩ (.call .range "range" ⟨227, 69, 227, 74⟩ [(.bin .add (.int 1 ⟨227, 75, 227, 76⟩) (.bin .mod (.loc 3 "many" ⟨227, 79, 227, 83⟩) (.bin .sub (.int 6 ⟨227, 87, 227, 88⟩) (.loc 2 "t" ⟨227, 91, 227, 92⟩) ⟨227, 87, 227, 92⟩) ⟨227, 79, 227, 93⟩) ⟨227, 75, 227, 93⟩)] ⟨227, 69, 227, 94⟩) ⟨.function, [(".0", .local), ("j", .local), ("_law_cell", .globalImplicit), ("script", .free), ("t", .free)], false, false, []⟩ ⟨227, 16, 227, 95⟩)] ⟨227, 15, 227, 96⟩) ⟨227, 8, 227, 96⟩] [] ⟨226, 4, 227, 96⟩,
   .own 4 "groups" ⟨228, 4, 228, 10⟩ [] ⟨228, 13, 228, 15⟩ ⟨228, 4, 228, 15⟩,
   .for 5 "g" ⟨229, 8, 229, 9⟩ (.call .range "range" ⟨229, 13, 229, 18⟩ [(.bin .add (.int 1 ⟨229, 19, 229, 20⟩) (.bin .mod (.loc 3 "many" ⟨229, 23, 229, 27⟩) (.int 2 ⟨229, 30, 229, 31⟩) ⟨229, 23, 229, 31⟩) ⟨229, 19, 229, 31⟩)] ⟨229, 13, 229, 32⟩) [.assign 6 "leaves" ⟨230, 8, 230, 14⟩ (.bin .add (.int 2 ⟨230, 17, 230, 18⟩) (.bin .mod (.call (.fn 0) "_law_cell" ⟨230, 21, 230, 30⟩ [(.loc 0 "script" ⟨230, 31, 230, 37⟩), (.bin .add (.int 6 ⟨230, 39, 230, 40⟩) (.loc 5 "g" ⟨230, 43, 230, 44⟩) ⟨230, 39, 230, 44⟩)] ⟨230, 21, 230, 45⟩) (.int 2 ⟨230, 48, 230, 49⟩) ⟨230, 21, 230, 49⟩) ⟨230, 17, 230, 49⟩) ⟨230, 8, 230, 49⟩,
     .append 4 "groups" ⟨231, 8, 231, 14⟩ ⟨231, 8, 231, 21⟩ (.comp (.bin .add (.int 1 ⟨231, 23, 231, 24⟩) (.bin .mod (.call (.fn 0) "_law_cell" ⟨231, 27, 231, 36⟩ [(.loc 2 "script" ⟨231, 37, 231, 43⟩), (.bin .add (.bin .add (.int 8 ⟨231, 45, 231, 46⟩) (.bin .mul (.int 3 ⟨231, 49, 231, 50⟩) (.loc 1 "g" ⟨231, 53, 231, 54⟩) ⟨231, 49, 231, 54⟩) ⟨231, 45, 231, 54⟩) (.loc 0 "j" ⟨231, 57, 231, 58⟩) ⟨231, 45, 231, 58⟩)] ⟨231, 27, 231, 59⟩) (.int 2 ⟨231, 62, 231, 63⟩) ⟨231, 27, 231, 63⟩) ⟨231, 23, 231, 63⟩) [5, 0] "j" ⟨231, 68, 231, 69⟩ (.call .range "range" ⟨231, 73, 231, 78⟩ [(.loc 6 "leaves" ⟨231, 79, 231, 85⟩)] ⟨231, 73, 231, 86⟩) ⟨.function, [(".0", .local), ("j", .local), ("_law_cell", .globalImplicit), ("g", .free), ("script", .free)], false, false, []⟩ ⟨231, 22, 231, 87⟩) ⟨231, 8, 231, 88⟩ ⟨231, 8, 231, 88⟩] ⟨229, 4, 231, 88⟩,
   .freeze 4,
   .ret (.loc 4 "groups" ⟨232, 11, 232, 17⟩) ⟨232, 4, 232, 17⟩]
noncomputable def nm1 : Nm := ⟨["script", "height", "t", "many", "groups", "g", "leaves"], ["_law_cell", "range"], ["script", "t", "g"], ["height", "many", "groups", "leaves"]⟩
noncomputable def f1 : Fn := .ast 3 [.unset, .unset, .unset, .unset] nm1 b1

/-- _law_node -/
noncomputable def b2 : List S :=
 [.ret (.tup [(.call .tuple "tuple" ⟨234, 12, 234, 17⟩ [(.comp (.idx (.loc 0 "p" ⟨234, 19, 234, 20⟩) (.int 0 ⟨234, 21, 234, 22⟩) ⟨234, 19, 234, 23⟩) [] "p" ⟨234, 28, 234, 29⟩ (.loc 0 "part" ⟨234, 33, 234, 37⟩) ⟨.function, [(".0", .local), ("p", .local)], false, false, []⟩ ⟨234, 18, 234, 38⟩)] ⟨234, 12, 234, 39⟩), (.call .tuple "tuple" ⟨234, 41, 234, 46⟩ [(.comp (.idx (.loc 0 "p" ⟨234, 48, 234, 49⟩) (.int 1 ⟨234, 50, 234, 51⟩) ⟨234, 48, 234, 52⟩) [] "p" ⟨234, 57, 234, 58⟩ (.loc 0 "part" ⟨234, 62, 234, 66⟩) ⟨.function, [(".0", .local), ("p", .local)], false, false, []⟩ ⟨234, 47, 234, 67⟩)] ⟨234, 41, 234, 68⟩), (.loc 1 "kids" ⟨234, 70, 234, 74⟩)] 0 ⟨234, 11, 234, 75⟩) ⟨234, 4, 234, 75⟩]
noncomputable def nm2 : Nm := ⟨["part", "kids"], ["tuple"], [], ["part", "kids"]⟩
noncomputable def f2 : Fn := .ast 2 [] nm2 b2

/-- _law_branch -/
noncomputable def b3 : List S :=
 [.assign 3 "kids" ⟨236, 4, 236, 8⟩ (.tup [] 0 ⟨236, 11, 236, 13⟩) ⟨236, 4, 236, 13⟩,
   .own 4 "seps" ⟨237, 4, 237, 8⟩ [] ⟨237, 11, 237, 13⟩ ⟨237, 4, 237, 13⟩,
   .for 5 "n" ⟨238, 8, 238, 9⟩ (.loc 2 "sizes" ⟨238, 13, 238, 18⟩) [.assign 3 "kids" ⟨239, 8, 239, 12⟩ (.bin .add (.loc 3 "kids" ⟨239, 15, 239, 19⟩) (.tup [(.call (.fn 2) "_law_node" ⟨239, 23, 239, 32⟩ [(.slice (.loc 0 "run" ⟨239, 33, 239, 36⟩) (some (.loc 1 "at" ⟨239, 37, 239, 39⟩)) (some (.bin .add (.loc 1 "at" ⟨239, 40, 239, 42⟩) (.loc 5 "n" ⟨239, 45, 239, 46⟩) ⟨239, 40, 239, 46⟩)) ⟨239, 37, 239, 46⟩ ⟨239, 33, 239, 47⟩), (.tup [] 0 ⟨239, 49, 239, 51⟩)] ⟨239, 23, 239, 52⟩)] 0 ⟨239, 22, 239, 54⟩) ⟨239, 15, 239, 54⟩) ⟨239, 8, 239, 54⟩,
     .append 4 "seps" ⟨240, 8, 240, 12⟩ ⟨240, 8, 240, 19⟩ (.idx (.loc 0 "run" ⟨240, 20, 240, 23⟩) (.bin .add (.loc 1 "at" ⟨240, 24, 240, 26⟩) (.loc 5 "n" ⟨240, 29, 240, 30⟩) ⟨240, 24, 240, 30⟩) ⟨240, 20, 240, 31⟩) ⟨240, 8, 240, 32⟩ ⟨240, 8, 240, 32⟩,
     .assign 1 "at" ⟨241, 8, 241, 10⟩ (.bin .add (.bin .add (.loc 1 "at" ⟨241, 13, 241, 15⟩) (.loc 5 "n" ⟨241, 18, 241, 19⟩) ⟨241, 13, 241, 19⟩) (.int 1 ⟨241, 22, 241, 23⟩) ⟨241, 13, 241, 23⟩) ⟨241, 8, 241, 23⟩] ⟨238, 4, 241, 23⟩,
   .freeze 4,
   .ret (.call (.fn 2) "_law_node" ⟨242, 11, 242, 20⟩ [(.slice (.loc 4 "seps" ⟨242, 21, 242, 25⟩) Option.none (some (.neg 1 ⟨242, 28, 242, 29⟩ ⟨242, 27, 242, 29⟩)) ⟨242, 26, 242, 29⟩ ⟨242, 21, 242, 30⟩), (.loc 3 "kids" ⟨242, 32, 242, 36⟩)] ⟨242, 11, 242, 37⟩) ⟨242, 4, 242, 37⟩]
noncomputable def nm3 : Nm := ⟨["run", "at", "sizes", "kids", "seps", "n"], ["_law_node"], [], ["run", "at", "sizes", "kids", "seps", "n"]⟩
noncomputable def f3 : Fn := .ast 3 [.unset, .unset, .unset] nm3 b3

/-- _law_blueprint -/
noncomputable def b4 : List S :=
 [.ite (.cmp .eq (.loc 1 "height" ⟨244, 7, 244, 13⟩) (.int 0 ⟨244, 17, 244, 18⟩) ⟨244, 7, 244, 18⟩) [.ret (.call (.fn 2) "_law_node" ⟨245, 15, 245, 24⟩ [(.slice (.loc 0 "run" ⟨245, 25, 245, 28⟩) Option.none (some (.idx (.idx (.loc 2 "groups" ⟨245, 30, 245, 36⟩) (.int 0 ⟨245, 37, 245, 38⟩) ⟨245, 30, 245, 39⟩) (.int 0 ⟨245, 40, 245, 41⟩) ⟨245, 30, 245, 42⟩)) ⟨245, 29, 245, 42⟩ ⟨245, 25, 245, 43⟩), (.tup [] 0 ⟨245, 45, 245, 47⟩)] ⟨245, 15, 245, 48⟩) ⟨245, 8, 245, 48⟩] [] ⟨244, 4, 245, 48⟩,
   .assign 3 "kids" ⟨246, 4, 246, 8⟩ (.tup [] 0 ⟨246, 11, 246, 13⟩) ⟨246, 4, 246, 13⟩,
   .own 4 "seps" ⟨247, 4, 247, 8⟩ [] ⟨247, 11, 247, 13⟩ ⟨247, 4, 247, 13⟩,
   .assign 5 "at" ⟨248, 4, 248, 6⟩ (.int 0 ⟨248, 9, 248, 10⟩) ⟨248, 4, 248, 10⟩,
   .for 6 "sizes" ⟨249, 8, 249, 13⟩ (.loc 2 "groups" ⟨249, 17, 249, 23⟩) [.assign 3 "kids" ⟨250, 8, 250, 12⟩ (.bin .add (.loc 3 "kids" ⟨250, 15, 250, 19⟩) (.tup [(.call (.fn 3) "_law_branch" ⟨250, 23, 250, 34⟩ [(.loc 0 "run" ⟨250, 35, 250, 38⟩), (.loc 5 "at" ⟨250, 40, 250, 42⟩), (.loc 6 "sizes" ⟨250, 44, 250, 49⟩)] ⟨250, 23, 250, 50⟩)] 0 ⟨250, 22, 250, 52⟩) ⟨250, 15, 250, 52⟩) ⟨250, 8, 250, 52⟩,
     .assign 5 "at" ⟨251, 8, 251, 10⟩ (.bin .add (.bin .add (.loc 5 "at" ⟨251, 13, 251, 15⟩) (.call .sum "sum" ⟨251, 18, 251, 21⟩ [(.loc 6 "sizes" ⟨251, 22, 251, 27⟩)] ⟨251, 18, 251, 28⟩) ⟨251, 13, 251, 28⟩) (.call .len "len" ⟨251, 31, 251, 34⟩ [(.loc 6 "sizes" ⟨251, 35, 251, 40⟩)] ⟨251, 31, 251, 41⟩) ⟨251, 13, 251, 41⟩) ⟨251, 8, 251, 41⟩,
     .append 4 "seps" ⟨252, 8, 252, 12⟩ ⟨252, 8, 252, 19⟩ (.idx (.loc 0 "run" ⟨252, 20, 252, 23⟩) (.bin .sub (.loc 5 "at" ⟨252, 24, 252, 26⟩) (.int 1 ⟨252, 29, 252, 30⟩) ⟨252, 24, 252, 30⟩) ⟨252, 20, 252, 31⟩) ⟨252, 8, 252, 32⟩ ⟨252, 8, 252, 32⟩] ⟨249, 4, 252, 32⟩,
   .ite (.cmp .eq (.loc 1 "height" ⟨253, 7, 253, 13⟩) (.int 1 ⟨253, 17, 253, 18⟩) ⟨253, 7, 253, 18⟩) [.ret (.idx (.loc 3 "kids" ⟨254, 15, 254, 19⟩) (.int 0 ⟨254, 20, 254, 21⟩) ⟨254, 15, 254, 22⟩) ⟨254, 8, 254, 22⟩] [] ⟨253, 4, 254, 22⟩,
   .freeze 4,
   .ret (.call (.fn 2) "_law_node" ⟨255, 11, 255, 20⟩ [(.slice (.loc 4 "seps" ⟨255, 21, 255, 25⟩) Option.none (some (.neg 1 ⟨255, 28, 255, 29⟩ ⟨255, 27, 255, 29⟩)) ⟨255, 26, 255, 29⟩ ⟨255, 21, 255, 30⟩), (.loc 3 "kids" ⟨255, 32, 255, 36⟩)] ⟨255, 11, 255, 37⟩) ⟨255, 4, 255, 37⟩]
noncomputable def nm4 : Nm := ⟨["run", "height", "groups", "kids", "seps", "at", "sizes"], ["_law_node", "_law_branch", "sum", "len"], [], ["run", "height", "groups", "kids", "seps", "at", "sizes"]⟩
noncomputable def f4 : Fn := .ast 3 [.unset, .unset, .unset, .unset] nm4 b4

/-- _law_build -/
noncomputable def b5 : List S :=
 [.own 1 "kids" ⟨257, 4, 257, 8⟩ [] ⟨257, 11, 257, 13⟩ ⟨257, 4, 257, 13⟩,
   .for 2 "kid" ⟨258, 8, 258, 11⟩ (.idx (.loc 0 "tree" ⟨258, 15, 258, 19⟩) (.int 2 ⟨258, 20, 258, 21⟩) ⟨258, 15, 258, 22⟩) [.assign 3 "low" ⟨259, 8, 259, 11⟩ (.comp (.call (.cls 0) "Node" ⟨259, 15, 259, 19⟩ [(.call .list "list" ⟨259, 20, 259, 24⟩ [(.idx (.loc 0 "x" ⟨259, 25, 259, 26⟩) (.int 0 ⟨259, 27, 259, 28⟩) ⟨259, 25, 259, 29⟩)] ⟨259, 20, 259, 30⟩), (.call .list "list" ⟨259, 32, 259, 36⟩ [(.idx (.loc 0 "x" ⟨259, 37, 259, 38⟩) (.int 1 ⟨259, 39, 259, 40⟩) ⟨259, 37, 259, 41⟩)] ⟨259, 32, 259, 42⟩), (.list [] ⟨259, 44, 259, 46⟩)] ⟨259, 15, 259, 47⟩) [] "x" ⟨259, 52, 259, 53⟩ (.idx (.loc 2 "kid" ⟨259, 57, 259, 60⟩) (.int 2 ⟨259, 61, 259, 62⟩) ⟨259, 57, 259, 63⟩) ⟨.function, [(".0", .local), ("x", .local), ("Node", .globalImplicit), ("list", .globalImplicit)], false, false, []⟩ ⟨259, 14, 259, 64⟩) ⟨259, 8, 259, 64⟩,
     .append 1 "kids" ⟨260, 8, 260, 12⟩ ⟨260, 8, 260, 19⟩ (.call (.cls 0) "Node" ⟨260, 20, 260, 24⟩ [(.call .list "list" ⟨260, 25, 260, 29⟩ [(.idx (.loc 2 "kid" ⟨260, 30, 260, 33⟩) (.int 0 ⟨260, 34, 260, 35⟩) ⟨260, 30, 260, 36⟩)] ⟨260, 25, 260, 37⟩), (.call .list "list" ⟨260, 39, 260, 43⟩ [(.idx (.loc 2 "kid" ⟨260, 44, 260, 47⟩) (.int 1 ⟨260, 48, 260, 49⟩) ⟨260, 44, 260, 50⟩)] ⟨260, 39, 260, 51⟩), (.loc 3 "low" ⟨260, 53, 260, 56⟩)] ⟨260, 20, 260, 57⟩) ⟨260, 8, 260, 58⟩ ⟨260, 8, 260, 58⟩] ⟨258, 4, 260, 58⟩,
   .freeze 1,
   .ret (.call (.cls 0) "Node" ⟨261, 11, 261, 15⟩ [(.call .list "list" ⟨261, 16, 261, 20⟩ [(.idx (.loc 0 "tree" ⟨261, 21, 261, 25⟩) (.int 0 ⟨261, 26, 261, 27⟩) ⟨261, 21, 261, 28⟩)] ⟨261, 16, 261, 29⟩), (.call .list "list" ⟨261, 31, 261, 35⟩ [(.idx (.loc 0 "tree" ⟨261, 36, 261, 40⟩) (.int 1 ⟨261, 41, 261, 42⟩) ⟨261, 36, 261, 43⟩)] ⟨261, 31, 261, 44⟩), (.loc 1 "kids" ⟨261, 46, 261, 50⟩)] ⟨261, 11, 261, 51⟩) ⟨261, 4, 261, 51⟩]
noncomputable def nm5 : Nm := ⟨["tree", "kids", "kid", "low"], ["Node", "list"], [], ["tree", "kids", "kid", "low"]⟩
noncomputable def f5 : Fn := .ast 1 [.unset, .unset, .unset] nm5 b5

/-- _law_head -/
noncomputable def b6 : List S :=
 [.ret (.bin .add (.bin .add (.bin .add (.list [(.call .len "len" ⟨263, 12, 263, 15⟩ [(.idx (.loc 0 "tree" ⟨263, 16, 263, 20⟩) (.int 0 ⟨263, 21, 263, 22⟩) ⟨263, 16, 263, 23⟩)] ⟨263, 12, 263, 24⟩)] ⟨263, 11, 263, 25⟩) (.call .list "list" ⟨263, 28, 263, 32⟩ [(.idx (.loc 0 "tree" ⟨263, 33, 263, 37⟩) (.int 0 ⟨263, 38, 263, 39⟩) ⟨263, 33, 263, 40⟩)] ⟨263, 28, 263, 41⟩) ⟨263, 11, 263, 41⟩) (.call .list "list" ⟨263, 44, 263, 48⟩ [(.idx (.loc 0 "tree" ⟨263, 49, 263, 53⟩) (.int 1 ⟨263, 54, 263, 55⟩) ⟨263, 49, 263, 56⟩)] ⟨263, 44, 263, 57⟩) ⟨263, 11, 263, 57⟩) (.list [(.call .len "len" ⟨263, 61, 263, 64⟩ [(.idx (.loc 0 "tree" ⟨263, 65, 263, 69⟩) (.int 2 ⟨263, 70, 263, 71⟩) ⟨263, 65, 263, 72⟩)] ⟨263, 61, 263, 73⟩)] ⟨263, 60, 263, 74⟩) ⟨263, 11, 263, 74⟩) ⟨263, 4, 263, 74⟩]
noncomputable def nm6 : Nm := ⟨["tree"], ["len", "list"], [], ["tree"]⟩
noncomputable def f6 : Fn := .ast 1 [] nm6 b6

/-- _law_flat -/
noncomputable def b7 : List S :=
 [.assign 1 "out" ⟨265, 4, 265, 7⟩ (.call (.fn 6) "_law_head" ⟨265, 10, 265, 19⟩ [(.loc 0 "tree" ⟨265, 20, 265, 24⟩)] ⟨265, 10, 265, 25⟩) ⟨265, 4, 265, 25⟩,
   .for 2 "kid" ⟨266, 8, 266, 11⟩ (.idx (.loc 0 "tree" ⟨266, 15, 266, 19⟩) (.int 2 ⟨266, 20, 266, 21⟩) ⟨266, 15, 266, 22⟩) [.assign 1 "out" ⟨267, 8, 267, 11⟩ (.bin .add (.loc 1 "out" ⟨267, 14, 267, 17⟩) (.call (.fn 6) "_law_head" ⟨267, 20, 267, 29⟩ [(.loc 2 "kid" ⟨267, 30, 267, 33⟩)] ⟨267, 20, 267, 34⟩) ⟨267, 14, 267, 34⟩) ⟨267, 8, 267, 34⟩,
     .for 3 "leaf" ⟨268, 12, 268, 16⟩ (.idx (.loc 2 "kid" ⟨268, 20, 268, 23⟩) (.int 2 ⟨268, 24, 268, 25⟩) ⟨268, 20, 268, 26⟩) [.assign 1 "out" ⟨269, 12, 269, 15⟩ (.bin .add (.loc 1 "out" ⟨269, 18, 269, 21⟩) (.call (.fn 6) "_law_head" ⟨269, 24, 269, 33⟩ [(.loc 3 "leaf" ⟨269, 34, 269, 38⟩)] ⟨269, 24, 269, 39⟩) ⟨269, 18, 269, 39⟩) ⟨269, 12, 269, 39⟩] ⟨268, 8, 269, 39⟩] ⟨266, 4, 269, 39⟩,
   .ret (.loc 1 "out" ⟨270, 11, 270, 14⟩) ⟨270, 4, 270, 14⟩]
noncomputable def nm7 : Nm := ⟨["tree", "out", "kid", "leaf"], ["_law_head"], [], ["tree", "out", "kid", "leaf"]⟩
noncomputable def f7 : Fn := .ast 1 [.unset, .unset, .unset] nm7 b7

/-- _law_spoilt -/
noncomputable def b8 : List S :=
 [.assign 7 "kind" ⟨272, 4, 272, 8⟩ (.bin .mod (.call (.fn 0) "_law_cell" ⟨272, 11, 272, 20⟩ [(.loc 0 "script" ⟨272, 21, 272, 27⟩), (.int 3 ⟨272, 29, 272, 30⟩)] ⟨272, 11, 272, 31⟩) (.int 6 ⟨272, 34, 272, 35⟩) ⟨272, 11, 272, 35⟩) ⟨272, 4, 272, 35⟩,
   .assign 8 "place" ⟨273, 4, 273, 9⟩ (.call (.fn 0) "_law_cell" ⟨273, 12, 273, 21⟩ [(.loc 0 "script" ⟨273, 22, 273, 28⟩), (.int 4 ⟨273, 30, 273, 31⟩)] ⟨273, 12, 273, 32⟩) ⟨273, 4, 273, 32⟩,
   .unpack [(9, "keys", ⟨274, 4, 274, 8⟩), (10, "values", ⟨274, 10, 274, 16⟩), (11, "kids", ⟨274, 18, 274, 22⟩)] 0 ⟨274, 4, 274, 22⟩ (.loc 5 "tree" ⟨274, 25, 274, 29⟩) ⟨274, 4, 274, 29⟩,
   .assign 12 "far" ⟨275, 4, 275, 7⟩ (.idx (.idx (.loc 2 "run" ⟨275, 10, 275, 13⟩) (.loc 6 "total" ⟨275, 14, 275, 19⟩) ⟨275, 10, 275, 20⟩) (.int 0 ⟨275, 21, 275, 22⟩) ⟨275, 10, 275, 23⟩) ⟨275, 4, 275, 23⟩,
   .ite (.cmp .eq (.loc 7 "kind" ⟨276, 7, 276, 11⟩) (.int 0 ⟨276, 15, 276, 16⟩) ⟨276, 7, 276, 16⟩) [.assign 13 "size" ⟨277, 8, 277, 12⟩ (.bin .mod (.loc 8 "place" ⟨277, 15, 277, 20⟩) (.bin .add (.loc 6 "total" ⟨277, 24, 277, 29⟩) (.int 2 ⟨277, 32, 277, 33⟩) ⟨277, 24, 277, 33⟩) ⟨277, 15, 277, 34⟩) ⟨277, 8, 277, 34⟩,
     .ite (.cmp .eq (.loc 13 "size" ⟨278, 11, 278, 15⟩) (.loc 6 "total" ⟨278, 19, 278, 24⟩) ⟨278, 11, 278, 24⟩) [.ret (.tup [(.call (.fn 5) "_law_build" ⟨279, 20, 279, 30⟩ [(.loc 5 "tree" ⟨279, 31, 279, 35⟩)] ⟨279, 20, 279, 36⟩), (.loc 13 "size" ⟨279, 38, 279, 42⟩), (.int 0 ⟨279, 44, 279, 45⟩)] 0 ⟨279, 19, 279, 46⟩) ⟨279, 12, 279, 46⟩] [] ⟨278, 8, 279, 46⟩,
     .ret (.tup [(.call (.fn 5) "_law_build" ⟨280, 16, 280, 26⟩ [(.loc 5 "tree" ⟨280, 27, 280, 31⟩)] ⟨280, 16, 280, 32⟩), (.loc 13 "size" ⟨280, 34, 280, 38⟩), (.int 4 ⟨280, 40, 280, 41⟩)] 0 ⟨280, 15, 280, 42⟩) ⟨280, 8, 280, 42⟩] [] ⟨276, 4, 280, 42⟩,
   .ite (.cmp .eq (.loc 7 "kind" ⟨281, 7, 281, 11⟩) (.int 1 ⟨281, 15, 281, 16⟩) ⟨281, 7, 281, 16⟩) [.ret (.tup [(.call (.fn 5) "_law_build" ⟨282, 16, 282, 26⟩ [(.tup [(.loc 9 "keys" ⟨282, 28, 282, 32⟩), (.bin .add (.loc 10 "values" ⟨282, 34, 282, 40⟩) (.tup [(.int 0 ⟨282, 44, 282, 45⟩)] 0 ⟨282, 43, 282, 47⟩) ⟨282, 34, 282, 47⟩), (.loc 11 "kids" ⟨282, 49, 282, 53⟩)] 0 ⟨282, 27, 282, 54⟩)] ⟨282, 16, 282, 55⟩), (.loc 6 "total" ⟨282, 57, 282, 62⟩), (.int 1 ⟨282, 64, 282, 65⟩)] 0 ⟨282, 15, 282, 66⟩) ⟨282, 8, 282, 66⟩] [] ⟨281, 4, 282, 66⟩,
   .ite (.cmp .eq (.loc 7 "kind" ⟨283, 7, 283, 11⟩) (.int 2 ⟨283, 15, 283, 16⟩) ⟨283, 7, 283, 16⟩) [.ret (.tup [(.call (.cls 0) "Node" ⟨284, 16, 284, 20⟩ [(.list [] ⟨284, 21, 284, 23⟩), (.list [] ⟨284, 25, 284, 27⟩), (.list [(.call (.cls 0) "Node" ⟨284, 30, 284, 34⟩ [(.list [] ⟨284, 35, 284, 37⟩), (.list [] ⟨284, 39, 284, 41⟩), (.list [(.call (.fn 5) "_law_build" ⟨284, 44, 284, 54⟩ [(.loc 5 "tree" ⟨284, 55, 284, 59⟩)] ⟨284, 44, 284, 60⟩)] ⟨284, 43, 284, 61⟩)] ⟨284, 30, 284, 62⟩)] ⟨284, 29, 284, 63⟩)] ⟨284, 16, 284, 64⟩), (.loc 6 "total" ⟨284, 66, 284, 71⟩), (.int 1 ⟨284, 73, 284, 74⟩)] 0 ⟨284, 15, 284, 75⟩) ⟨284, 8, 284, 75⟩] [] ⟨283, 4, 284, 75⟩,
   .ite (.cmp .eq (.loc 7 "kind" ⟨285, 7, 285, 11⟩) (.int 3 ⟨285, 15, 285, 16⟩) ⟨285, 7, 285, 16⟩) [.assign 14 "root" ⟨286, 8, 286, 12⟩ (.call (.fn 5) "_law_build" ⟨286, 15, 286, 25⟩ [(.tup [(.bin .add (.loc 9 "keys" ⟨286, 27, 286, 31⟩) (.tup [(.loc 12 "far" ⟨286, 35, 286, 38⟩)] 0 ⟨286, 34, 286, 40⟩) ⟨286, 27, 286, 40⟩), (.bin .add (.loc 10 "values" ⟨286, 42, 286, 48⟩) (.tup [(.int 0 ⟨286, 52, 286, 53⟩)] 0 ⟨286, 51, 286, 55⟩) ⟨286, 42, 286, 55⟩), (.loc 11 "kids" ⟨286, 57, 286, 61⟩)] 0 ⟨286, 26, 286, 62⟩)] ⟨286, 15, 286, 63⟩) ⟨286, 8, 286, 63⟩,
     .ite (.and [(.cmp .eq (.loc 3 "height" ⟨287, 11, 287, 17⟩) (.int 0 ⟨287, 21, 287, 22⟩) ⟨287, 11, 287, 22⟩), (.cmp .lt (.bin .add (.call .len "len" ⟨287, 27, 287, 30⟩ [(.loc 9 "keys" ⟨287, 31, 287, 35⟩)] ⟨287, 27, 287, 36⟩) (.int 1 ⟨287, 39, 287, 40⟩) ⟨287, 27, 287, 40⟩) (.bin .mul (.int 2 ⟨287, 43, 287, 44⟩) (.loc 1 "t" ⟨287, 47, 287, 48⟩) ⟨287, 43, 287, 48⟩) ⟨287, 27, 287, 48⟩)] ⟨287, 11, 287, 48⟩) [.ret (.tup [(.loc 14 "root" ⟨288, 20, 288, 24⟩), (.bin .add (.loc 6 "total" ⟨288, 26, 288, 31⟩) (.int 1 ⟨288, 34, 288, 35⟩) ⟨288, 26, 288, 35⟩), (.int 0 ⟨288, 37, 288, 38⟩)] 0 ⟨288, 19, 288, 39⟩) ⟨288, 12, 288, 39⟩] [] ⟨287, 8, 288, 39⟩,
     .ret (.tup [(.loc 14 "root" ⟨289, 16, 289, 20⟩), (.bin .add (.loc 6 "total" ⟨289, 22, 289, 27⟩) (.int 1 ⟨289, 30, 289, 31⟩) ⟨289, 22, 289, 31⟩), (.int 1 ⟨289, 33, 289, 34⟩)] 0 ⟨289, 15, 289, 35⟩) ⟨289, 8, 289, 35⟩] [] ⟨285, 4, 289, 35⟩,
   .ite (.cmp .eq (.loc 7 "kind" ⟨290, 7, 290, 11⟩) (.int 4 ⟨290, 15, 290, 16⟩) ⟨290, 7, 290, 16⟩) [.assign 15 "right" ⟨291, 8, 291, 13⟩ (.call (.cls 0) "Node" ⟨291, 16, 291, 20⟩ [(.comp (.bin .add (.bin .add (.loc 1 "far" ⟨291, 22, 291, 25⟩) (.int 1 ⟨291, 28, 291, 29⟩) ⟨291, 22, 291, 29⟩) (.loc 0 "j" ⟨291, 32, 291, 33⟩) ⟨291, 22, 291, 33⟩) [12] "j" ⟨291, 38, 291, 39⟩ (.call .range "range" ⟨291, 43, 291, 48⟩ [(.bin .sub (.loc 1 "t" ⟨291, 49, 291, 50⟩) (.int 1 ⟨291, 53, 291, 54⟩) ⟨291, 49, 291, 54⟩)] ⟨291, 43, 291, 55⟩) ⟨.function, [(".0", .local), ("j", .local), ("far", .free)], false, false, []⟩ ⟨291, 21, 291, 56⟩), (.bin .mul (.list [(.int 0 ⟨291, 59, 291, 60⟩)] ⟨291, 58, 291, 61⟩) (.bin .sub (.loc 1 "t" ⟨291, 65, 291, 66⟩) (.int 1 ⟨291, 69, 291, 70⟩) ⟨291, 65, 291, 70⟩) ⟨291, 58, 291, 71⟩), (.list [] ⟨291, 73, 291, 75⟩)] ⟨291, 16, 291, 76⟩) ⟨291, 8, 291, 76⟩,
     .assign 14 "root" ⟨292, 8, 292, 12⟩ (.call (.cls 0) "Node" ⟨292, 15, 292, 19⟩ [(.list [(.loc 12 "far" ⟨292, 21, 292, 24⟩)] ⟨292, 20, 292, 25⟩), (.list [(.int 0 ⟨292, 28, 292, 29⟩)] ⟨292, 27, 292, 30⟩), (.list [(.call (.fn 5) "_law_build" ⟨292, 33, 292, 43⟩ [(.loc 5 "tree" ⟨292, 44, 292, 48⟩)] ⟨292, 33, 292, 49⟩), (.loc 15 "right" ⟨292, 51, 292, 56⟩)] ⟨292, 32, 292, 57⟩)] ⟨292, 15, 292, 58⟩) ⟨292, 8, 292, 58⟩,
     .ite (.cmp .lt (.call .len "len" ⟨293, 11, 293, 14⟩ [(.loc 9 "keys" ⟨293, 15, 293, 19⟩)] ⟨293, 11, 293, 20⟩) (.bin .sub (.loc 1 "t" ⟨293, 23, 293, 24⟩) (.int 1 ⟨293, 27, 293, 28⟩) ⟨293, 23, 293, 28⟩) ⟨293, 11, 293, 28⟩) [.ret (.tup [(.loc 14 "root" ⟨294, 20, 294, 24⟩), (.bin .add (.loc 6 "total" ⟨294, 26, 294, 31⟩) (.loc 1 "t" ⟨294, 34, 294, 35⟩) ⟨294, 26, 294, 35⟩), (.int 1 ⟨294, 37, 294, 38⟩)] 0 ⟨294, 19, 294, 39⟩) ⟨294, 12, 294, 39⟩] [] ⟨293, 8, 294, 39⟩,
     .ite (.cmp .gt (.loc 3 "height" ⟨295, 11, 295, 17⟩) (.int 0 ⟨295, 20, 295, 21⟩) ⟨295, 11, 295, 21⟩) [.ret (.tup [(.loc 14 "root" ⟨296, 20, 296, 24⟩), (.bin .add (.loc 6 "total" ⟨296, 26, 296, 31⟩) (.loc 1 "t" ⟨296, 34, 296, 35⟩) ⟨296, 26, 296, 35⟩), (.int 3 ⟨296, 37, 296, 38⟩)] 0 ⟨296, 19, 296, 39⟩) ⟨296, 12, 296, 39⟩] [] ⟨295, 8, 296, 39⟩,
     .ret (.tup [(.loc 14 "root" ⟨297, 16, 297, 20⟩), (.bin .add (.loc 6 "total" ⟨297, 22, 297, 27⟩) (.loc 1 "t" ⟨297, 30, 297, 31⟩) ⟨297, 22, 297, 31⟩), (.int 0 ⟨297, 33, 297, 34⟩)] 0 ⟨297, 15, 297, 35⟩) ⟨297, 8, 297, 35⟩] [] ⟨290, 4, 297, 35⟩,
   .assign 16 "p" ⟨298, 4, 298, 5⟩ (.bin .add (.int 1 ⟨298, 8, 298, 9⟩) (.bin .mod (.loc 8 "place" ⟨298, 12, 298, 17⟩) (.bin .add (.loc 6 "total" ⟨298, 21, 298, 26⟩) (.int 1 ⟨298, 29, 298, 30⟩) ⟨298, 21, 298, 30⟩) ⟨298, 12, 298, 31⟩) ⟨298, 8, 298, 31⟩) ⟨298, 4, 298, 31⟩,
   .assign 17 "twice" ⟨299, 4, 299, 9⟩ (.bin .add (.bin .add (.slice (.loc 2 "run" ⟨299, 12, 299, 15⟩) Option.none (some (.loc 16 "p" ⟨299, 17, 299, 18⟩)) ⟨299, 16, 299, 18⟩ ⟨299, 12, 299, 19⟩) (.list [(.tup [(.idx (.idx (.loc 2 "run" ⟨299, 24, 299, 27⟩) (.bin .sub (.loc 16 "p" ⟨299, 28, 299, 29⟩) (.int 1 ⟨299, 32, 299, 33⟩) ⟨299, 28, 299, 33⟩) ⟨299, 24, 299, 34⟩) (.int 0 ⟨299, 35, 299, 36⟩) ⟨299, 24, 299, 37⟩), (.int 0 ⟨299, 39, 299, 40⟩)] 0 ⟨299, 23, 299, 41⟩)] ⟨299, 22, 299, 42⟩) ⟨299, 12, 299, 42⟩) (.slice (.loc 2 "run" ⟨299, 45, 299, 48⟩) (some (.bin .add (.loc 16 "p" ⟨299, 49, 299, 50⟩) (.int 1 ⟨299, 53, 299, 54⟩) ⟨299, 49, 299, 54⟩)) Option.none ⟨299, 49, 299, 55⟩ ⟨299, 45, 299, 56⟩) ⟨299, 12, 299, 56⟩) ⟨299, 4, 299, 56⟩,
   .assign 14 "root" ⟨300, 4, 300, 8⟩ (.call (.fn 5) "_law_build" ⟨300, 11, 300, 21⟩ [(.call (.fn 4) "_law_blueprint" ⟨300, 22, 300, 36⟩ [(.loc 17 "twice" ⟨300, 37, 300, 42⟩), (.loc 3 "height" ⟨300, 44, 300, 50⟩), (.loc 4 "groups" ⟨300, 52, 300, 58⟩)] ⟨300, 22, 300, 59⟩)] ⟨300, 11, 300, 60⟩) ⟨300, 4, 300, 60⟩,
   .ite (.cmp .lt (.loc 16 "p" ⟨301, 7, 301, 8⟩) (.loc 6 "total" ⟨301, 11, 301, 16⟩) ⟨301, 7, 301, 16⟩) [.ret (.tup [(.loc 14 "root" ⟨302, 16, 302, 20⟩), (.loc 6 "total" ⟨302, 22, 302, 27⟩), (.int 2 ⟨302, 29, 302, 30⟩)] 0 ⟨302, 15, 302, 31⟩) ⟨302, 8, 302, 31⟩] [] ⟨301, 4, 302, 31⟩,
   .ret (.tup [(.loc 14 "root" ⟨303, 12, 303, 16⟩), (.loc 6 "total" ⟨303, 18, 303, 23⟩), (.int 0 ⟨303, 25, 303, 26⟩)] 0 ⟨303, 11, 303, 27⟩) ⟨303, 4, 303, 27⟩]
noncomputable def nm8 : Nm := ⟨["script", "t", "run", "height", "groups", "tree", "total", "kind", "place", "keys", "values", "kids", "far", "size", "root", "right", "p", "twice"], ["_law_cell", "_law_build", "Node", "len", "range", "_law_blueprint"], ["far"], ["script", "t", "run", "height", "groups", "tree", "total", "kind", "place", "keys", "values", "kids", "size", "root", "right", "p", "twice"]⟩
noncomputable def f8 : Fn := .ast 7 [.unset, .unset, .unset, .unset, .unset, .unset, .unset, .unset, .unset, .unset, .unset] nm8 b8

/-- law -/
noncomputable def b9 : List S :=
 [.assign 1 "height" ⟨305, 4, 305, 10⟩ (.bin .mod (.call (.fn 0) "_law_cell" ⟨305, 13, 305, 22⟩ [(.loc 0 "script" ⟨305, 23, 305, 29⟩), (.int 0 ⟨305, 31, 305, 32⟩)] ⟨305, 13, 305, 33⟩) (.int 3 ⟨305, 36, 305, 37⟩) ⟨305, 13, 305, 37⟩) ⟨305, 4, 305, 37⟩,
   .assign 2 "t" ⟨306, 4, 306, 5⟩ (.int 2 ⟨306, 8, 306, 9⟩) ⟨306, 4, 306, 9⟩,
   .ite (.cmp .lt (.loc 1 "height" ⟨307, 7, 307, 13⟩) (.int 2 ⟨307, 16, 307, 17⟩) ⟨307, 7, 307, 17⟩) [.assign 2 "t" ⟨308, 8, 308, 9⟩ (.bin .add (.int 2 ⟨308, 12, 308, 13⟩) (.bin .mod (.call (.fn 0) "_law_cell" ⟨308, 16, 308, 25⟩ [(.loc 0 "script" ⟨308, 26, 308, 32⟩), (.int 1 ⟨308, 34, 308, 35⟩)] ⟨308, 16, 308, 36⟩) (.int 2 ⟨308, 39, 308, 40⟩) ⟨308, 16, 308, 40⟩) ⟨308, 12, 308, 40⟩) ⟨308, 8, 308, 40⟩] [] ⟨307, 4, 308, 40⟩,
   .assign 3 "base" ⟨309, 4, 309, 8⟩ (.call (.fn 0) "_law_cell" ⟨309, 11, 309, 20⟩ [(.loc 0 "script" ⟨309, 21, 309, 27⟩), (.int 2 ⟨309, 29, 309, 30⟩)] ⟨309, 11, 309, 31⟩) ⟨309, 4, 309, 31⟩,
   .own 4 "run" ⟨310, 4, 310, 7⟩ [] ⟨310, 10, 310, 12⟩ ⟨310, 4, 310, 12⟩,
   .assign 5 "key" ⟨311, 4, 311, 7⟩ (.loc 3 "base" ⟨311, 10, 311, 14⟩) ⟨311, 4, 311, 14⟩,
   .for 6 "i" ⟨312, 8, 312, 9⟩ (.call .range "range" ⟨312, 13, 312, 18⟩ [(.int 18 ⟨312, 19, 312, 21⟩)] ⟨312, 13, 312, 22⟩) [.assign 7 "c" ⟨313, 8, 313, 9⟩ (.call (.fn 0) "_law_cell" ⟨313, 12, 313, 21⟩ [(.loc 0 "script" ⟨313, 22, 313, 28⟩), (.bin .add (.int 5 ⟨313, 30, 313, 31⟩) (.loc 6 "i" ⟨313, 34, 313, 35⟩) ⟨313, 30, 313, 35⟩)] ⟨313, 12, 313, 36⟩) ⟨313, 8, 313, 36⟩,
     .append 4 "run" ⟨314, 8, 314, 11⟩ ⟨314, 8, 314, 18⟩ (.tup [(.loc 5 "key" ⟨314, 20, 314, 23⟩), (.loc 7 "c" ⟨314, 25, 314, 26⟩)] 0 ⟨314, 19, 314, 27⟩) ⟨314, 8, 314, 28⟩ ⟨314, 8, 314, 28⟩,
     .assign 5 "key" ⟨315, 8, 315, 11⟩ (.bin .add (.bin .add (.loc 5 "key" ⟨315, 14, 315, 17⟩) (.int 1 ⟨315, 20, 315, 21⟩) ⟨315, 14, 315, 21⟩) (.bin .mod (.loc 7 "c" ⟨315, 24, 315, 25⟩) (.int 2 ⟨315, 28, 315, 29⟩) ⟨315, 24, 315, 29⟩) ⟨315, 14, 315, 29⟩) ⟨315, 8, 315, 29⟩] ⟨312, 4, 315, 29⟩,
   .assign 8 "groups" ⟨316, 4, 316, 10⟩ (.call (.fn 1) "_law_groups" ⟨316, 13, 316, 24⟩ [(.loc 0 "script" ⟨316, 25, 316, 31⟩), (.loc 1 "height" ⟨316, 33, 316, 39⟩), (.loc 2 "t" ⟨316, 41, 316, 42⟩)] ⟨316, 13, 316, 43⟩) ⟨316, 4, 316, 43⟩,
   .assign 9 "total" ⟨317, 4, 317, 9⟩ (.bin .sub (.call .sum "sum" ⟨317, 12, 317, 15⟩ [(.comp (.bin .add (.call .sum "sum" ⟨317, 17, 317, 20⟩ [(.loc 0 "g" ⟨317, 21, 317, 22⟩)] ⟨317, 17, 317, 23⟩) (.call .len "len" ⟨317, 26, 317, 29⟩ [(.loc 0 "g" ⟨317, 30, 317, 31⟩)] ⟨317, 26, 317, 32⟩) ⟨317, 17, 317, 32⟩) [] "g" ⟨317, 37, 317, 38⟩ (.loc 8 "groups" ⟨317, 42, 317, 48⟩) ⟨.function, [(".0", .local), ("g", .local), ("sum", .globalImplicit), ("len", .globalImplicit)], false, false, []⟩ ⟨317, 16, 317, 49⟩)] ⟨317, 12, 317, 50⟩) (.int 1 ⟨317, 53, 317, 54⟩) ⟨317, 12, 317, 54⟩) ⟨317, 4, 317, 54⟩,
   .freeze 4,
   .assign 10 "tree" ⟨318, 4, 318, 8⟩ (.call (.fn 4) "_law_blueprint" ⟨318, 11, 318, 25⟩ [(.loc 4 "run" ⟨318, 26, 318, 29⟩), (.loc 1 "height" ⟨318, 31, 318, 37⟩), (.loc 8 "groups" ⟨318, 39, 318, 45⟩)] ⟨318, 11, 318, 46⟩) ⟨318, 4, 318, 46⟩,
   .assign 11 "want" ⟨319, 4, 319, 8⟩ (.slice (.loc 4 "run" ⟨319, 11, 319, 14⟩) Option.none (some (.loc 9 "total" ⟨319, 16, 319, 21⟩)) ⟨319, 15, 319, 21⟩ ⟨319, 11, 319, 22⟩) ⟨319, 4, 319, 22⟩,
   .assign 12 "laid" ⟨320, 4, 320, 8⟩ (.bin .add (.list [(.loc 2 "t" ⟨320, 12, 320, 13⟩)] ⟨320, 11, 320, 14⟩) (.call (.fn 7) "_law_flat" ⟨320, 17, 320, 26⟩ [(.loc 10 "tree" ⟨320, 27, 320, 31⟩)] ⟨320, 17, 320, 32⟩) ⟨320, 11, 320, 32⟩) ⟨320, 4, 320, 32⟩,
   .assign 13 "m" ⟨321, 4, 321, 5⟩ (.call (.cls 1) "Canopy" ⟨321, 8, 321, 14⟩ [(.loc 2 "t" ⟨321, 15, 321, 16⟩)] ⟨321, 8, 321, 17⟩) ⟨321, 4, 321, 17⟩,
   .ite (.or [(.cmp .ne (.meth (.loc 13 "m" ⟨322, 7, 322, 8⟩) 13 "flat" ⟨322, 7, 322, 13⟩ [] ⟨322, 7, 322, 15⟩) (.list [(.loc 2 "t" ⟨322, 20, 322, 21⟩), (.int 0 ⟨322, 23, 322, 24⟩), (.int 0 ⟨322, 26, 322, 27⟩)] ⟨322, 19, 322, 28⟩) ⟨322, 7, 322, 28⟩), (.cmp .isnot (.meth (.loc 13 "m" ⟨322, 32, 322, 33⟩) 10 "check" ⟨322, 32, 322, 39⟩ [] ⟨322, 32, 322, 41⟩) (.bool true ⟨322, 49, 322, 53⟩) ⟨322, 32, 322, 53⟩)] ⟨322, 7, 322, 53⟩) [.ret (.bool false ⟨323, 15, 323, 20⟩) ⟨323, 8, 323, 20⟩] [] ⟨322, 4, 323, 20⟩,
   .expr (.meth (.loc 13 "m" ⟨324, 4, 324, 5⟩) 2 "adopt" ⟨324, 4, 324, 11⟩ [(.call (.fn 5) "_law_build" ⟨324, 12, 324, 22⟩ [(.loc 10 "tree" ⟨324, 23, 324, 27⟩)] ⟨324, 12, 324, 28⟩), (.loc 9 "total" ⟨324, 30, 324, 35⟩)] ⟨324, 4, 324, 36⟩) ⟨324, 4, 324, 36⟩,
   .ite (.or [(.cmp .ne (.meth (.loc 13 "m" ⟨325, 7, 325, 8⟩) 13 "flat" ⟨325, 7, 325, 13⟩ [] ⟨325, 7, 325, 15⟩) (.loc 12 "laid" ⟨325, 19, 325, 23⟩) ⟨325, 7, 325, 23⟩), (.cmp .ne (.meth (.loc 13 "m" ⟨325, 27, 325, 28⟩) 6 "pairs" ⟨325, 27, 325, 34⟩ [] ⟨325, 27, 325, 36⟩) (.loc 11 "want" ⟨325, 40, 325, 44⟩) ⟨325, 27, 325, 44⟩)] ⟨325, 7, 325, 44⟩) [.ret (.bool false ⟨326, 15, 326, 20⟩) ⟨326, 8, 326, 20⟩] [] ⟨325, 4, 326, 20⟩,
   .ite (.or [(.cmp .ne (.meth (.loc 13 "m" ⟨327, 7, 327, 8⟩) 11 "count_below" ⟨327, 7, 327, 20⟩ [(.attr (.loc 13 "m" ⟨327, 21, 327, 22⟩) 4 "root" ⟨327, 21, 327, 27⟩)] ⟨327, 7, 327, 28⟩) (.loc 9 "total" ⟨327, 32, 327, 37⟩) ⟨327, 7, 327, 37⟩), (.cmp .isnot (.meth (.loc 13 "m" ⟨327, 41, 327, 42⟩) 10 "check" ⟨327, 41, 327, 48⟩ [] ⟨327, 41, 327, 50⟩) (.bool true ⟨327, 58, 327, 62⟩) ⟨327, 41, 327, 62⟩)] ⟨327, 7, 327, 62⟩) [.ret (.bool false ⟨328, 15, 328, 20⟩) ⟨328, 8, 328, 20⟩] [] ⟨327, 4, 328, 20⟩,
   .ite (.or [(.cmp .ne (.meth (.loc 13 "m" ⟨329, 7, 329, 8⟩) 9 "leaf_level" ⟨329, 7, 329, 19⟩ [(.attr (.loc 13 "m" ⟨329, 20, 329, 21⟩) 4 "root" ⟨329, 20, 329, 26⟩)] ⟨329, 7, 329, 27⟩) (.loc 1 "height" ⟨329, 31, 329, 37⟩) ⟨329, 7, 329, 37⟩), (.cmp .ne (.meth (.loc 13 "m" ⟨329, 41, 329, 42⟩) 4 "height" ⟨329, 41, 329, 49⟩ [] ⟨329, 41, 329, 51⟩) (.loc 1 "height" ⟨329, 55, 329, 61⟩) ⟨329, 41, 329, 61⟩)] ⟨329, 7, 329, 61⟩) [.ret (.bool false ⟨330, 15, 330, 20⟩) ⟨330, 8, 330, 20⟩] [] ⟨329, 4, 330, 20⟩,
   .raw (.Assign [.Name "known" ⟨331, 4, 331, 9⟩] (.Dict [] [] ⟨331, 12, 331, 14⟩) ⟨331, 4, 331, 14⟩),
   .own 15 "asks" ⟨332, 4, 332, 8⟩ [(.bin .sub (.loc 3 "base" ⟨332, 12, 332, 16⟩) (.int 1 ⟨332, 19, 332, 20⟩) ⟨332, 12, 332, 20⟩), (.loc 3 "base" ⟨332, 22, 332, 26⟩)] ⟨332, 11, 332, 27⟩ ⟨332, 4, 332, 27⟩,
   .for 16 "pair" ⟨333, 8, 333, 12⟩ (.loc 11 "want" ⟨333, 16, 333, 20⟩) [.raw (.Assign [.Subscript (.Name "known" ⟨334, 8, 334, 13⟩) (E.py (.idx (.loc 16 "pair" ⟨334, 14, 334, 18⟩) (.int 0 ⟨334, 19, 334, 20⟩) ⟨334, 14, 334, 21⟩)) ⟨334, 8, 334, 22⟩] (E.py (.idx (.loc 16 "pair" ⟨334, 25, 334, 29⟩) (.int 1 ⟨334, 30, 334, 31⟩) ⟨334, 25, 334, 32⟩)) ⟨334, 8, 334, 32⟩),
     .append 15 "asks" ⟨335, 8, 335, 12⟩ ⟨335, 8, 335, 19⟩ (.idx (.loc 16 "pair" ⟨335, 20, 335, 24⟩) (.int 0 ⟨335, 25, 335, 26⟩) ⟨335, 20, 335, 27⟩) ⟨335, 8, 335, 28⟩ ⟨335, 8, 335, 28⟩,
     .append 15 "asks" ⟨336, 8, 336, 12⟩ ⟨336, 8, 336, 19⟩ (.bin .add (.idx (.loc 16 "pair" ⟨336, 20, 336, 24⟩) (.int 0 ⟨336, 25, 336, 26⟩) ⟨336, 20, 336, 27⟩) (.int 1 ⟨336, 30, 336, 31⟩) ⟨336, 20, 336, 31⟩) ⟨336, 8, 336, 32⟩ ⟨336, 8, 336, 32⟩] ⟨333, 4, 336, 32⟩,
   .freeze 15,
   .for 17 "near" ⟨337, 8, 337, 12⟩ (.loc 15 "asks" ⟨337, 16, 337, 20⟩) [.ite (.cmp .ne (.meth (.loc 13 "m" ⟨338, 11, 338, 12⟩) 3 "lookup" ⟨338, 11, 338, 19⟩ [(.loc 17 "near" ⟨338, 20, 338, 24⟩)] ⟨338, 11, 338, 25⟩) (.meth (.loc 14 "known" ⟨338, 29, 338, 34⟩) 14 "get" ⟨338, 29, 338, 38⟩ [(.loc 17 "near" ⟨338, 39, 338, 43⟩)] ⟨338, 29, 338, 44⟩) ⟨338, 11, 338, 44⟩) [.ret (.bool false ⟨339, 19, 339, 24⟩) ⟨339, 12, 339, 24⟩] [] ⟨338, 8, 339, 24⟩] ⟨337, 4, 339, 24⟩,
   .ite (.or [(.cmp .ne (.meth (.loc 13 "m" ⟨340, 7, 340, 8⟩) 13 "flat" ⟨340, 7, 340, 13⟩ [] ⟨340, 7, 340, 15⟩) (.loc 12 "laid" ⟨340, 19, 340, 23⟩) ⟨340, 7, 340, 23⟩), (.cmp .ne (.meth (.loc 13 "m" ⟨340, 27, 340, 28⟩) 6 "pairs" ⟨340, 27, 340, 34⟩ [] ⟨340, 27, 340, 36⟩) (.loc 11 "want" ⟨340, 40, 340, 44⟩) ⟨340, 27, 340, 44⟩), (.cmp .ne (.attr (.loc 13 "m" ⟨340, 48, 340, 49⟩) 5 "size" ⟨340, 48, 340, 54⟩) (.loc 9 "total" ⟨340, 58, 340, 63⟩) ⟨340, 48, 340, 63⟩)] ⟨340, 7, 340, 63⟩) [.ret (.bool false ⟨341, 15, 341, 20⟩) ⟨341, 8, 341, 20⟩] [] ⟨340, 4, 341, 20⟩,
   .unpack [(18, "root", ⟨342, 4, 342, 8⟩), (19, "size", ⟨342, 10, 342, 14⟩), (20, "wrong", ⟨342, 16, 342, 21⟩)] 0 ⟨342, 4, 342, 21⟩ (.call (.fn 8) "_law_spoilt" ⟨342, 24, 342, 35⟩ [(.loc 0 "script" ⟨342, 36, 342, 42⟩), (.loc 2 "t" ⟨342, 44, 342, 45⟩), (.loc 4 "run" ⟨342, 47, 342, 50⟩), (.loc 1 "height" ⟨342, 52, 342, 58⟩), (.loc 8 "groups" ⟨342, 60, 342, 66⟩), (.loc 10 "tree" ⟨342, 68, 342, 72⟩), (.loc 9 "total" ⟨342, 74, 342, 79⟩)] ⟨342, 24, 342, 80⟩) ⟨342, 4, 342, 80⟩,
   .assign 21 "other" ⟨343, 4, 343, 9⟩ (.call (.cls 1) "Canopy" ⟨343, 12, 343, 18⟩ [(.loc 2 "t" ⟨343, 19, 343, 20⟩)] ⟨343, 12, 343, 21⟩) ⟨343, 4, 343, 21⟩,
   .expr (.meth (.loc 21 "other" ⟨344, 4, 344, 9⟩) 2 "adopt" ⟨344, 4, 344, 15⟩ [(.loc 18 "root" ⟨344, 16, 344, 20⟩), (.loc 19 "size" ⟨344, 22, 344, 26⟩)] ⟨344, 4, 344, 27⟩) ⟨344, 4, 344, 27⟩,
   .ite (.cmp .ne (.meth (.loc 21 "other" ⟨345, 7, 345, 12⟩) 10 "check" ⟨345, 7, 345, 18⟩ [] ⟨345, 7, 345, 20⟩) (.cmp .eq (.loc 20 "wrong" ⟨345, 25, 345, 30⟩) (.int 0 ⟨345, 34, 345, 35⟩) ⟨345, 25, 345, 35⟩) ⟨345, 7, 345, 36⟩) [.ret (.bool false ⟨346, 15, 346, 20⟩) ⟨346, 8, 346, 20⟩] [] ⟨345, 4, 346, 20⟩,
   .ite (.cmp .ne (.meth (.loc 21 "other" ⟨347, 7, 347, 12⟩) 7 "shape_ok" ⟨347, 7, 347, 21⟩ [(.loc 18 "root" ⟨347, 22, 347, 26⟩), (.bool true ⟨347, 28, 347, 32⟩)] ⟨347, 7, 347, 33⟩) (.cmp .ne (.loc 20 "wrong" ⟨347, 38, 347, 43⟩) (.int 1 ⟨347, 47, 347, 48⟩) ⟨347, 38, 347, 48⟩) ⟨347, 7, 347, 49⟩) [.ret (.bool false ⟨348, 15, 348, 20⟩) ⟨348, 8, 348, 20⟩] [] ⟨347, 4, 348, 20⟩,
   .ite (.and [(.cmp .ne (.loc 20 "wrong" ⟨349, 7, 349, 12⟩) (.int 1 ⟨349, 16, 349, 17⟩) ⟨349, 7, 349, 17⟩), (.cmp .ne (.meth (.loc 21 "other" ⟨349, 22, 349, 27⟩) 8 "keys_ok" ⟨349, 22, 349, 35⟩ [(.loc 18 "root" ⟨349, 36, 349, 40⟩), (.none ⟨349, 42, 349, 46⟩), (.none ⟨349, 48, 349, 52⟩)] ⟨349, 22, 349, 53⟩) (.cmp .ne (.loc 20 "wrong" ⟨349, 58, 349, 63⟩) (.int 2 ⟨349, 67, 349, 68⟩) ⟨349, 58, 349, 68⟩) ⟨349, 22, 349, 69⟩)] ⟨349, 7, 349, 69⟩) [.ret (.bool false ⟨350, 15, 350, 20⟩) ⟨350, 8, 350, 20⟩] [] ⟨349, 4, 350, 20⟩,
   .ite (.and [(.cmp .eq (.loc 20 "wrong" ⟨351, 7, 351, 12⟩) (.int 3 ⟨351, 16, 351, 17⟩) ⟨351, 7, 351, 17⟩), (.cmp .ne (.meth (.loc 21 "other" ⟨351, 22, 351, 27⟩) 9 "leaf_level" ⟨351, 22, 351, 38⟩ [(.loc 18 "root" ⟨351, 39, 351, 43⟩)] ⟨351, 22, 351, 44⟩) (.neg 1 ⟨351, 49, 351, 50⟩ ⟨351, 48, 351, 50⟩) ⟨351, 22, 351, 50⟩)] ⟨351, 7, 351, 50⟩) [.ret (.bool false ⟨352, 15, 352, 20⟩) ⟨352, 8, 352, 20⟩] [] ⟨351, 4, 352, 20⟩,
   .ret (.bool true ⟨353, 11, 353, 15⟩) ⟨353, 4, 353, 15⟩]
noncomputable def nm9 : Nm := ⟨["script", "height", "t", "base", "run", "key", "i", "c", "groups", "total", "tree", "want", "laid", "m", "known", "asks", "pair", "near", "root", "size", "wrong", "other"], ["_law_cell", "range", "_law_groups", "sum", "_law_blueprint", "_law_flat", "Canopy", "_law_build", "_law_spoilt"], [], ["script", "height", "t", "base", "run", "key", "i", "c", "groups", "total", "tree", "want", "laid", "m", "known", "asks", "pair", "near", "root", "size", "wrong", "other"]⟩
noncomputable def f9 : Fn := .ast 1 [.unset, .unset, .unset, .unset, .unset, .unset, .unset, .unset, .unset, .unset, .unset, .unset, .unset, .unset, .unset, .unset, .unset, .unset, .unset, .unset, .unset] nm9 b9

/-- Node.__init__ -/
noncomputable def b10 : List S :=
 [.setattr (.loc 0 "self" ⟨8, 8, 8, 12⟩) 0 "key_row" ⟨8, 8, 8, 20⟩ (.loc 1 "keys" ⟨8, 23, 8, 27⟩) ⟨8, 8, 8, 27⟩,
   .setattr (.loc 0 "self" ⟨9, 8, 9, 12⟩) 1 "value_row" ⟨9, 8, 9, 22⟩ (.loc 2 "values" ⟨9, 25, 9, 31⟩) ⟨9, 8, 9, 31⟩,
   .setattr (.loc 0 "self" ⟨10, 8, 10, 12⟩) 2 "children" ⟨10, 8, 10, 21⟩ (.loc 3 "children" ⟨10, 24, 10, 32⟩) ⟨10, 8, 10, 32⟩]
noncomputable def nm10 : Nm := ⟨["self", "keys", "values", "children"], [], [], ["self", "keys", "values", "children"]⟩
noncomputable def f10 : Fn := .ast 4 [] nm10 b10

/-- Node.is_leaf -/
noncomputable def b11 : List S :=
 [.ret (.cmp .eq (.call .len "len" ⟨13, 15, 13, 18⟩ [(.attr (.loc 0 "self" ⟨13, 19, 13, 23⟩) 2 "children" ⟨13, 19, 13, 32⟩)] ⟨13, 15, 13, 33⟩) (.int 0 ⟨13, 37, 13, 38⟩) ⟨13, 15, 13, 38⟩) ⟨13, 8, 13, 38⟩]
noncomputable def nm11 : Nm := ⟨["self"], ["len"], [], ["self"]⟩
noncomputable def f11 : Fn := .ast 1 [] nm11 b11

/-- Node.slot -/
noncomputable def b12 : List S :=
 [.assign 2 "lo" ⟨16, 8, 16, 10⟩ (.int 0 ⟨16, 13, 16, 14⟩) ⟨16, 8, 16, 14⟩,
   .assign 3 "hi" ⟨17, 8, 17, 10⟩ (.call .len "len" ⟨17, 13, 17, 16⟩ [(.attr (.loc 0 "self" ⟨17, 17, 17, 21⟩) 0 "key_row" ⟨17, 17, 17, 29⟩)] ⟨17, 13, 17, 30⟩) ⟨17, 8, 17, 30⟩,
   .while (.cmp .lt (.loc 2 "lo" ⟨18, 14, 18, 16⟩) (.loc 3 "hi" ⟨18, 19, 18, 21⟩) ⟨18, 14, 18, 21⟩) [.assign 4 "mid" ⟨19, 12, 19, 15⟩ (.bin .fdiv (.bin .add (.loc 2 "lo" ⟨19, 19, 19, 21⟩) (.loc 3 "hi" ⟨19, 24, 19, 26⟩) ⟨19, 19, 19, 26⟩) (.int 2 ⟨19, 31, 19, 32⟩) ⟨19, 18, 19, 32⟩) ⟨19, 12, 19, 32⟩,
     .ite (.cmp .lt (.idx (.attr (.loc 0 "self" ⟨20, 15, 20, 19⟩) 0 "key_row" ⟨20, 15, 20, 27⟩) (.loc 4 "mid" ⟨20, 28, 20, 31⟩) ⟨20, 15, 20, 32⟩) (.loc 1 "key" ⟨20, 35, 20, 38⟩) ⟨20, 15, 20, 38⟩) [.assign 2 "lo" ⟨21, 16, 21, 18⟩ (.bin .add (.loc 4 "mid" ⟨21, 21, 21, 24⟩) (.int 1 ⟨21, 27, 21, 28⟩) ⟨21, 21, 21, 28⟩) ⟨21, 16, 21, 28⟩] [.assign 3 "hi" ⟨23, 16, 23, 18⟩ (.loc 4 "mid" ⟨23, 21, 23, 24⟩) ⟨23, 16, 23, 24⟩] ⟨20, 12, 23, 24⟩] ⟨18, 8, 23, 24⟩,
   .ret (.loc 2 "lo" ⟨24, 15, 24, 17⟩) ⟨24, 8, 24, 17⟩]
noncomputable def nm12 : Nm := ⟨["self", "key", "lo", "hi", "mid"], ["len"], [], ["self", "key", "lo", "hi", "mid"]⟩
noncomputable def f12 : Fn := .ast 2 [.unset, .unset, .unset] nm12 b12

/-- Canopy.__init__ -/
noncomputable def b13 : List S :=
 [.setattr (.loc 0 "self" ⟨31, 8, 31, 12⟩) 3 "t" ⟨31, 8, 31, 14⟩ (.loc 1 "t" ⟨31, 17, 31, 18⟩) ⟨31, 8, 31, 18⟩,
   .setattr (.loc 0 "self" ⟨32, 8, 32, 12⟩) 4 "root" ⟨32, 8, 32, 17⟩ (.call (.cls 0) "Node" ⟨32, 20, 32, 24⟩ [(.list [] ⟨32, 25, 32, 27⟩), (.list [] ⟨32, 29, 32, 31⟩), (.list [] ⟨32, 33, 32, 35⟩)] ⟨32, 20, 32, 36⟩) ⟨32, 8, 32, 36⟩,
   .setattr (.loc 0 "self" ⟨33, 8, 33, 12⟩) 5 "size" ⟨33, 8, 33, 17⟩ (.int 0 ⟨33, 20, 33, 21⟩) ⟨33, 8, 33, 21⟩]
noncomputable def nm13 : Nm := ⟨["self", "t"], ["Node"], [], ["self", "t"]⟩
noncomputable def f13 : Fn := .ast 2 [] nm13 b13

/-- Canopy.adopt -/
noncomputable def b14 : List S :=
 [.setattr (.loc 0 "self" ⟨36, 8, 36, 12⟩) 4 "root" ⟨36, 8, 36, 17⟩ (.loc 1 "root" ⟨36, 20, 36, 24⟩) ⟨36, 8, 36, 24⟩,
   .setattr (.loc 0 "self" ⟨37, 8, 37, 12⟩) 5 "size" ⟨37, 8, 37, 17⟩ (.loc 2 "size" ⟨37, 20, 37, 24⟩) ⟨37, 8, 37, 24⟩]
noncomputable def nm14 : Nm := ⟨["self", "root", "size"], [], [], ["self", "root", "size"]⟩
noncomputable def f14 : Fn := .ast 3 [] nm14 b14

/-- Canopy.lookup -/
noncomputable def b15 : List S :=
 [.assign 2 "node" ⟨40, 8, 40, 12⟩ (.attr (.loc 0 "self" ⟨40, 15, 40, 19⟩) 4 "root" ⟨40, 15, 40, 24⟩) ⟨40, 8, 40, 24⟩,
   .while (.not (.e (.meth (.loc 2 "node" ⟨41, 18, 41, 22⟩) 0 "is_leaf" ⟨41, 18, 41, 30⟩ [] ⟨41, 18, 41, 32⟩)) ⟨41, 14, 41, 32⟩) [.assign 3 "i" ⟨42, 12, 42, 13⟩ (.meth (.loc 2 "node" ⟨42, 16, 42, 20⟩) 1 "slot" ⟨42, 16, 42, 25⟩ [(.loc 1 "key" ⟨42, 26, 42, 29⟩)] ⟨42, 16, 42, 30⟩) ⟨42, 12, 42, 30⟩,
     .ite (.and [(.cmp .lt (.loc 3 "i" ⟨43, 15, 43, 16⟩) (.call .len "len" ⟨43, 19, 43, 22⟩ [(.attr (.loc 2 "node" ⟨43, 23, 43, 27⟩) 0 "key_row" ⟨43, 23, 43, 35⟩)] ⟨43, 19, 43, 36⟩) ⟨43, 15, 43, 36⟩), (.cmp .eq (.idx (.attr (.loc 2 "node" ⟨43, 41, 43, 45⟩) 0 "key_row" ⟨43, 41, 43, 53⟩) (.loc 3 "i" ⟨43, 54, 43, 55⟩) ⟨43, 41, 43, 56⟩) (.loc 1 "key" ⟨43, 60, 43, 63⟩) ⟨43, 41, 43, 63⟩)] ⟨43, 15, 43, 63⟩) [.ret (.idx (.attr (.loc 2 "node" ⟨44, 23, 44, 27⟩) 1 "value_row" ⟨44, 23, 44, 37⟩) (.loc 3 "i" ⟨44, 38, 44, 39⟩) ⟨44, 23, 44, 40⟩) ⟨44, 16, 44, 40⟩] [] ⟨43, 12, 44, 40⟩,
     .assign 2 "node" ⟨45, 12, 45, 16⟩ (.idx (.attr (.loc 2 "node" ⟨45, 19, 45, 23⟩) 2 "children" ⟨45, 19, 45, 32⟩) (.loc 3 "i" ⟨45, 33, 45, 34⟩) ⟨45, 19, 45, 35⟩) ⟨45, 12, 45, 35⟩] ⟨41, 8, 45, 35⟩,
   .assign 3 "i" ⟨46, 8, 46, 9⟩ (.meth (.loc 2 "node" ⟨46, 12, 46, 16⟩) 1 "slot" ⟨46, 12, 46, 21⟩ [(.loc 1 "key" ⟨46, 22, 46, 25⟩)] ⟨46, 12, 46, 26⟩) ⟨46, 8, 46, 26⟩,
   .ite (.and [(.cmp .lt (.loc 3 "i" ⟨47, 11, 47, 12⟩) (.call .len "len" ⟨47, 15, 47, 18⟩ [(.attr (.loc 2 "node" ⟨47, 19, 47, 23⟩) 0 "key_row" ⟨47, 19, 47, 31⟩)] ⟨47, 15, 47, 32⟩) ⟨47, 11, 47, 32⟩), (.cmp .eq (.idx (.attr (.loc 2 "node" ⟨47, 37, 47, 41⟩) 0 "key_row" ⟨47, 37, 47, 49⟩) (.loc 3 "i" ⟨47, 50, 47, 51⟩) ⟨47, 37, 47, 52⟩) (.loc 1 "key" ⟨47, 56, 47, 59⟩) ⟨47, 37, 47, 59⟩)] ⟨47, 11, 47, 59⟩) [.ret (.idx (.attr (.loc 2 "node" ⟨48, 19, 48, 23⟩) 1 "value_row" ⟨48, 19, 48, 33⟩) (.loc 3 "i" ⟨48, 34, 48, 35⟩) ⟨48, 19, 48, 36⟩) ⟨48, 12, 48, 36⟩] [] ⟨47, 8, 48, 36⟩,
   .ret (.none ⟨49, 15, 49, 19⟩) ⟨49, 8, 49, 19⟩]
noncomputable def nm15 : Nm := ⟨["self", "key", "node", "i"], ["len"], [], ["self", "key", "node", "i"]⟩
noncomputable def f15 : Fn := .ast 2 [.unset, .unset] nm15 b15

/-- Canopy.height -/
noncomputable def b16 : List S :=
 [.assign 1 "node" ⟨52, 8, 52, 12⟩ (.attr (.loc 0 "self" ⟨52, 15, 52, 19⟩) 4 "root" ⟨52, 15, 52, 24⟩) ⟨52, 8, 52, 24⟩,
   .assign 2 "levels" ⟨53, 8, 53, 14⟩ (.int 0 ⟨53, 17, 53, 18⟩) ⟨53, 8, 53, 18⟩,
   .while (.not (.e (.meth (.loc 1 "node" ⟨54, 18, 54, 22⟩) 0 "is_leaf" ⟨54, 18, 54, 30⟩ [] ⟨54, 18, 54, 32⟩)) ⟨54, 14, 54, 32⟩) [.assign 1 "node" ⟨55, 12, 55, 16⟩ (.idx (.attr (.loc 1 "node" ⟨55, 19, 55, 23⟩) 2 "children" ⟨55, 19, 55, 32⟩) (.int 0 ⟨55, 33, 55, 34⟩) ⟨55, 19, 55, 35⟩) ⟨55, 12, 55, 35⟩,
     .assign 2 "levels" ⟨56, 12, 56, 18⟩ (.bin .add (.loc 2 "levels" ⟨56, 21, 56, 27⟩) (.int 1 ⟨56, 30, 56, 31⟩) ⟨56, 21, 56, 31⟩) ⟨56, 12, 56, 31⟩] ⟨54, 8, 56, 31⟩,
   .ret (.loc 2 "levels" ⟨57, 15, 57, 21⟩) ⟨57, 8, 57, 21⟩]
noncomputable def nm16 : Nm := ⟨["self", "node", "levels"], [], [], ["self", "node", "levels"]⟩
noncomputable def f16 : Fn := .ast 1 [.unset, .unset] nm16 b16

/-- Canopy.pairs_below -/
noncomputable def b17 : List S :=
 [.own 2 "out" ⟨87, 8, 87, 11⟩ [] ⟨87, 14, 87, 16⟩ ⟨87, 8, 87, 16⟩,
   .own 3 "stack" ⟨88, 8, 88, 13⟩ [(.tup [(.loc 1 "node" ⟨88, 18, 88, 22⟩), (.neg 1 ⟨88, 25, 88, 26⟩ ⟨88, 24, 88, 26⟩)] 0 ⟨88, 17, 88, 27⟩)] ⟨88, 16, 88, 28⟩ ⟨88, 8, 88, 28⟩,
   .while (.cmp .gt (.call .len "len" ⟨89, 14, 89, 17⟩ [(.loc 3 "stack" ⟨89, 18, 89, 23⟩)] ⟨89, 14, 89, 24⟩) (.int 0 ⟨89, 27, 89, 28⟩) ⟨89, 14, 89, 28⟩) [.assign 4 "top" ⟨90, 12, 90, 15⟩ (.idx (.loc 3 "stack" ⟨90, 18, 90, 23⟩) (.bin .sub (.call .len "len" ⟨90, 24, 90, 27⟩ [(.loc 3 "stack" ⟨90, 28, 90, 33⟩)] ⟨90, 24, 90, 34⟩) (.int 1 ⟨90, 37, 90, 38⟩) ⟨90, 24, 90, 38⟩) ⟨90, 18, 90, 39⟩) ⟨90, 12, 90, 39⟩,
     .del 3 "stack" ⟨91, 16, 91, 21⟩ (.bin .sub (.call .len "len" ⟨91, 22, 91, 25⟩ [(.loc 3 "stack" ⟨91, 26, 91, 31⟩)] ⟨91, 22, 91, 32⟩) (.int 1 ⟨91, 35, 91, 36⟩) ⟨91, 22, 91, 36⟩) ⟨91, 16, 91, 37⟩ ⟨91, 12, 91, 37⟩,
     .assign 5 "here" ⟨92, 12, 92, 16⟩ (.idx (.loc 4 "top" ⟨92, 19, 92, 22⟩) (.int 0 ⟨92, 23, 92, 24⟩) ⟨92, 19, 92, 25⟩) ⟨92, 12, 92, 25⟩,
     .ite (.cmp .ge (.idx (.loc 4 "top" ⟨93, 15, 93, 18⟩) (.int 1 ⟨93, 19, 93, 20⟩) ⟨93, 15, 93, 21⟩) (.int 0 ⟨93, 25, 93, 26⟩) ⟨93, 15, 93, 26⟩) [.append 2 "out" ⟨94, 16, 94, 19⟩ ⟨94, 16, 94, 26⟩ (.tup [(.idx (.attr (.loc 5 "here" ⟨94, 28, 94, 32⟩) 0 "key_row" ⟨94, 28, 94, 40⟩) (.idx (.loc 4 "top" ⟨94, 41, 94, 44⟩) (.int 1 ⟨94, 45, 94, 46⟩) ⟨94, 41, 94, 47⟩) ⟨94, 28, 94, 48⟩), (.idx (.attr (.loc 5 "here" ⟨94, 50, 94, 54⟩) 1 "value_row" ⟨94, 50, 94, 64⟩) (.idx (.loc 4 "top" ⟨94, 65, 94, 68⟩) (.int 1 ⟨94, 69, 94, 70⟩) ⟨94, 65, 94, 71⟩) ⟨94, 50, 94, 72⟩)] 0 ⟨94, 27, 94, 73⟩) ⟨94, 16, 94, 74⟩ ⟨94, 16, 94, 74⟩] [.ite (.e (.meth (.loc 5 "here" ⟨95, 17, 95, 21⟩) 0 "is_leaf" ⟨95, 17, 95, 29⟩ [] ⟨95, 17, 95, 31⟩)) [.for 6 "i" ⟨96, 20, 96, 21⟩ (.call .range "range" ⟨96, 25, 96, 30⟩ [(.call .len "len" ⟨96, 31, 96, 34⟩ [(.attr (.loc 5 "here" ⟨96, 35, 96, 39⟩) 0 "key_row" ⟨96, 35, 96, 47⟩)] ⟨96, 31, 96, 48⟩)] ⟨96, 25, 96, 49⟩) [.append 2 "out" ⟨97, 20, 97, 23⟩ ⟨97, 20, 97, 30⟩ (.tup [(.idx (.attr (.loc 5 "here" ⟨97, 32, 97, 36⟩) 0 "key_row" ⟨97, 32, 97, 44⟩) (.loc 6 "i" ⟨97, 45, 97, 46⟩) ⟨97, 32, 97, 47⟩), (.idx (.attr (.loc 5 "here" ⟨97, 49, 97, 53⟩) 1 "value_row" ⟨97, 49, 97, 63⟩) (.loc 6 "i" ⟨97, 64, 97, 65⟩) ⟨97, 49, 97, 66⟩)] 0 ⟨97, 31, 97, 67⟩) ⟨97, 20, 97, 68⟩ ⟨97, 20, 97, 68⟩] ⟨96, 16, 97, 68⟩] [.for 7 "j" ⟨99, 20, 99, 21⟩ (.call .range "range" ⟨99, 25, 99, 30⟩ [(.bin .sub (.call .max "max" ⟨99, 31, 99, 34⟩ [(.call .len "len" ⟨99, 35, 99, 38⟩ [(.attr (.loc 5 "here" ⟨99, 39, 99, 43⟩) 2 "children" ⟨99, 39, 99, 52⟩)] ⟨99, 35, 99, 53⟩), (.bin .add (.call .len "len" ⟨99, 55, 99, 58⟩ [(.attr (.loc 5 "here" ⟨99, 59, 99, 63⟩) 0 "key_row" ⟨99, 59, 99, 71⟩)] ⟨99, 55, 99, 72⟩) (.int 1 ⟨99, 75, 99, 76⟩) ⟨99, 55, 99, 76⟩)] ⟨99, 31, 99, 77⟩) (.int 1 ⟨99, 80, 99, 81⟩) ⟨99, 31, 99, 81⟩), (.neg 1 ⟨99, 84, 99, 85⟩ ⟨99, 83, 99, 85⟩), (.neg 1 ⟨99, 88, 99, 89⟩ ⟨99, 87, 99, 89⟩)] ⟨99, 25, 99, 90⟩) [.ite (.cmp .lt (.loc 7 "j" ⟨100, 23, 100, 24⟩) (.call .len "len" ⟨100, 27, 100, 30⟩ [(.attr (.loc 5 "here" ⟨100, 31, 100, 35⟩) 2 "children" ⟨100, 31, 100, 44⟩)] ⟨100, 27, 100, 45⟩) ⟨100, 23, 100, 45⟩) [.append 3 "stack" ⟨101, 24, 101, 29⟩ ⟨101, 24, 101, 36⟩ (.tup [(.idx (.attr (.loc 5 "here" ⟨101, 38, 101, 42⟩) 2 "children" ⟨101, 38, 101, 51⟩) (.loc 7 "j" ⟨101, 52, 101, 53⟩) ⟨101, 38, 101, 54⟩), (.neg 1 ⟨101, 57, 101, 58⟩ ⟨101, 56, 101, 58⟩)] 0 ⟨101, 37, 101, 59⟩) ⟨101, 24, 101, 60⟩ ⟨101, 24, 101, 60⟩] [] ⟨100, 20, 101, 60⟩,
           .ite (.cmp .gt (.loc 7 "j" ⟨102, 23, 102, 24⟩) (.int 0 ⟨102, 27, 102, 28⟩) ⟨102, 23, 102, 28⟩) [.append 3 "stack" ⟨103, 24, 103, 29⟩ ⟨103, 24, 103, 36⟩ (.tup [(.loc 5 "here" ⟨103, 38, 103, 42⟩), (.bin .sub (.loc 7 "j" ⟨103, 44, 103, 45⟩) (.int 1 ⟨103, 48, 103, 49⟩) ⟨103, 44, 103, 49⟩)] 0 ⟨103, 37, 103, 50⟩) ⟨103, 24, 103, 51⟩ ⟨103, 24, 103, 51⟩] [] ⟨102, 20, 103, 51⟩] ⟨99, 16, 103, 51⟩] ⟨95, 12, 103, 51⟩] ⟨93, 12, 103, 51⟩] ⟨89, 8, 103, 51⟩,
   .freeze 2,
   .ret (.loc 2 "out" ⟨104, 15, 104, 18⟩) ⟨104, 8, 104, 18⟩]
noncomputable def nm17 : Nm := ⟨["self", "node", "out", "stack", "top", "here", "i", "j"], ["len", "range", "max"], [], ["self", "node", "out", "stack", "top", "here", "i", "j"]⟩
noncomputable def f17 : Fn := .ast 2 [.unset, .unset, .unset, .unset, .unset, .unset] nm17 b17

/-- Canopy.pairs -/
noncomputable def b18 : List S :=
 [.ret (.meth (.loc 0 "self" ⟨107, 15, 107, 19⟩) 5 "pairs_below" ⟨107, 15, 107, 31⟩ [(.attr (.loc 0 "self" ⟨107, 32, 107, 36⟩) 4 "root" ⟨107, 32, 107, 41⟩)] ⟨107, 15, 107, 42⟩) ⟨107, 8, 107, 42⟩]
noncomputable def nm18 : Nm := ⟨["self"], [], [], ["self"]⟩
noncomputable def f18 : Fn := .ast 1 [] nm18 b18

/-- Canopy.shape_ok -/
noncomputable def b19 : List S :=
 [.assign 3 "t" ⟨110, 8, 110, 9⟩ (.attr (.loc 0 "self" ⟨110, 12, 110, 16⟩) 3 "t" ⟨110, 12, 110, 18⟩) ⟨110, 8, 110, 18⟩,
   .own 4 "stack" ⟨111, 8, 111, 13⟩ [(.tup [(.loc 1 "node" ⟨111, 18, 111, 22⟩), (.loc 2 "is_root" ⟨111, 24, 111, 31⟩)] 0 ⟨111, 17, 111, 32⟩)] ⟨111, 16, 111, 33⟩ ⟨111, 8, 111, 33⟩,
   .while (.cmp .gt (.call .len "len" ⟨112, 14, 112, 17⟩ [(.loc 4 "stack" ⟨112, 18, 112, 23⟩)] ⟨112, 14, 112, 24⟩) (.int 0 ⟨112, 27, 112, 28⟩) ⟨112, 14, 112, 28⟩) [.assign 5 "top" ⟨113, 12, 113, 15⟩ (.idx (.loc 4 "stack" ⟨113, 18, 113, 23⟩) (.bin .sub (.call .len "len" ⟨113, 24, 113, 27⟩ [(.loc 4 "stack" ⟨113, 28, 113, 33⟩)] ⟨113, 24, 113, 34⟩) (.int 1 ⟨113, 37, 113, 38⟩) ⟨113, 24, 113, 38⟩) ⟨113, 18, 113, 39⟩) ⟨113, 12, 113, 39⟩,
     .del 4 "stack" ⟨114, 16, 114, 21⟩ (.bin .sub (.call .len "len" ⟨114, 22, 114, 25⟩ [(.loc 4 "stack" ⟨114, 26, 114, 31⟩)] ⟨114, 22, 114, 32⟩) (.int 1 ⟨114, 35, 114, 36⟩) ⟨114, 22, 114, 36⟩) ⟨114, 16, 114, 37⟩ ⟨114, 12, 114, 37⟩,
     .assign 6 "here" ⟨115, 12, 115, 16⟩ (.idx (.loc 5 "top" ⟨115, 19, 115, 22⟩) (.int 0 ⟨115, 23, 115, 24⟩) ⟨115, 19, 115, 25⟩) ⟨115, 12, 115, 25⟩,
     .assign 7 "n" ⟨116, 12, 116, 13⟩ (.call .len "len" ⟨116, 16, 116, 19⟩ [(.attr (.loc 6 "here" ⟨116, 20, 116, 24⟩) 0 "key_row" ⟨116, 20, 116, 32⟩)] ⟨116, 16, 116, 33⟩) ⟨116, 12, 116, 33⟩,
     .ite (.or [(.cmp .ne (.call .len "len" ⟨117, 15, 117, 18⟩ [(.attr (.loc 6 "here" ⟨117, 19, 117, 23⟩) 1 "value_row" ⟨117, 19, 117, 33⟩)] ⟨117, 15, 117, 34⟩) (.loc 7 "n" ⟨117, 38, 117, 39⟩) ⟨117, 15, 117, 39⟩), (.cmp .gt (.loc 7 "n" ⟨117, 43, 117, 44⟩) (.bin .sub (.bin .mul (.int 2 ⟨117, 47, 117, 48⟩) (.loc 3 "t" ⟨117, 51, 117, 52⟩) ⟨117, 47, 117, 52⟩) (.int 1 ⟨117, 55, 117, 56⟩) ⟨117, 47, 117, 56⟩) ⟨117, 43, 117, 56⟩)] ⟨117, 15, 117, 56⟩) [.ret (.bool false ⟨118, 23, 118, 28⟩) ⟨118, 16, 118, 28⟩] [] ⟨117, 12, 118, 28⟩,
     .ite (.and [(.not (.e (.idx (.loc 5 "top" ⟨119, 19, 119, 22⟩) (.int 1 ⟨119, 23, 119, 24⟩) ⟨119, 19, 119, 25⟩)) ⟨119, 15, 119, 25⟩), (.cmp .lt (.loc 7 "n" ⟨119, 30, 119, 31⟩) (.bin .sub (.loc 3 "t" ⟨119, 34, 119, 35⟩) (.int 1 ⟨119, 38, 119, 39⟩) ⟨119, 34, 119, 39⟩) ⟨119, 30, 119, 39⟩)] ⟨119, 15, 119, 39⟩) [.ret (.bool false ⟨120, 23, 120, 28⟩) ⟨120, 16, 120, 28⟩] [] ⟨119, 12, 120, 28⟩,
     .ite (.and [(.cmp .ne (.call .len "len" ⟨121, 15, 121, 18⟩ [(.attr (.loc 6 "here" ⟨121, 19, 121, 23⟩) 2 "children" ⟨121, 19, 121, 32⟩)] ⟨121, 15, 121, 33⟩) (.int 0 ⟨121, 37, 121, 38⟩) ⟨121, 15, 121, 38⟩), (.cmp .ne (.call .len "len" ⟨121, 43, 121, 46⟩ [(.attr (.loc 6 "here" ⟨121, 47, 121, 51⟩) 2 "children" ⟨121, 47, 121, 60⟩)] ⟨121, 43, 121, 61⟩) (.bin .add (.loc 7 "n" ⟨121, 65, 121, 66⟩) (.int 1 ⟨121, 69, 121, 70⟩) ⟨121, 65, 121, 70⟩) ⟨121, 43, 121, 70⟩)] ⟨121, 15, 121, 70⟩) [.ret (.bool false ⟨122, 23, 122, 28⟩) ⟨122, 16, 122, 28⟩] [] ⟨121, 12, 122, 28⟩,
     .for 8 "child" ⟨123, 16, 123, 21⟩ (.attr (.loc 6 "here" ⟨123, 25, 123, 29⟩) 2 "children" ⟨123, 25, 123, 38⟩) [.append 4 "stack" ⟨124, 16, 124, 21⟩ ⟨124, 16, 124, 28⟩ (.tup [(.loc 8 "child" ⟨124, 30, 124, 35⟩), (.bool false ⟨124, 37, 124, 42⟩)] 0 ⟨124, 29, 124, 43⟩) ⟨124, 16, 124, 44⟩ ⟨124, 16, 124, 44⟩] ⟨123, 12, 124, 44⟩] ⟨112, 8, 124, 44⟩,
   .ret (.bool true ⟨125, 15, 125, 19⟩) ⟨125, 8, 125, 19⟩]
noncomputable def nm19 : Nm := ⟨["self", "node", "is_root", "t", "stack", "top", "here", "n", "child"], ["len"], [], ["self", "node", "is_root", "t", "stack", "top", "here", "n", "child"]⟩
noncomputable def f19 : Fn := .ast 3 [.unset, .unset, .unset, .unset, .unset, .unset] nm19 b19

/-- Canopy.keys_ok -/
noncomputable def b20 : List S :=
 [.own 4 "stack" ⟨128, 8, 128, 13⟩ [(.tup [(.loc 1 "node" ⟨128, 18, 128, 22⟩), (.loc 2 "low" ⟨128, 24, 128, 27⟩), (.loc 3 "high" ⟨128, 29, 128, 33⟩)] 0 ⟨128, 17, 128, 34⟩)] ⟨128, 16, 128, 35⟩ ⟨128, 8, 128, 35⟩,
   .while (.cmp .gt (.call .len "len" ⟨129, 14, 129, 17⟩ [(.loc 4 "stack" ⟨129, 18, 129, 23⟩)] ⟨129, 14, 129, 24⟩) (.int 0 ⟨129, 27, 129, 28⟩) ⟨129, 14, 129, 28⟩) [.assign 5 "top" ⟨130, 12, 130, 15⟩ (.idx (.loc 4 "stack" ⟨130, 18, 130, 23⟩) (.bin .sub (.call .len "len" ⟨130, 24, 130, 27⟩ [(.loc 4 "stack" ⟨130, 28, 130, 33⟩)] ⟨130, 24, 130, 34⟩) (.int 1 ⟨130, 37, 130, 38⟩) ⟨130, 24, 130, 38⟩) ⟨130, 18, 130, 39⟩) ⟨130, 12, 130, 39⟩,
     .del 4 "stack" ⟨131, 16, 131, 21⟩ (.bin .sub (.call .len "len" ⟨131, 22, 131, 25⟩ [(.loc 4 "stack" ⟨131, 26, 131, 31⟩)] ⟨131, 22, 131, 32⟩) (.int 1 ⟨131, 35, 131, 36⟩) ⟨131, 22, 131, 36⟩) ⟨131, 16, 131, 37⟩ ⟨131, 12, 131, 37⟩,
     .assign 6 "here" ⟨132, 12, 132, 16⟩ (.idx (.loc 5 "top" ⟨132, 19, 132, 22⟩) (.int 0 ⟨132, 23, 132, 24⟩) ⟨132, 19, 132, 25⟩) ⟨132, 12, 132, 25⟩,
     .assign 7 "row" ⟨133, 12, 133, 15⟩ (.attr (.loc 6 "here" ⟨133, 18, 133, 22⟩) 0 "key_row" ⟨133, 18, 133, 30⟩) ⟨133, 12, 133, 30⟩,
     .for 8 "i" ⟨134, 16, 134, 17⟩ (.call .range "range" ⟨134, 21, 134, 26⟩ [(.call .len "len" ⟨134, 27, 134, 30⟩ [(.loc 7 "row" ⟨134, 31, 134, 34⟩)] ⟨134, 27, 134, 35⟩)] ⟨134, 21, 134, 36⟩) [.ite (.and [(.cmp .isnot (.idx (.loc 5 "top" ⟨135, 19, 135, 22⟩) (.int 1 ⟨135, 23, 135, 24⟩) ⟨135, 19, 135, 25⟩) (.none ⟨135, 33, 135, 37⟩) ⟨135, 19, 135, 37⟩), (.cmp .le (.idx (.loc 7 "row" ⟨135, 42, 135, 45⟩) (.loc 8 "i" ⟨135, 46, 135, 47⟩) ⟨135, 42, 135, 48⟩) (.idx (.loc 5 "top" ⟨135, 52, 135, 55⟩) (.int 1 ⟨135, 56, 135, 57⟩) ⟨135, 52, 135, 58⟩) ⟨135, 42, 135, 58⟩)] ⟨135, 19, 135, 58⟩) [.ret (.bool false ⟨136, 27, 136, 32⟩) ⟨136, 20, 136, 32⟩] [] ⟨135, 16, 136, 32⟩,
       .ite (.and [(.cmp .isnot (.idx (.loc 5 "top" ⟨137, 19, 137, 22⟩) (.int 2 ⟨137, 23, 137, 24⟩) ⟨137, 19, 137, 25⟩) (.none ⟨137, 33, 137, 37⟩) ⟨137, 19, 137, 37⟩), (.cmp .ge (.idx (.loc 7 "row" ⟨137, 42, 137, 45⟩) (.loc 8 "i" ⟨137, 46, 137, 47⟩) ⟨137, 42, 137, 48⟩) (.idx (.loc 5 "top" ⟨137, 52, 137, 55⟩) (.int 2 ⟨137, 56, 137, 57⟩) ⟨137, 52, 137, 58⟩) ⟨137, 42, 137, 58⟩)] ⟨137, 19, 137, 58⟩) [.ret (.bool false ⟨138, 27, 138, 32⟩) ⟨138, 20, 138, 32⟩] [] ⟨137, 16, 138, 32⟩,
       .ite (.and [(.cmp .gt (.loc 8 "i" ⟨139, 19, 139, 20⟩) (.int 0 ⟨139, 23, 139, 24⟩) ⟨139, 19, 139, 24⟩), (.cmp .le (.idx (.loc 7 "row" ⟨139, 29, 139, 32⟩) (.loc 8 "i" ⟨139, 33, 139, 34⟩) ⟨139, 29, 139, 35⟩) (.idx (.loc 7 "row" ⟨139, 39, 139, 42⟩) (.bin .sub (.loc 8 "i" ⟨139, 43, 139, 44⟩) (.int 1 ⟨139, 47, 139, 48⟩) ⟨139, 43, 139, 48⟩) ⟨139, 39, 139, 49⟩) ⟨139, 29, 139, 49⟩)] ⟨139, 19, 139, 49⟩) [.ret (.bool false ⟨140, 27, 140, 32⟩) ⟨140, 20, 140, 32⟩] [] ⟨139, 16, 140, 32⟩] ⟨134, 12, 140, 32⟩,
     .for 9 "j" ⟨141, 16, 141, 17⟩ (.call .range "range" ⟨141, 21, 141, 26⟩ [(.call .len "len" ⟨141, 27, 141, 30⟩ [(.attr (.loc 6 "here" ⟨141, 31, 141, 35⟩) 2 "children" ⟨141, 31, 141, 44⟩)] ⟨141, 27, 141, 45⟩)] ⟨141, 21, 141, 46⟩) [.assign 10 "lo" ⟨142, 16, 142, 18⟩ (.idx (.loc 5 "top" ⟨142, 21, 142, 24⟩) (.int 1 ⟨142, 25, 142, 26⟩) ⟨142, 21, 142, 27⟩) ⟨142, 16, 142, 27⟩,
       .assign 11 "hi" ⟨143, 16, 143, 18⟩ (.idx (.loc 5 "top" ⟨143, 21, 143, 24⟩) (.int 2 ⟨143, 25, 143, 26⟩) ⟨143, 21, 143, 27⟩) ⟨143, 16, 143, 27⟩,
       .ite (.cmp .gt (.loc 9 "j" ⟨144, 19, 144, 20⟩) (.int 0 ⟨144, 23, 144, 24⟩) ⟨144, 19, 144, 24⟩) [.assign 10 "lo" ⟨145, 20, 145, 22⟩ (.idx (.loc 7 "row" ⟨145, 25, 145, 28⟩) (.bin .sub (.loc 9 "j" ⟨145, 29, 145, 30⟩) (.int 1 ⟨145, 33, 145, 34⟩) ⟨145, 29, 145, 34⟩) ⟨145, 25, 145, 35⟩) ⟨145, 20, 145, 35⟩] [] ⟨144, 16, 145, 35⟩,
       .ite (.cmp .lt (.loc 9 "j" ⟨146, 19, 146, 20⟩) (.call .len "len" ⟨146, 23, 146, 26⟩ [(.loc 7 "row" ⟨146, 27, 146, 30⟩)] ⟨146, 23, 146, 31⟩) ⟨146, 19, 146, 31⟩) [.assign 11 "hi" ⟨147, 20, 147, 22⟩ (.idx (.loc 7 "row" ⟨147, 25, 147, 28⟩) (.loc 9 "j" ⟨147, 29, 147, 30⟩) ⟨147, 25, 147, 31⟩) ⟨147, 20, 147, 31⟩] [] ⟨146, 16, 147, 31⟩,
       .append 4 "stack" ⟨148, 16, 148, 21⟩ ⟨148, 16, 148, 28⟩ (.tup [(.idx (.attr (.loc 6 "here" ⟨148, 30, 148, 34⟩) 2 "children" ⟨148, 30, 148, 43⟩) (.loc 9 "j" ⟨148, 44, 148, 45⟩) ⟨148, 30, 148, 46⟩), (.loc 10 "lo" ⟨148, 48, 148, 50⟩), (.loc 11 "hi" ⟨148, 52, 148, 54⟩)] 0 ⟨148, 29, 148, 55⟩) ⟨148, 16, 148, 56⟩ ⟨148, 16, 148, 56⟩] ⟨141, 12, 148, 56⟩] ⟨129, 8, 148, 56⟩,
   .ret (.bool true ⟨149, 15, 149, 19⟩) ⟨149, 8, 149, 19⟩]
noncomputable def nm20 : Nm := ⟨["self", "node", "low", "high", "stack", "top", "here", "row", "i", "j", "lo", "hi"], ["len", "range"], [], ["self", "node", "low", "high", "stack", "top", "here", "row", "i", "j", "lo", "hi"]⟩
noncomputable def f20 : Fn := .ast 4 [.unset, .unset, .unset, .unset, .unset, .unset, .unset, .unset] nm20 b20

/-- Canopy.leaf_level -/
noncomputable def b21 : List S :=
 [.assign 2 "level" ⟨152, 8, 152, 13⟩ (.neg 1 ⟨152, 17, 152, 18⟩ ⟨152, 16, 152, 18⟩) ⟨152, 8, 152, 18⟩,
   .own 3 "stack" ⟨153, 8, 153, 13⟩ [(.tup [(.loc 1 "node" ⟨153, 18, 153, 22⟩), (.int 0 ⟨153, 24, 153, 25⟩)] 0 ⟨153, 17, 153, 26⟩)] ⟨153, 16, 153, 27⟩ ⟨153, 8, 153, 27⟩,
   .while (.cmp .gt (.call .len "len" ⟨154, 14, 154, 17⟩ [(.loc 3 "stack" ⟨154, 18, 154, 23⟩)] ⟨154, 14, 154, 24⟩) (.int 0 ⟨154, 27, 154, 28⟩) ⟨154, 14, 154, 28⟩) [.assign 4 "top" ⟨155, 12, 155, 15⟩ (.idx (.loc 3 "stack" ⟨155, 18, 155, 23⟩) (.bin .sub (.call .len "len" ⟨155, 24, 155, 27⟩ [(.loc 3 "stack" ⟨155, 28, 155, 33⟩)] ⟨155, 24, 155, 34⟩) (.int 1 ⟨155, 37, 155, 38⟩) ⟨155, 24, 155, 38⟩) ⟨155, 18, 155, 39⟩) ⟨155, 12, 155, 39⟩,
     .del 3 "stack" ⟨156, 16, 156, 21⟩ (.bin .sub (.call .len "len" ⟨156, 22, 156, 25⟩ [(.loc 3 "stack" ⟨156, 26, 156, 31⟩)] ⟨156, 22, 156, 32⟩) (.int 1 ⟨156, 35, 156, 36⟩) ⟨156, 22, 156, 36⟩) ⟨156, 16, 156, 37⟩ ⟨156, 12, 156, 37⟩,
     .assign 5 "here" ⟨157, 12, 157, 16⟩ (.idx (.loc 4 "top" ⟨157, 19, 157, 22⟩) (.int 0 ⟨157, 23, 157, 24⟩) ⟨157, 19, 157, 25⟩) ⟨157, 12, 157, 25⟩,
     .ite (.e (.meth (.loc 5 "here" ⟨158, 15, 158, 19⟩) 0 "is_leaf" ⟨158, 15, 158, 27⟩ [] ⟨158, 15, 158, 29⟩)) [.ite (.cmp .eq (.loc 2 "level" ⟨159, 19, 159, 24⟩) (.neg 1 ⟨159, 29, 159, 30⟩ ⟨159, 28, 159, 30⟩) ⟨159, 19, 159, 30⟩) [.assign 2 "level" ⟨160, 20, 160, 25⟩ (.idx (.loc 4 "top" ⟨160, 28, 160, 31⟩) (.int 1 ⟨160, 32, 160, 33⟩) ⟨160, 28, 160, 34⟩) ⟨160, 20, 160, 34⟩] [.ite (.cmp .ne (.loc 2 "level" ⟨161, 21, 161, 26⟩) (.idx (.loc 4 "top" ⟨161, 30, 161, 33⟩) (.int 1 ⟨161, 34, 161, 35⟩) ⟨161, 30, 161, 36⟩) ⟨161, 21, 161, 36⟩) [.ret (.neg 1 ⟨162, 28, 162, 29⟩ ⟨162, 27, 162, 29⟩) ⟨162, 20, 162, 29⟩] [] ⟨161, 16, 162, 29⟩] ⟨159, 16, 162, 29⟩] [] ⟨158, 12, 162, 29⟩,
     .for 6 "child" ⟨163, 16, 163, 21⟩ (.attr (.loc 5 "here" ⟨163, 25, 163, 29⟩) 2 "children" ⟨163, 25, 163, 38⟩) [.append 3 "stack" ⟨164, 16, 164, 21⟩ ⟨164, 16, 164, 28⟩ (.tup [(.loc 6 "child" ⟨164, 30, 164, 35⟩), (.bin .add (.idx (.loc 4 "top" ⟨164, 37, 164, 40⟩) (.int 1 ⟨164, 41, 164, 42⟩) ⟨164, 37, 164, 43⟩) (.int 1 ⟨164, 46, 164, 47⟩) ⟨164, 37, 164, 47⟩)] 0 ⟨164, 29, 164, 48⟩) ⟨164, 16, 164, 49⟩ ⟨164, 16, 164, 49⟩] ⟨163, 12, 164, 49⟩] ⟨154, 8, 164, 49⟩,
   .ret (.loc 2 "level" ⟨165, 15, 165, 20⟩) ⟨165, 8, 165, 20⟩]
noncomputable def nm21 : Nm := ⟨["self", "node", "level", "stack", "top", "here", "child"], ["len"], [], ["self", "node", "level", "stack", "top", "here", "child"]⟩
noncomputable def f21 : Fn := .ast 2 [.unset, .unset, .unset, .unset, .unset] nm21 b21

/-- Canopy.check -/
noncomputable def b22 : List S :=
 [.ite (.not (.e (.meth (.loc 0 "self" ⟨168, 15, 168, 19⟩) 7 "shape_ok" ⟨168, 15, 168, 28⟩ [(.attr (.loc 0 "self" ⟨168, 29, 168, 33⟩) 4 "root" ⟨168, 29, 168, 38⟩), (.bool true ⟨168, 40, 168, 44⟩)] ⟨168, 15, 168, 45⟩)) ⟨168, 11, 168, 45⟩) [.ret (.bool false ⟨169, 19, 169, 24⟩) ⟨169, 12, 169, 24⟩] [] ⟨168, 8, 169, 24⟩,
   .ite (.not (.e (.meth (.loc 0 "self" ⟨170, 15, 170, 19⟩) 8 "keys_ok" ⟨170, 15, 170, 27⟩ [(.attr (.loc 0 "self" ⟨170, 28, 170, 32⟩) 4 "root" ⟨170, 28, 170, 37⟩), (.none ⟨170, 39, 170, 43⟩), (.none ⟨170, 45, 170, 49⟩)] ⟨170, 15, 170, 50⟩)) ⟨170, 11, 170, 50⟩) [.ret (.bool false ⟨171, 19, 171, 24⟩) ⟨171, 12, 171, 24⟩] [] ⟨170, 8, 171, 24⟩,
   .ite (.cmp .lt (.meth (.loc 0 "self" ⟨172, 11, 172, 15⟩) 9 "leaf_level" ⟨172, 11, 172, 26⟩ [(.attr (.loc 0 "self" ⟨172, 27, 172, 31⟩) 4 "root" ⟨172, 27, 172, 36⟩)] ⟨172, 11, 172, 37⟩) (.int 0 ⟨172, 40, 172, 41⟩) ⟨172, 11, 172, 41⟩) [.ret (.bool false ⟨173, 19, 173, 24⟩) ⟨173, 12, 173, 24⟩] [] ⟨172, 8, 173, 24⟩,
   .ret (.cmp .eq (.meth (.loc 0 "self" ⟨174, 15, 174, 19⟩) 11 "count_below" ⟨174, 15, 174, 31⟩ [(.attr (.loc 0 "self" ⟨174, 32, 174, 36⟩) 4 "root" ⟨174, 32, 174, 41⟩)] ⟨174, 15, 174, 42⟩) (.attr (.loc 0 "self" ⟨174, 46, 174, 50⟩) 5 "size" ⟨174, 46, 174, 55⟩) ⟨174, 15, 174, 55⟩) ⟨174, 8, 174, 55⟩]
noncomputable def nm22 : Nm := ⟨["self"], [], [], ["self"]⟩
noncomputable def f22 : Fn := .ast 1 [] nm22 b22

/-- Canopy.count_below -/
noncomputable def b23 : List S :=
 [.assign 2 "total" ⟨180, 8, 180, 13⟩ (.int 0 ⟨180, 16, 180, 17⟩) ⟨180, 8, 180, 17⟩,
   .own 3 "stack" ⟨181, 8, 181, 13⟩ [(.loc 1 "node" ⟨181, 17, 181, 21⟩)] ⟨181, 16, 181, 22⟩ ⟨181, 8, 181, 22⟩,
   .while (.cmp .gt (.call .len "len" ⟨182, 14, 182, 17⟩ [(.loc 3 "stack" ⟨182, 18, 182, 23⟩)] ⟨182, 14, 182, 24⟩) (.int 0 ⟨182, 27, 182, 28⟩) ⟨182, 14, 182, 28⟩) [.assign 4 "here" ⟨183, 12, 183, 16⟩ (.idx (.loc 3 "stack" ⟨183, 19, 183, 24⟩) (.bin .sub (.call .len "len" ⟨183, 25, 183, 28⟩ [(.loc 3 "stack" ⟨183, 29, 183, 34⟩)] ⟨183, 25, 183, 35⟩) (.int 1 ⟨183, 38, 183, 39⟩) ⟨183, 25, 183, 39⟩) ⟨183, 19, 183, 40⟩) ⟨183, 12, 183, 40⟩,
     .del 3 "stack" ⟨184, 16, 184, 21⟩ (.bin .sub (.call .len "len" ⟨184, 22, 184, 25⟩ [(.loc 3 "stack" ⟨184, 26, 184, 31⟩)] ⟨184, 22, 184, 32⟩) (.int 1 ⟨184, 35, 184, 36⟩) ⟨184, 22, 184, 36⟩) ⟨184, 16, 184, 37⟩ ⟨184, 12, 184, 37⟩,
     .assign 2 "total" ⟨185, 12, 185, 17⟩ (.bin .add (.loc 2 "total" ⟨185, 20, 185, 25⟩) (.call .len "len" ⟨185, 28, 185, 31⟩ [(.attr (.loc 4 "here" ⟨185, 32, 185, 36⟩) 0 "key_row" ⟨185, 32, 185, 44⟩)] ⟨185, 28, 185, 45⟩) ⟨185, 20, 185, 45⟩) ⟨185, 12, 185, 45⟩,
     .for 5 "child" ⟨186, 16, 186, 21⟩ (.attr (.loc 4 "here" ⟨186, 25, 186, 29⟩) 2 "children" ⟨186, 25, 186, 38⟩) [.append 3 "stack" ⟨187, 16, 187, 21⟩ ⟨187, 16, 187, 28⟩ (.loc 5 "child" ⟨187, 29, 187, 34⟩) ⟨187, 16, 187, 35⟩ ⟨187, 16, 187, 35⟩] ⟨186, 12, 187, 35⟩] ⟨182, 8, 187, 35⟩,
   .ret (.loc 2 "total" ⟨188, 15, 188, 20⟩) ⟨188, 8, 188, 20⟩]
noncomputable def nm23 : Nm := ⟨["self", "node", "total", "stack", "here", "child"], ["len"], [], ["self", "node", "total", "stack", "here", "child"]⟩
noncomputable def f23 : Fn := .ast 2 [.unset, .unset, .unset, .unset] nm23 b23

/-- Canopy.flat_below -/
noncomputable def b24 : List S :=
 [.own 2 "out" ⟨200, 8, 200, 11⟩ [] ⟨200, 14, 200, 16⟩ ⟨200, 8, 200, 16⟩,
   .own 3 "stack" ⟨201, 8, 201, 13⟩ [(.loc 1 "node" ⟨201, 17, 201, 21⟩)] ⟨201, 16, 201, 22⟩ ⟨201, 8, 201, 22⟩,
   .while (.cmp .gt (.call .len "len" ⟨202, 14, 202, 17⟩ [(.loc 3 "stack" ⟨202, 18, 202, 23⟩)] ⟨202, 14, 202, 24⟩) (.int 0 ⟨202, 27, 202, 28⟩) ⟨202, 14, 202, 28⟩) [.assign 4 "here" ⟨203, 12, 203, 16⟩ (.idx (.loc 3 "stack" ⟨203, 19, 203, 24⟩) (.bin .sub (.call .len "len" ⟨203, 25, 203, 28⟩ [(.loc 3 "stack" ⟨203, 29, 203, 34⟩)] ⟨203, 25, 203, 35⟩) (.int 1 ⟨203, 38, 203, 39⟩) ⟨203, 25, 203, 39⟩) ⟨203, 19, 203, 40⟩) ⟨203, 12, 203, 40⟩,
     .del 3 "stack" ⟨204, 16, 204, 21⟩ (.bin .sub (.call .len "len" ⟨204, 22, 204, 25⟩ [(.loc 3 "stack" ⟨204, 26, 204, 31⟩)] ⟨204, 22, 204, 32⟩) (.int 1 ⟨204, 35, 204, 36⟩) ⟨204, 22, 204, 36⟩) ⟨204, 16, 204, 37⟩ ⟨204, 12, 204, 37⟩,
     .append 2 "out" ⟨205, 12, 205, 15⟩ ⟨205, 12, 205, 22⟩ (.call .len "len" ⟨205, 23, 205, 26⟩ [(.attr (.loc 4 "here" ⟨205, 27, 205, 31⟩) 0 "key_row" ⟨205, 27, 205, 39⟩)] ⟨205, 23, 205, 40⟩) ⟨205, 12, 205, 41⟩ ⟨205, 12, 205, 41⟩,
     .for 5 "k" ⟨206, 16, 206, 17⟩ (.attr (.loc 4 "here" ⟨206, 21, 206, 25⟩) 0 "key_row" ⟨206, 21, 206, 33⟩) [.append 2 "out" ⟨207, 16, 207, 19⟩ ⟨207, 16, 207, 26⟩ (.loc 5 "k" ⟨207, 27, 207, 28⟩) ⟨207, 16, 207, 29⟩ ⟨207, 16, 207, 29⟩] ⟨206, 12, 207, 29⟩,
     .for 6 "v" ⟨208, 16, 208, 17⟩ (.attr (.loc 4 "here" ⟨208, 21, 208, 25⟩) 1 "value_row" ⟨208, 21, 208, 35⟩) [.append 2 "out" ⟨209, 16, 209, 19⟩ ⟨209, 16, 209, 26⟩ (.loc 6 "v" ⟨209, 27, 209, 28⟩) ⟨209, 16, 209, 29⟩ ⟨209, 16, 209, 29⟩] ⟨208, 12, 209, 29⟩,
     .append 2 "out" ⟨210, 12, 210, 15⟩ ⟨210, 12, 210, 22⟩ (.call .len "len" ⟨210, 23, 210, 26⟩ [(.attr (.loc 4 "here" ⟨210, 27, 210, 31⟩) 2 "children" ⟨210, 27, 210, 40⟩)] ⟨210, 23, 210, 41⟩) ⟨210, 12, 210, 42⟩ ⟨210, 12, 210, 42⟩,
     .for 7 "j" ⟨211, 16, 211, 17⟩ (.call .range "range" ⟨211, 21, 211, 26⟩ [(.bin .sub (.call .len "len" ⟨211, 27, 211, 30⟩ [(.attr (.loc 4 "here" ⟨211, 31, 211, 35⟩) 2 "children" ⟨211, 31, 211, 44⟩)] ⟨211, 27, 211, 45⟩) (.int 1 ⟨211, 48, 211, 49⟩) ⟨211, 27, 211, 49⟩), (.neg 1 ⟨211, 52, 211, 53⟩ ⟨211, 51, 211, 53⟩), (.neg 1 ⟨211, 56, 211, 57⟩ ⟨211, 55, 211, 57⟩)] ⟨211, 21, 211, 58⟩) [.append 3 "stack" ⟨212, 16, 212, 21⟩ ⟨212, 16, 212, 28⟩ (.idx (.attr (.loc 4 "here" ⟨212, 29, 212, 33⟩) 2 "children" ⟨212, 29, 212, 42⟩) (.loc 7 "j" ⟨212, 43, 212, 44⟩) ⟨212, 29, 212, 45⟩) ⟨212, 16, 212, 46⟩ ⟨212, 16, 212, 46⟩] ⟨211, 12, 212, 46⟩] ⟨202, 8, 212, 46⟩,
   .freeze 2,
   .ret (.loc 2 "out" ⟨213, 15, 213, 18⟩) ⟨213, 8, 213, 18⟩]
noncomputable def nm24 : Nm := ⟨["self", "node", "out", "stack", "here", "k", "v", "j"], ["len", "range"], [], ["self", "node", "out", "stack", "here", "k", "v", "j"]⟩
noncomputable def f24 : Fn := .ast 2 [.unset, .unset, .unset, .unset, .unset, .unset] nm24 b24

/-- Canopy.flat -/
noncomputable def b25 : List S :=
 [.ret (.bin .add (.list [(.attr (.loc 0 "self" ⟨216, 16, 216, 20⟩) 3 "t" ⟨216, 16, 216, 22⟩)] ⟨216, 15, 216, 23⟩) (.meth (.loc 0 "self" ⟨216, 26, 216, 30⟩) 12 "flat_below" ⟨216, 26, 216, 41⟩ [(.attr (.loc 0 "self" ⟨216, 42, 216, 46⟩) 4 "root" ⟨216, 42, 216, 51⟩)] ⟨216, 26, 216, 52⟩) ⟨216, 15, 216, 52⟩) ⟨216, 8, 216, 52⟩]
noncomputable def nm25 : Nm := ⟨["self"], [], [], ["self"]⟩
noncomputable def f25 : Fn := .ast 1 [] nm25 b25


noncomputable def fns2 (k : Nat) : Option Fn := Option.casesOn (nth [some f0, some f1, some f2, some f3, some f4, some f5, some f6, some f7, some f8, none, some f10, some f11, some f12, some f13, some f14, some f15, some f16, some f17, some f18, some f19, some f20, some f21, some f22, some f23, some f24, some f25] k) none fun x => x

noncomputable def addr2 (k : Nat) : Addr := [266, 271, 276, 283, 290, 295, 302, 309, 314, 319, 35, 42, 49, 77, 84, 91, 98, 168, 175, 182, 189, 196, 203, 217, 245, 252].getD k 0

noncomputable def gname2 (k : Nat) : Option Str := nth ["_law_cell", "_law_groups", "_law_node", "_law_branch", "_law_blueprint", "_law_build", "_law_head", "_law_flat", "_law_spoilt", "law"] k

noncomputable def cname2 (k : Nat) : Option Str := nth ["Node", "Canopy"] k

noncomputable def init2 (k : Nat) : Nat := Nat.casesOn k 10 fun _ => 13

noncomputable def mth2 (c f : Nat) : Option Nat := Option.casesOn (nth ([[some 11, some 12, none, none, none, none, none, none, none, none, none, none, none, none, none], [none, none, some 14, some 15, some 16, some 17, some 18, some 19, some 20, some 21, some 22, some 23, some 24, some 25, none]] : List (List (Option Nat))) c) none fun t => Option.casesOn (nth t f) none fun x => x

noncomputable def mname2 (k : Nat) : Option Str := nth ["is_leaf", "slot", "adopt", "lookup", "height", "pairs_below", "pairs", "shape_ok", "keys_ok", "leaf_level", "check", "count_below", "flat_below", "flat", "get"] k

noncomputable def fpos2 (c f : Nat) : Option Nat := Option.casesOn (nth ([[some 0, some 1, some 2], [none, none, none, some 0, some 1, some 2]] : List (List (Option Nat))) c) none fun t => Option.casesOn (nth t f) none fun x => x

noncomputable def aname2 (k : Nat) : Option Str := nth ["key_row", "value_row", "children", "t", "root", "size"] k

noncomputable def pg2 : Pg := ⟨fns2, addr2, gname2, cname2, init2, mth2, mname2, fpos2, aname2⟩
end Mine

namespace Mine
open PySem PySem.W PySem.Calls PyProof.Rows

/-- parts of a text -/
def S.bd : S → List S
  | .while _ b _ => b
  | .for _ _ _ _ b _ => b
  | .ite _ a _ _ => a
  | _ => []
def S.el : S → List S
  | .ite _ _ b _ => b
  | _ => []
def S.cd : S → C
  | .while c _ _ => c
  | .ite c _ _ _ => c
  | _ => .and [] ⟨0, 0, 0, 0⟩
def sAt (l : List S) (i : Nat) : S := l.getD i (.freeze 0)

/-- a tree -/
inductive T where
  | nd (ks vs : List V) (cs : List T)
mutual
def T.size : T → Nat
  | .nd ks vs cs => 1 + ks.length + vs.length + Ts.size cs
def Ts.size : List T → Nat
  | [] => 0
  | t :: ts => t.size + Ts.size ts
end
theorem T.size_pos (t : T) : 0 < t.size := by cases t; rw [T.size]; omega
theorem Ts.size_app (a b : List T) : Ts.size (a ++ b) = Ts.size a + Ts.size b := by
  induction a with
  | nil => simp [Ts.size]
  | cons t a ih => simp [Ts.size, ih]; omega
theorem Ts.size_rev (a : List T) : Ts.size a.reverse = Ts.size a := by
  induction a with
  | nil => rfl
  | cons t a ih => rw [List.reverse_cons, Ts.size_app, ih]; simp [Ts.size]; omega
theorem Ts.len_le (a : List T) : a.length ≤ Ts.size a := by
  induction a with
  | nil => exact Nat.le_refl _
  | cons t a ih => have := t.size_pos; simp [Ts.size]; omega
inductive Rep (st : List Inst) : Nat → T → Prop where
  | nd {k : Nat} {ks vs : List V} {kids : List (Nat × T)} : st[k]? = some ⟨0, [.list ks, .list vs, .list (kids.map fun x => .obj x.1)]⟩ → (∀ x ∈ kids, Rep st x.1 x.2) → Rep st k (.nd ks vs (kids.map (·.2)))
theorem Rep.inv {st : List Inst} {k : Nat} {t : T} (h : Rep st k t) : ∃ (ks vs : List V) (kids : List (Nat × T)), st[k]? = some ⟨0, [.list ks, .list vs, .list (kids.map fun x => .obj x.1)]⟩ ∧ (∀ x ∈ kids, Rep st x.1 x.2) ∧ t = .nd ks vs (kids.map (·.2)) := by
  cases h with
  | nd a b => exact ⟨_, _, _, a, b, rfl⟩
theorem Rep.mono {st st' : List Inst} (hs : ∀ (k : Nat) (i : Inst), st[k]? = some i → i.cls = 0 → st'[k]? = some i) {k : Nat} {t : T} (h : Rep st k t) : Rep st' k t := by
  induction h with
  | nd a _ ih => exact .nd (hs _ _ a rfl) ih

section
variable {c : Cn} {nm : Nm} {n : Nat} {loc loc₁ loc₂ : List LV} {st st₁ st₂ : List Inst} {fl : Fl}
theorem bt2 (P : PgOk c pg2) {x : Str} {f : Value} (hx : x ∈ [("len" : Str), "sum", "max", "list", "tuple", "range"]) (gl : x ∈ nm.gs) (boot : bootBuiltins x = some f) (nn : x ≠ "__name__") (dbg : (x == ("__debug__" : Str)) = false) : BtOk c nm x f := ⟨gl, P.blt x hx, boot, nn, dbg⟩
theorem btLen (P : PgOk c pg2) (gl : ("len" : Str) ∈ nm.gs) : BtOk c nm "len" (.builtin "len") := bt2 P (by simp) gl rfl (by decide +kernel) (by decide +kernel)
theorem btRange (P : PgOk c pg2) (gl : ("range" : Str) ∈ nm.gs) : BtOk c nm "range" (.type "range") := bt2 P (by simp) gl rfl (by decide +kernel) (by decide +kernel)
theorem btMax (P : PgOk c pg2) (gl : ("max" : Str) ∈ nm.gs) : BtOk c nm "max" (.builtin "max") := bt2 P (by simp) gl rfl (by decide +kernel) (by decide +kernel)
theorem btSum (P : PgOk c pg2) (gl : ("sum" : Str) ∈ nm.gs) : BtOk c nm "sum" (.builtin "sum") := bt2 P (by simp) gl rfl (by decide +kernel) (by decide +kernel)
theorem btList (P : PgOk c pg2) (gl : ("list" : Str) ∈ nm.gs) : BtOk c nm "list" (.type "list") := bt2 P (by simp) gl rfl (by decide +kernel) (by decide +kernel)
theorem btTuple (P : PgOk c pg2) (gl : ("tuple" : Str) ∈ nm.gs) : BtOk c nm "tuple" (.type "tuple") := bt2 P (by simp) gl rfl (by decide +kernel) (by decide +kernel)

theorem fn_ex (P : PgOk c pg2) {k np : Nat} {pad : List LV} {body : List S} {vs : List V} {v : V} (hk : pg2.fns k = some (.ast np pad nm body)) (hl : vs.length = np) (h : ∃ loc, SS c nm n body (locInit nm vs) st fl loc st₂) (hv : FlV fl v) : SCode c (n + 1) (pg2.addr k) vs st v st₂ :=
  let ⟨_, h⟩ := h; fn_code P hk hl h hv
/-- fields -/
theorem aGet (P : PgOk c pg2) {cl f j : Nat} {x : Str} (hp : pg2.fpos cl f = some j) (hn : pg2.aname f = some x) {e : E} {k : Nat} {p : Ps} {i : Inst} {v : V} (he : SE c nm n e loc st (.obj k) st₁) (hi : st₁[k]? = some i) (hcl : i.cls = cl) (hf : i.fs[j]? = some v) (hc : e.nocall = true) :
    SE c nm n (.attr e f x p) loc st v st₁ := by
  subst hcl
  obtain ⟨x', h1, h2, h3, _⟩ := P.attr _ _ _ hp
  rw [hn] at h1; cases h1
  exact sE_attr (f := j) (p := p) he hi h3 (P.nd _) h2 hf hc
section
variable {e : E} {k : Nat} {p : Ps} {ks vs cs : V}
theorem aKeys (P : PgOk c pg2) (he : SE c nm n e loc st (.obj k) st) (hi : st[k]? = some ⟨0, [ks, vs, cs]⟩) (hc : e.nocall = true) : SE c nm n (.attr e 0 "key_row" p) loc st ks st := aGet P (cl := 0) (j := 0) rfl rfl he hi rfl rfl hc
theorem aVals (P : PgOk c pg2) (he : SE c nm n e loc st (.obj k) st) (hi : st[k]? = some ⟨0, [ks, vs, cs]⟩) (hc : e.nocall = true) : SE c nm n (.attr e 1 "value_row" p) loc st vs st := aGet P (cl := 0) (j := 1) rfl rfl he hi rfl rfl hc
theorem aKids (P : PgOk c pg2) (he : SE c nm n e loc st (.obj k) st) (hi : st[k]? = some ⟨0, [ks, vs, cs]⟩) (hc : e.nocall = true) : SE c nm n (.attr e 2 "children" p) loc st cs st := aGet P (cl := 0) (j := 2) rfl rfl he hi rfl rfl hc
theorem aT (P : PgOk c pg2) (he : SE c nm n e loc st (.obj k) st) (hi : st[k]? = some ⟨1, [ks, vs, cs]⟩) (hc : e.nocall = true) : SE c nm n (.attr e 3 "t" p) loc st ks st := aGet P (cl := 1) (j := 0) rfl rfl he hi rfl rfl hc
theorem aRoot (P : PgOk c pg2) (he : SE c nm n e loc st (.obj k) st) (hi : st[k]? = some ⟨1, [ks, vs, cs]⟩) (hc : e.nocall = true) : SE c nm n (.attr e 4 "root" p) loc st vs st := aGet P (cl := 1) (j := 1) rfl rfl he hi rfl rfl hc
theorem aSize (P : PgOk c pg2) (he : SE c nm n e loc st (.obj k) st) (hi : st[k]? = some ⟨1, [ks, vs, cs]⟩) (hc : e.nocall = true) : SE c nm n (.attr e 5 "size" p) loc st cs st := aGet P (cl := 1) (j := 2) rfl rfl he hi rfl rfl hc
end
theorem mCall (P : PgOk c pg2) {cl f kf : Nat} {x : Str} (hm : pg2.mth cl f = some kf) (hn : pg2.mname f = some x) {o : E} {es : List E} {q p : Ps} {k : Nat} {i : Inst} {vs : List V} {v : V} (ho : SE c nm n o loc st (.obj k) st) (hi : st[k]? = some i) (hcl : i.cls = cl) (hs : SEs c nm n es loc st vs st) (hc : SCode c n (addr2 kf) (.obj k :: vs) st v st₁) (hoc : o.nocall = true) (hz : es.length < 29) (hline : (q.endLine == p.line) = true) :
    SE c nm n (.meth o f x q es p) loc st v st₁ := by
  subst hcl
  obtain ⟨x', h1, h2⟩ := P.mth _ _ _ hm
  rw [hn] at h1; cases h1
  exact sE_meth ho hi h2 hs hc.call hoc hz hline
theorem eLen (P : PgOk c pg2) (gl : ("len" : Str) ∈ nm.gs) {e : E} {q p : Ps} {xs : List V} (he : SE c nm n e loc st (.list xs) st₁) (hz : xs.length ≤ 1000000) : SE c nm n (.call .len "len" q [e] p) loc st (.int xs.length) st₁ :=
  sE_bltF (btLen P gl) (sEs_cons he sEs_nil) (blt_len hz)
theorem eLenT (P : PgOk c pg2) (gl : ("len" : Str) ∈ nm.gs) {e : E} {q p : Ps} {xs : List V} (he : SE c nm n e loc st (.tup xs) st₁) (hz : xs.length ≤ 1000000) : SE c nm n (.call .len "len" q [e] p) loc st (.int xs.length) st₁ :=
  sE_bltF (btLen P gl) (sEs_cons he sEs_nil) (blt_lenT hz)
theorem se_eq {e : E} {v v' : V} (h : SE c nm n e loc st v st₁) (e' : v = v') : SE c nm n e loc st v' st₁ := e' ▸ h
theorem sc_eq {e : C} {b b' : Bool} (h : SC c nm n e loc st b st₁) (e' : b = b') : SC c nm n e loc st b' st₁ := e' ▸ h

theorem eAdd {e1 e2 : E} {p : Ps} {a b : Nat} (h1 : SE c nm n e1 loc st (.int (a : Int)) st) (h2 : SE c nm n e2 loc st (.int (b : Int)) st) : SE c nm n (.bin .add e1 e2 p) loc st (.int ((a + b : Nat) : Int)) st := se_eq (sE_bin h1 h2 (bin_add rfl rfl)) rfl
theorem eNat {k : Nat} {i : Int} {p : Ps} (h : i = (k : Int)) : SE c nm n (.int i p) loc st (.int (k : Int)) st := by subst h; exact sE_int
/-- is_leaf -/
theorem leaf_code (P : PgOk c pg2) (n : Nat) {k : Nat} {ks vs cs : List V} (hi : st[k]? = some ⟨0, [.list ks, .list vs, .list cs]⟩) (hz : cs.length ≤ 1000000) : SCode c (n + 1) (addr2 11) [.obj k] st (.bool (((cs.length : Nat) : Int) == 0)) st :=
  fn_code P (k := 11) (nm := nm11) (body := b11) (pad := []) (np := 1) (loc := [.v (.obj k)]) (fl := .ret (.bool (((cs.length : Nat) : Int) == 0))) rfl rfl
    (ss_return (sE_cmp (eLen P (by decide +kernel) (aKids P (sE_loc rfl rfl (by decide +kernel)) hi rfl) hz) sE_int (cmp_eqi rfl rfl))) (.ret _)
/-- x.is_leaf() as a condition -/
theorem cLeaf (P : PgOk c pg2) {o : E} {q p : Ps} {k : Nat} {ks vs cs : List V} (ho : SE c nm (n + 1) o loc st (.obj k) st) (hoc : o.nocall = true) (hi : st[k]? = some ⟨0, [.list ks, .list vs, .list cs]⟩) (hz : cs.length ≤ 1000000) (hline : (q.endLine == p.line) = true) :
    SC c nm (n + 1) (.e (.meth o 0 "is_leaf" q [] p)) loc st cs.isEmpty st := by
  refine sC_bool (se_eq (mCall P (cl := 0) (kf := 11) rfl rfl ho hi rfl sEs_nil (leaf_code P n hi hz) hoc (by decide) hline) ?_) rfl
  cases cs with
  | nil => rfl
  | cons a l =>
    have hq : ((((a :: l).length : Nat) : Int) == 0) = false := by rw [List.length_cons, beq_eq_false_iff_ne]; omega
    rw [hq]; rfl
end
end Mine

namespace Mine
open PySem PySem.W PySem.Calls PyProof.Rows
mutual
def T.cnt : T → Nat
  | .nd ks _ cs => ks.length + Ts.cnt cs
def Ts.cnt : List T → Nat
  | [] => 0
  | t :: ts => t.cnt + Ts.cnt ts
end
mutual
def T.flat : T → List V
  | .nd ks vs cs => [.int ks.length] ++ ks ++ vs ++ [.int cs.length] ++ Ts.flat cs
def Ts.flat : List T → List V
  | [] => []
  | t :: ts => t.flat ++ Ts.flat ts
end
def zp : List V → List V → List V
  | a :: l, b :: r => .tup [a, b] :: zp l r
  | _, _ => []
mutual
def T.prs : T → List V
  | .nd ks vs cs => Ts.inter cs (zp ks vs)
def Ts.inter : List T → List V → List V
  | [], qs => qs
  | t :: ts, [] => t.prs ++ Ts.inter ts []
  | t :: ts, q :: qs => t.prs ++ q :: Ts.inter ts qs
end
def lfD (cs : List T) (d : Nat) : List Nat := match cs with
  | [] => [d]
  | _ => []
def lfL (cs : List T) (lv d : Int) : Int := match cs with
  | [] => bif lv == -1 then d else lv
  | _ => lv
mutual
def T.dep : T → Nat → List Nat
  | .nd _ _ cs, d => lfD cs d ++ Ts.dep cs (d + 1)
def Ts.dep : List T → Nat → List Nat
  | [], _ => []
  | t :: ts, d => Ts.dep ts d ++ t.dep d
end
def lvGo (l : Int) : List Nat → Int
  | [] => l
  | d :: ds => bif l == -1 then lvGo d ds else bif l == (d : Int) then lvGo l ds else -1
def T.lvl (t : T) : Int := lvGo (-1) (t.dep 0)
def nodeOk (t : Nat) (root : Bool) (k v c : Nat) : Bool := Nat.beq v k && Nat.ble (k + 1) (2 * t) && (root || Nat.ble t (k + 1)) && (Nat.beq c 0 || Nat.beq c (k + 1))
mutual
def T.shp (t : Nat) : Bool → T → Bool
  | root, .nd ks vs cs => nodeOk t root ks.length vs.length cs.length && Ts.shp t cs
def Ts.shp (t : Nat) : List T → Bool
  | [] => true
  | x :: xs => x.shp t false && Ts.shp t xs
end
mutual
def T.hgt : T → Nat
  | .nd _ _ cs => Ts.hgt cs
def Ts.hgt : List T → Nat
  | [] => 0
  | x :: _ => x.hgt + 1
end
-- every node lawful for the walk in order
mutual
def T.law : T → Bool
  | .nd ks vs cs => Nat.beq vs.length ks.length && (Nat.beq cs.length 0 || Nat.beq cs.length (ks.length + 1)) && Ts.law cs
def Ts.law : List T → Bool
  | [] => true
  | x :: xs => x.law && Ts.law xs
end
section
variable (lt : V → V → Bool)
def pvOk (p : Option V) (k : V) : Bool := match p with
  | none => true
  | some q => lt q k
def rowOk (lo hi : V) : Option V → List V → Bool
  | _, [] => true
  | p, k :: ks => (lo.isNone || lt lo k) && (hi.isNone || lt k hi) && pvOk lt p k && rowOk lo hi (some k) ks
mutual
def T.kok : T → V → V → Bool
  | .nd ks _ cs, lo, hi => rowOk lt lo hi none ks && Ts.kok cs ks lo hi
/-- children with the keys between; lo: the bound below the first -/
def Ts.kok : List T → List V → V → V → Bool
  | [], _, _, _ => true
  | c :: cs, [], lo, hi => c.kok lo hi && Ts.kok cs [] lo hi
  | c :: cs, k :: ks, lo, hi => c.kok lo k && Ts.kok cs ks k hi
end
end
/-- the search in a node -/
def slotGo (lt : V → Bool) (ks : List V) : Nat → Nat → Nat → Nat
  | 0, lo, _ => lo
  | f + 1, lo, hi => bif Nat.ble hi lo then lo else
      bif lt (ks.getD ((lo + hi) / 2) .none) then slotGo lt ks f ((lo + hi) / 2 + 1) hi else slotGo lt ks f lo ((lo + hi) / 2)
def slotP (lt : V → Bool) (ks : List V) : Nat := slotGo lt ks ks.length 0 ks.length
def nthT (cs : List T) (i : Nat) : T := cs.getD i (.nd [] [] [])
def lookP (lt eq : V → Bool) : Nat → T → V
  | 0, _ => .none
  | f + 1, .nd ks vs cs =>
    let i := slotP lt ks
    bif Nat.ble (i + 1) ks.length && eq (ks.getD i .none) then vs.getD i .none else
    bif cs.isEmpty then .none else lookP lt eq f (nthT cs i)
/-- the blueprint -/
def V.at0 : V → V
  | .tup (a :: _) => a
  | _ => .none
def V.at1 : V → V
  | .tup (_ :: b :: _) => b
  | _ => .none
def mkN (part : List V) (kids : List T) : T := .nd (part.map V.at0) (part.map V.at1) kids
def brGo (run : List V) : Nat → List Nat → List T → List V → List T × List V
  | _, [], kids, seps => (kids, seps)
  | p, n :: ns, kids, seps => brGo run (p + n + 1) ns (kids ++ [mkN ((run.drop p).take n) []]) (seps ++ [run.getD (p + n) .none])
def brP (run : List V) (p : Nat) (sizes : List Nat) : T := let r := brGo run p sizes [] []; mkN (r.2.take (r.2.length - 1)) r.1
def nsum : List Nat → Nat
  | [] => 0
  | n :: ns => n + nsum ns
def bpGo (run : List V) : Nat → List (List Nat) → List T → List V → List T × List V
  | _, [], kids, seps => (kids, seps)
  | p, g :: gs, kids, seps => bpGo run (p + nsum g + g.length) gs (kids ++ [brP run p g]) (seps ++ [run.getD (p + nsum g + g.length - 1) .none])
def bpP (run : List V) (h : Nat) (gs : List (List Nat)) : T :=
  bif Nat.beq h 0 then mkN (run.take ((gs.getD 0 []).getD 0 0)) [] else
  let r := bpGo run 0 gs [] []
  bif Nat.beq h 1 then nthT r.1 0 else mkN (r.2.take (r.2.length - 1)) r.1
def totS (gs : List (List Nat)) : Nat := nsum (gs.map fun g => nsum g + g.length)
def totP (gs : List (List Nat)) : Nat := totS gs - 1
def runF (f : Nat → Nat → V) : Nat → Nat → List V
  | 0, _ => []
  | n + 1, i => f i i :: runF f n (i + 1)
def runP : List V := runF (fun i j => .tup [.key i, .val j]) 18 0

def T.deep : Nat → T → Bool
  | 0, _ => false
  | f + 1, .nd _ _ cs => cs.all (T.deep f)
def V.num (c : Cn) (v : V) : Int := (v.iv c).getD 0
def V.lt (c : Cn) (a b : V) : Bool := match a, b with
  | .key i, .key j => Nat.ble (i + 1) j
  | a, b => decide (a.num c < b.num c)
theorem kv_lt_iff (c : Cn) (i j : Nat) : c.kv i < c.kv j ↔ i < j := by
  constructor
  · intro h
    rcases Nat.lt_trichotomy i j with q | q | q
    · exact q
    · subst q; exact absurd h (Int.lt_irrefl _)
    · exact absurd (Int.lt_trans h (c.kv_lt j i q)) (Int.lt_irrefl _)
  · exact c.kv_lt i j
theorem V.lt_eq (c : Cn) (a b : V) : V.lt c a b = decide (a.num c < b.num c) := by
  unfold V.lt
  split
  · rename_i i j
    show Nat.ble (i + 1) j = decide (c.kv i < c.kv j)
    rw [Bool.eq_iff_iff, Nat.ble_eq, decide_eq_true_eq, kv_lt_iff]
    exact Iff.rfl
  · rfl
theorem Ts.cnt_app (a b : List T) : Ts.cnt (a ++ b) = Ts.cnt a + Ts.cnt b := by
  induction a with
  | nil => simp [Ts.cnt]
  | cons t a ih => simp [Ts.cnt, ih]; omega
theorem Ts.cnt_rev (a : List T) : Ts.cnt a.reverse = Ts.cnt a := by
  induction a with
  | nil => rfl
  | cons t a ih => rw [List.reverse_cons, Ts.cnt_app, ih]; simp [Ts.cnt]; omega
theorem Ts.flat_app (a b : List T) : Ts.flat (a ++ b) = Ts.flat a ++ Ts.flat b := by
  induction a with
  | nil => simp [Ts.flat]
  | cons t a ih => simp [Ts.flat, ih]
theorem Ts.law_mem {cs : List T} (h : Ts.law cs = true) : ∀ x ∈ cs, x.law = true := by
  induction cs with
  | nil => intro x hx; cases hx
  | cons a l ih =>
    rw [Ts.law, Bool.and_eq_true] at h
    intro x hx
    cases hx with
    | head => exact h.1
    | tail _ q => exact ih h.2 x q
def V.isKey : V → Bool
  | .key _ => true
  | _ => false
mutual
def T.kk : T → Bool
  | .nd ks _ cs => ks.all V.isKey && Ts.kk cs
def Ts.kk : List T → Bool
  | [] => true
  | x :: xs => x.kk && Ts.kk xs
end
theorem Ts.kk_mem {cs : List T} (h : Ts.kk cs = true) : ∀ x ∈ cs, x.kk = true := by
  induction cs with
  | nil => intro x hx; cases hx
  | cons a l ih =>
    rw [Ts.kk, Bool.and_eq_true] at h
    intro x hx
    cases hx with
    | head => exact h.1
    | tail _ q => exact ih h.2 x q
end Mine

namespace Mine
open PySem PySem.W PySem.Calls PyProof.Rows
section
variable {c : Cn} {nm : Nm} {n : Nat} {loc loc₁ loc₂ : List LV} {st st₁ st₂ : List Inst} {fl : Fl}
theorem sc_or2 {a b : C} {p : Ps} {x y : Bool} (ha : SC c nm n a loc st x st) (hb : x = false → SC c nm n b loc st y st) : SC c nm n (.or [a, b] p) loc st (x || y) st := by
  cases x with
  | true => exact sC_or (sOr_t ha)
  | false =>
    cases y with
    | true => exact sC_or (sOr_f ha (sOr_t (hb rfl)))
    | false => exact sC_or (sOr_f ha (sOr_f (hb rfl) sOr_nil))
theorem sc_and2 {a b : C} {p : Ps} {x y : Bool} (ha : SC c nm n a loc st x st) (hb : x = true → SC c nm n b loc st y st) : SC c nm n (.and [a, b] p) loc st (x && y) st := by
  cases x with
  | false => exact sC_and (sAnd_f ha)
  | true =>
    cases y with
    | false => exact sC_and (sAnd_t ha (sAnd_f (hb rfl)))
    | true => exact sC_and (sAnd_t ha (sAnd_t (hb rfl) sAnd_nil))

/-- count_below -/
theorem count_loop (P : PgOk c pg2) {me nd : V} : ∀ (N : Nat) (its : List (Nat × T)) (tot : Nat) (hv cv : LV), Ts.size (its.map (·.2)) ≤ N → N ≤ 50000 → (∀ x ∈ its, Rep st x.1 x.2) →
    ∃ k hv' cv', WEv c nm23 n (sAt b23 2).cd (sAt b23 2).bd k [.v me, .v nd, .v (.int (tot : Int)), .own (its.reverse.map fun x => .obj x.1), hv, cv] st .next [.v me, .v nd, .v (.int ((tot + Ts.cnt (its.map (·.2)) : Nat) : Int)), .own [], hv', cv'] st := by
  have bt : BtOk c nm23 "len" (.builtin "len") := btLen P (by decide +kernel)
  intro N
  induction N with
  | zero =>
    intro its tot hv cv h1 h2 hr
    cases its with
    | nil => exact ⟨0, hv, cv, .stop (sC_more_f bt rfl rfl (by decide +kernel))⟩
    | cons x its => have := x.2.size_pos; simp [Ts.size] at h1; omega
  | succ N ih =>
    intro its tot hv cv h1 h2 hr
    cases its with
    | nil => exact ⟨0, hv, cv, .stop (sC_more_f bt rfl rfl (by decide +kernel))⟩
    | cons x its =>
      obtain ⟨k, t⟩ := x
      obtain ⟨ks, vs, kids, hi, hk, rfl⟩ := (hr _ (.head _)).inv
      have hs : 1 + ks.length + vs.length + Ts.size (kids.map (·.2)) + Ts.size (its.map (·.2)) ≤ N + 1 := by simpa [Ts.size, T.size] using h1
      have l1 := Ts.len_le (its.map (·.2))
      have l2 := Ts.len_le (kids.map (·.2))
      rw [List.length_map] at l1 l2
      have e1 : (((k, T.nd ks vs (kids.map (·.2))) :: its).reverse.map fun x => V.obj x.1) = (its.reverse.map fun x => V.obj x.1) ++ [.obj k] := by simp
      obtain ⟨lv, fe⟩ := fe_push (c := c) (nm := nm23) (n := n) (st := st) (i := 3) (j := 5) (x := "stack") (e := .loc 5 "child" ⟨187, 29, 187, 34⟩) (a1 := ⟨187, 16, 187, 21⟩) (a2 := ⟨187, 16, 187, 28⟩) (a3 := ⟨187, 16, 187, 35⟩) (a4 := ⟨187, 16, 187, 35⟩) id rfl (by first | decide | (simp; done)) (by decide +kernel) rfl
        (kids.map fun x => V.obj x.1) (its.reverse.map fun x => V.obj x.1) [.v me, .v nd, .v (.int ((tot + ks.length : Nat) : Int)), .own (its.reverse.map fun x => V.obj x.1), .v (.obj k), cv] rfl (by simp) (by simp; omega) (fun y _ S' => (sE_loc rfl rfl (by decide +kernel)))
      obtain ⟨k', hv', cv', ev⟩ := ih (kids.reverse ++ its) (tot + ks.length) (.v (.obj k)) lv (by rw [List.map_append, List.map_reverse, Ts.size_app, Ts.size_rev]; omega) (by omega) (by
        intro x hx
        rcases List.mem_append.mp hx with hx | hx
        · exact hk x (List.mem_reverse.mp hx)
        · exact hr x (.tail _ hx))
      have h2 : SS c nm23 n (sAt b23 2).bd [.v me, .v nd, .v (.int (tot : Int)), .own ((its.reverse.map fun x => V.obj x.1) ++ [.obj k]), hv, cv] st .next [.v me, .v nd, .v (.int ((tot + ks.length : Nat) : Int)), .own ((kids.reverse ++ its).reverse.map fun x => .obj x.1), .v (.obj k), lv] st := by
        refine ss_pop bt rfl rfl (by first | decide | (simp; done)) rfl (by decide +kernel) (by simp; omega) ?_
        refine ss_assign (st₁ := st) (v := .int ((tot + ks.length : Nat) : Int)) rfl (eAdd (sE_loc rfl rfl (by decide +kernel)) (eLen P (by decide +kernel) (aKeys P (sE_loc rfl rfl (by decide +kernel)) hi rfl) (by omega))) rfl ?_
        refine ss_for (st₁ := st) (st₂ := st) rfl (si_list (aKids P (sE_loc rfl rfl (by decide +kernel)) hi rfl) (by simp; omega)) fe ?_
        have e2 : (kids.reverse ++ its).reverse.map (fun x => V.obj x.1) = (its.reverse.map fun x => V.obj x.1) ++ (kids.map fun x => V.obj x.1).map id := by simp
        rw [e2]
        exact ss_nil
      refine ⟨k' + 1, hv', cv', ?_⟩
      have e3 : tot + Ts.cnt (((k, T.nd ks vs (kids.map (·.2))) :: its).map (·.2)) = tot + ks.length + Ts.cnt ((kids.reverse ++ its).map (·.2)) := by
        rw [List.map_append, List.map_reverse, Ts.cnt_app, Ts.cnt_rev]; simp [Ts.cnt, T.cnt]; omega
      rw [e1, e3]
      exact .turn (sC_more_t bt rfl rfl (by decide +kernel) (by simp; omega)) h2 ev
theorem count_code (P : PgOk c pg2) (n : Nat) {me : V} {k : Nat} {t : T} (h : Rep st k t) (hz : t.size ≤ 50000) : SCode c (n + 1) (addr2 23) [me, .obj k] st (.int (t.cnt : Int)) st := by
  obtain ⟨w, hv, cv, ev⟩ := count_loop (st := st) (n := n) P (me := me) (nd := .obj k) t.size [(k, t)] 0 .unset .unset (by simp [Ts.size]) hz (by intro x hx; cases hx with | head => exact h | tail _ q => cases q)
  have e : 0 + Ts.cnt ([(k, t)].map (·.2)) = t.cnt := by simp [Ts.cnt]
  rw [e] at ev
  refine fn_code (loc := [.v me, .v (.obj k), .v (.int (t.cnt : Int)), .own [], hv, cv]) P (k := 23) (nm := nm23) (body := b23) (pad := [.unset, .unset, .unset, .unset]) (np := 2) (fl := .ret (.int (t.cnt : Int))) rfl rfl ?_ (.ret _)
  refine ss_assign (st₁ := st) (v := .int 0) rfl sE_int rfl ?_
  refine ss_own (st₁ := st) (vs := [.obj k]) rfl (sEs_cons (sE_loc rfl rfl (by decide +kernel)) sEs_nil) (by simp) ?_
  refine ss_while ev ?_
  exact ss_return (sE_loc rfl rfl (by decide +kernel))
end
end Mine

namespace Mine
open PySem PySem.W PySem.Calls PyProof.Rows
section
variable {c : Cn} {nm : Nm} {n : Nat} {loc loc₁ loc₂ : List LV} {st st₁ st₂ : List Inst} {fl : Fl}

/-- flat_below -/
def nodeFlat (ks vs : List V) (m : Nat) : List V := [.int ks.length] ++ ks ++ vs ++ [.int m]
theorem revAt (ids : List Nat) : ((rng ((ids.length : Int) - 1) (-1) ids.length).map fun y => match y with | .int j => V.obj (ids.getD j.toNat 0) | v => v) = ids.reverse.map .obj := by
  unfold rng
  rw [List.map_map]
  apply List.ext_getElem
  · simp
  · intro i h1 h2
    simp at h1 h2
    simp only [List.getElem_map, List.getElem_range, Function.comp, List.getElem_reverse]
    have : ((ids.length : Int) - 1 + (i : Int) * -1).toNat = ids.length - 1 - i := by omega
    rw [this, List.getD_eq_getElem?_getD, List.getElem?_eq_getElem (by omega)]
    rfl
theorem rs_down (m : Nat) : Builtin.Range.rangeSize ((m : Int) - 1) (-1) (-1) = m := by
  unfold Builtin.Range.rangeSize
  rw [if_neg (by first | decide | (simp; done))]
  split
  · rw [Int.neg_neg, Int.ediv_one]; omega
  · omega
theorem flat_loop (P : PgOk c pg2) {me nd : V} : ∀ (N : Nat) (its : List (Nat × T)) (out : List V) (l4 l5 l6 l7 : LV), Ts.size (its.map (·.2)) ≤ N → N ≤ 50000 ∧ out.length + 2 * Ts.size (its.map (·.2)) ≤ 200000 → (∀ x ∈ its, Rep st x.1 x.2) →
    ∃ k l4' l5' l6' l7', WEv c nm24 n (sAt b24 2).cd (sAt b24 2).bd k [.v me, .v nd, .own out, .own (its.reverse.map fun x => .obj x.1), l4, l5, l6, l7] st .next [.v me, .v nd, .own (out ++ Ts.flat (its.map (·.2))), .own [], l4', l5', l6', l7'] st := by
  have bt : BtOk c nm24 "len" (.builtin "len") := btLen P (by decide +kernel)
  intro N
  induction N with
  | zero =>
    intro its out l4 l5 l6 l7 h1 h2 hr
    cases its with
    | nil => exact ⟨0, l4, l5, l6, l7, by rw [List.map_nil, Ts.flat, List.append_nil]; exact .stop (sC_more_f bt rfl rfl (by decide +kernel))⟩
    | cons x its => have := x.2.size_pos; simp [Ts.size] at h1; omega
  | succ N ih =>
    intro its out l4 l5 l6 l7 h1 h2 hr
    cases its with
    | nil => exact ⟨0, l4, l5, l6, l7, by rw [List.map_nil, Ts.flat, List.append_nil]; exact .stop (sC_more_f bt rfl rfl (by decide +kernel))⟩
    | cons x its =>
      obtain ⟨k, t⟩ := x
      obtain ⟨ks, vs, kids, hi, hk, rfl⟩ := (hr _ (.head _)).inv
      have hs : 1 + ks.length + vs.length + Ts.size (kids.map (·.2)) + Ts.size (its.map (·.2)) ≤ N + 1 := by simpa [Ts.size, T.size] using h1
      have hs2 : out.length + 2 * (1 + ks.length + vs.length + Ts.size (kids.map (·.2)) + Ts.size (its.map (·.2))) ≤ 200000 := by simpa [Ts.size, T.size] using h2.2
      have h2' := h2.1
      have l1 := Ts.len_le (its.map (·.2))
      have l2 := Ts.len_le (kids.map (·.2))
      rw [List.length_map] at l1 l2
      have e1 : (((k, T.nd ks vs (kids.map (·.2))) :: its).reverse.map fun x => V.obj x.1) = (its.reverse.map fun x => V.obj x.1) ++ [.obj k] := by simp
      obtain ⟨m5, fe5⟩ := fe_push (c := c) (nm := nm24) (n := n) (st := st) (i := 2) (j := 5) (x := "out") (e := .loc 5 "k" ⟨207, 27, 207, 28⟩) (a1 := ⟨207, 16, 207, 19⟩) (a2 := ⟨207, 16, 207, 26⟩) (a3 := ⟨207, 16, 207, 29⟩) (a4 := ⟨207, 16, 207, 29⟩) id rfl (by first | decide | (simp; done)) (by decide +kernel) rfl
        ks (out ++ [.int (ks.length : Int)]) [.v me, .v nd, .own (out ++ [.int (ks.length : Int)]), .own (its.reverse.map fun x => V.obj x.1), .v (.obj k), l5, l6, l7] rfl (by simp) (by simp; omega) (fun y _ S' => (sE_loc rfl rfl (by decide +kernel)))
      obtain ⟨m6, fe6⟩ := fe_push (c := c) (nm := nm24) (n := n) (st := st) (i := 2) (j := 6) (x := "out") (e := .loc 6 "v" ⟨209, 27, 209, 28⟩) (a1 := ⟨209, 16, 209, 19⟩) (a2 := ⟨209, 16, 209, 26⟩) (a3 := ⟨209, 16, 209, 29⟩) (a4 := ⟨209, 16, 209, 29⟩) id rfl (by first | decide | (simp; done)) (by decide +kernel) rfl
        vs (out ++ [.int (ks.length : Int)] ++ ks.map id) [.v me, .v nd, .own (out ++ [.int (ks.length : Int)] ++ ks.map id), .own (its.reverse.map fun x => V.obj x.1), .v (.obj k), m5, l6, l7] rfl (by simp) (by simp; omega) (fun y _ S' => (sE_loc rfl rfl (by decide +kernel)))
      obtain ⟨m7, fe7⟩ := fe_push (c := c) (nm := nm24) (n := n) (st := st) (i := 3) (j := 7) (x := "stack") (e := .idx (.attr (.loc 4 "here" ⟨212, 29, 212, 33⟩) 2 "children" ⟨212, 29, 212, 42⟩) (.loc 7 "j" ⟨212, 43, 212, 44⟩) ⟨212, 29, 212, 45⟩) (a1 := ⟨212, 16, 212, 21⟩) (a2 := ⟨212, 16, 212, 28⟩) (a3 := ⟨212, 16, 212, 46⟩) (a4 := ⟨212, 16, 212, 46⟩) (fun y => match y with | .int j => V.obj ((kids.map (·.1)).getD j.toNat 0) | v => v) rfl (by first | decide | (simp; done)) (by decide +kernel) rfl
        (rng (((kids.map (·.1)).length : Int) - 1) (-1) (kids.map (·.1)).length) (its.reverse.map fun x => V.obj x.1) [.v me, .v nd, .own (out ++ [.int (ks.length : Int)] ++ ks.map id ++ vs.map id ++ [.int (kids.length : Int)]), .own (its.reverse.map fun x => V.obj x.1), .v (.obj k), m5, m6, l7] rfl (by simp) (by simp [rng_len]; omega) (by
          intro y hy S'
          unfold rng at hy
          obtain ⟨i, hi', rfl⟩ := List.mem_map.mp hy
          have hi2 : i < kids.length := by simpa using hi'
          have hj : (((kids.map (·.1)).length : Int) - 1 + (i : Int) * -1) = ((kids.length - 1 - i : Nat) : Int) := by rw [List.length_map]; omega
          rw [hj]
          refine sE_idx (st₁ := st) (xs := kids.map fun x => V.obj x.1) (k := kids.length - 1 - i) (y := .int ((kids.length - 1 - i : Nat) : Int)) (aKids P (sE_loc rfl rfl (by decide +kernel)) hi rfl) (sE_loc rfl rfl (by decide +kernel)) rfl ?_ (by simp; omega)
          show (kids.map fun x => V.obj x.1)[kids.length - 1 - i]? = some (V.obj ((kids.map (·.1)).getD ((kids.length - 1 - i : Nat) : Int).toNat 0))
          rw [Int.toNat_natCast, List.getElem?_map, List.getD_eq_getElem?_getD, List.getElem?_map, List.getElem?_eq_getElem (by omega)]
          rfl)
      rw [revAt] at fe7
      obtain ⟨k', q4, q5, q6, q7, ev⟩ := ih (kids ++ its) (out ++ nodeFlat ks vs kids.length) (.v (.obj k)) m5 m6 m7 (by rw [List.map_append, Ts.size_app]; omega) ⟨by omega, by rw [List.map_append, Ts.size_app]; simp [nodeFlat]; omega⟩ (by
        intro x hx
        rcases List.mem_append.mp hx with hx | hx
        · exact hk x hx
        · exact hr x (.tail _ hx))
      have h2 : SS c nm24 n (sAt b24 2).bd [.v me, .v nd, .own out, .own ((its.reverse.map fun x => V.obj x.1) ++ [.obj k]), l4, l5, l6, l7] st .next [.v me, .v nd, .own (out ++ nodeFlat ks vs kids.length), .own ((kids ++ its).reverse.map fun x => .obj x.1), .v (.obj k), m5, m6, m7] st := by
        refine ss_pop bt rfl rfl (by first | decide | (simp; done)) rfl (by decide +kernel) (by simp; omega) ?_
        refine ss_app (st₁ := st) (v := .int (ks.length : Int)) rfl rfl (by decide +kernel) (eLen P (by decide +kernel) (aKeys P (sE_loc rfl rfl (by decide +kernel)) hi rfl) (by omega)) rfl (by omega) ?_
        refine ss_for (st₁ := st) (st₂ := st) rfl (si_list (aKeys P (sE_loc rfl rfl (by decide +kernel)) hi rfl) (by omega)) fe5 ?_
        refine ss_for (st₁ := st) (st₂ := st) rfl (si_list (aVals P (sE_loc rfl rfl (by decide +kernel)) hi rfl) (by omega)) fe6 ?_
        refine ss_app (st₁ := st) (v := .int (kids.length : Int)) rfl rfl (by decide +kernel) (se_eq (eLen P (by decide +kernel) (aKids P (sE_loc rfl rfl (by decide +kernel)) hi rfl) (by simp; omega)) (by rw [List.length_map])) rfl (by simp; omega) ?_
        refine ss_for (st₁ := st) (st₂ := st) rfl (si_range3 (st₁ := st) (st₂ := st) (a := ((kids.map (·.1)).length : Int) - 1) (b := -1) (d := -1) (k := (kids.map (·.1)).length) (btRange P (by decide +kernel)) (sE_bin (eLen P (by decide +kernel) (aKids P (sE_loc rfl rfl (by decide +kernel)) hi rfl) (by simp; omega)) sE_int (bin_sub rfl rfl)) sE_neg sE_neg (by simp [V.iv]) rfl rfl (by simp) (by simp; omega) (by first | decide | (simp; done)) (by first | decide | (simp; done)) (rs_down _) (by simp; omega)) fe7 ?_
        have e2 : (kids ++ its).reverse.map (fun x => V.obj x.1) = (its.reverse.map fun x => V.obj x.1) ++ (kids.map (·.1)).reverse.map V.obj := by simp
        have e4 : out ++ nodeFlat ks vs kids.length = out ++ [.int (ks.length : Int)] ++ ks.map id ++ vs.map id ++ [.int (kids.length : Int)] := by simp [nodeFlat]
        rw [e2, e4]
        exact ss_nil
      refine ⟨k' + 1, q4, q5, q6, q7, ?_⟩
      have e3 : out ++ Ts.flat (((k, T.nd ks vs (kids.map (·.2))) :: its).map (·.2)) = out ++ nodeFlat ks vs kids.length ++ Ts.flat ((kids ++ its).map (·.2)) := by
        rw [List.map_append, Ts.flat_app]; simp [Ts.flat, T.flat, nodeFlat]
      rw [e1, e3]
      exact .turn (sC_more_t bt rfl rfl (by decide +kernel) (by simp; omega)) h2 ev
theorem flatB_code (P : PgOk c pg2) (n : Nat) {me : V} {k : Nat} {t : T} (h : Rep st k t) (hz : t.size ≤ 50000) : SCode c (n + 1) (addr2 24) [me, .obj k] st (.list t.flat) st := by
  obtain ⟨w, l4, l5, l6, l7, ev⟩ := flat_loop (st := st) (n := n) P (me := me) (nd := .obj k) t.size [(k, t)] [] .unset .unset .unset .unset (by simp [Ts.size]) ⟨hz, by simp [Ts.size]; omega⟩ (by intro x hx; cases hx with | head => exact h | tail _ q => cases q)
  have e : [] ++ Ts.flat ([(k, t)].map (·.2)) = t.flat := by simp [Ts.flat]
  rw [e] at ev
  refine fn_code (loc := [.v me, .v (.obj k), .v (.list t.flat), .own [], l4, l5, l6, l7]) P (k := 24) (nm := nm24) (body := b24) (pad := [.unset, .unset, .unset, .unset, .unset, .unset]) (np := 2) (fl := .ret (.list t.flat)) rfl rfl ?_ (.ret _)
  refine ss_own (st₁ := st) (vs := []) rfl sEs_nil (by simp) ?_
  refine ss_own (st₁ := st) (vs := [.obj k]) rfl (sEs_cons (sE_loc rfl rfl (by decide +kernel)) sEs_nil) (by simp) ?_
  refine ss_while ev ?_
  refine ss_freeze (x := "out") rfl rfl ?_
  exact ss_return (sE_loc rfl rfl (by decide +kernel))

/-- leaf_level -/
def itd : List (Nat × T × Nat) → List Nat
  | [] => []
  | x :: xs => x.2.1.dep x.2.2 ++ itd xs
theorem itd_kids (d : Nat) (kids : List (Nat × T)) (its : List (Nat × T × Nat)) : itd ((kids.map fun x => (x.1, x.2, d)).reverse ++ its) = Ts.dep (kids.map (·.2)) d ++ itd its := by
  induction kids generalizing its with
  | nil => simp [Ts.dep]
  | cons x kids ih =>
    rw [List.map_cons, List.reverse_cons, List.append_assoc, ih]
    simp [Ts.dep, itd]
def itv (x : Nat × T × Nat) : V := .tup [.obj x.1, .int (x.2.2 : Int)]
theorem level_loop (P : PgOk c pg2) {me nd : V} : ∀ (N : Nat) (its : List (Nat × T × Nat)) (lv : Int) (l4 l5 l6 : LV), Ts.size (its.map (·.2.1)) ≤ N → N ≤ 50000 → (∀ x ∈ its, Rep st x.1 x.2.1) →
    (∃ k loc', WEv c nm21 (n + 1) (sAt b21 2).cd (sAt b21 2).bd k [.v me, .v nd, .v (.int lv), .own (its.reverse.map itv), l4, l5, l6] st (.ret (.int (lvGo lv (itd its)))) loc' st) ∨
    (∃ k l4' l5' l6', WEv c nm21 (n + 1) (sAt b21 2).cd (sAt b21 2).bd k [.v me, .v nd, .v (.int lv), .own (its.reverse.map itv), l4, l5, l6] st .next [.v me, .v nd, .v (.int (lvGo lv (itd its))), .own [], l4', l5', l6'] st) := by
  have bt : BtOk c nm21 "len" (.builtin "len") := btLen P (by decide +kernel)
  intro N
  induction N with
  | zero =>
    intro its lv l4 l5 l6 h1 h2 hr
    cases its with
    | nil => exact .inr ⟨0, l4, l5, l6, .stop (sC_more_f bt rfl rfl (by decide +kernel))⟩
    | cons x its => have := x.2.1.size_pos; simp [Ts.size] at h1; omega
  | succ N ih =>
    intro its lv l4 l5 l6 h1 h2 hr
    cases its with
    | nil => exact .inr ⟨0, l4, l5, l6, .stop (sC_more_f bt rfl rfl (by decide +kernel))⟩
    | cons x its =>
      obtain ⟨k, t, d⟩ := x
      obtain ⟨ks, vs, kids, hi, hk, rfl⟩ := (hr _ (.head _)).inv
      have hs : 1 + ks.length + vs.length + Ts.size (kids.map (·.2)) + Ts.size (its.map (·.2.1)) ≤ N + 1 := by simpa [Ts.size, T.size] using h1
      have l1 := Ts.len_le (its.map (·.2.1))
      have l2 := Ts.len_le (kids.map (·.2))
      rw [List.length_map] at l1 l2
      have e1 : (((k, T.nd ks vs (kids.map (·.2)), d) :: its).reverse.map itv) = (its.reverse.map itv) ++ [.tup [.obj k, .int (d : Int)]] := by simp [itv]
      have e3 : itd ((k, T.nd ks vs (kids.map (·.2)), d) :: its) = lfD (kids.map (·.2)) d ++ itd ((kids.map fun x => (x.1, x.2, d + 1)).reverse ++ its) := by
        rw [itd_kids]; simp [itd, T.dep]
      obtain ⟨m6, fe⟩ := fe_push (c := c) (nm := nm21) (n := n + 1) (st := st) (i := 3) (j := 6) (x := "stack") (e := .tup [(.loc 6 "child" ⟨164, 30, 164, 35⟩), (.bin .add (.idx (.loc 4 "top" ⟨164, 37, 164, 40⟩) (.int 1 ⟨164, 41, 164, 42⟩) ⟨164, 37, 164, 43⟩) (.int 1 ⟨164, 46, 164, 47⟩) ⟨164, 37, 164, 47⟩)] 0 ⟨164, 29, 164, 48⟩) (a1 := ⟨164, 16, 164, 21⟩) (a2 := ⟨164, 16, 164, 28⟩) (a3 := ⟨164, 16, 164, 49⟩) (a4 := ⟨164, 16, 164, 49⟩) (fun y => .tup [y, .int ((d + 1 : Nat) : Int)]) rfl (by first | decide | (simp; done)) (by decide +kernel) rfl
        (kids.map fun x => V.obj x.1) (its.reverse.map itv) [.v me, .v nd, .v (.int (lfL (kids.map (·.2)) lv (d : Int))), .own (its.reverse.map itv), .v (.tup [.obj k, .int (d : Int)]), .v (.obj k), l6] rfl (by simp) (by simp; omega)
        (fun y _ S' => sE_tup (sEs_cons (sE_loc rfl rfl (by decide +kernel)) (sEs_cons (eAdd (sE_idxT (k := 1) (sE_loc rfl rfl (by decide +kernel)) sE_int rfl rfl (by first | decide | (simp; done))) (eNat rfl)) sEs_nil)) (by first | decide | (simp; done)))
      have tail : SS c nm21 (n + 1) ((sAt b21 2).bd.drop 4) [.v me, .v nd, .v (.int (lfL (kids.map (·.2)) lv (d : Int))), .own (its.reverse.map itv), .v (.tup [.obj k, .int (d : Int)]), .v (.obj k), l6] st .next [.v me, .v nd, .v (.int (lfL (kids.map (·.2)) lv (d : Int))), .own (((kids.map fun x => (x.1, x.2, d + 1)).reverse ++ its).reverse.map itv), .v (.tup [.obj k, .int (d : Int)]), .v (.obj k), m6] st := by
        refine ss_for (st₁ := st) (st₂ := st) rfl (si_list (aKids P (sE_loc rfl rfl (by decide +kernel)) hi rfl) (by simp; omega)) fe ?_
        have e2 : ((kids.map fun x => (x.1, x.2, d + 1)).reverse ++ its).reverse.map itv = its.reverse.map itv ++ (kids.map fun x => V.obj x.1).map fun y => .tup [y, .int ((d + 1 : Nat) : Int)] := by simp [itv]
        rw [e2]
        exact ss_nil
      have hlf := cLeaf (n := n) (nm := nm21) (loc := [.v me, .v nd, .v (.int lv), .own (its.reverse.map itv), .v (.tup [.obj k, .int (d : Int)]), .v (.obj k), l6]) P (o := .loc 5 "here" ⟨158, 15, 158, 19⟩) (q := ⟨158, 15, 158, 27⟩) (p := ⟨158, 15, 158, 29⟩) (sE_loc rfl rfl (by decide +kernel)) rfl hi (by simp; omega) rfl
      have step : ∀ fl loc', SS c nm21 (n + 1) ((sAt b21 2).bd.drop 3) [.v me, .v nd, .v (.int lv), .own (its.reverse.map itv), .v (.tup [.obj k, .int (d : Int)]), .v (.obj k), l6] st fl loc' st → SS c nm21 (n + 1) (sAt b21 2).bd [.v me, .v nd, .v (.int lv), .own (its.reverse.map itv ++ [.tup [.obj k, .int (d : Int)]]), l4, l5, l6] st fl loc' st := by
        intro fl loc' hh
        refine ss_pop bt rfl rfl (by first | decide | (simp; done)) rfl (by decide +kernel) (by simp; omega) ?_
        exact ss_assign (st₁ := st) (v := .obj k) rfl (sE_idxT (k := 0) (sE_loc rfl rfl (by decide +kernel)) sE_int rfl rfl (by first | decide | (simp; done))) rfl hh
      have hrec := ih ((kids.map fun x => (x.1, x.2, d + 1)).reverse ++ its) (lfL (kids.map (·.2)) lv (d : Int)) (.v (.tup [.obj k, .int (d : Int)])) (.v (.obj k)) m6 (by
          rw [List.map_append, List.map_reverse, Ts.size_app, Ts.size_rev, List.map_map]
          have : Ts.size (kids.map ((fun x : Nat × T × Nat => x.2.1) ∘ fun x : Nat × T => (x.1, x.2, d + 1))) = Ts.size (kids.map (·.2)) := rfl
          omega) (by omega) (by
        intro x hx
        rcases List.mem_append.mp hx with hx | hx
        · obtain ⟨y, hy, rfl⟩ := List.mem_map.mp (List.mem_reverse.mp hx)
          exact hk y hy
        · exact hr x (.tail _ hx))
      rw [e1, e3]
      cases kids with
      | cons y kids =>
        have h2 := step _ _ (ss_if_f hlf ss_nil tail)
        rcases hrec with ⟨k', loc', ev⟩ | ⟨k', a, b, cc, ev⟩
        · exact .inl ⟨k' + 1, loc', .turn (sC_more_t bt rfl rfl (by decide +kernel) (by simp; omega)) h2 ev⟩
        · exact .inr ⟨k' + 1, a, b, cc, .turn (sC_more_t bt rfl rfl (by decide +kernel) (by simp; omega)) h2 ev⟩
      | nil =>
        have hq : SC c nm21 (n + 1) (.cmp .eq (.loc 2 "level" ⟨159, 19, 159, 24⟩) (.neg 1 ⟨159, 29, 159, 30⟩ ⟨159, 28, 159, 30⟩) ⟨159, 19, 159, 30⟩) [.v me, .v nd, .v (.int lv), .own (its.reverse.map itv), .v (.tup [.obj k, .int (d : Int)]), .v (.obj k), l6] st (lv == -1) st := sC_cmp (sE_loc rfl rfl (by decide +kernel)) sE_neg (cmp_eqi rfl rfl)
        cases hb : lv == -1 with
        | true =>
          rw [hb] at hq
          have eL : lfL (([] : List (Nat × T)).map (·.2)) lv (d : Int) = (d : Int) := by show (bif lv == -1 then (d : Int) else lv) = _; rw [hb]; rfl
          rw [eL] at tail hrec
          have h2 := step _ _ (ss_if_t hlf (ss_if_t hq (ss_assign (st₁ := st) (v := .int (d : Int)) rfl (sE_idxT (k := 1) (sE_loc rfl rfl (by decide +kernel)) sE_int rfl rfl (by first | decide | (simp; done))) rfl ss_nil) ss_nil) tail)
          have e5 : lvGo lv (lfD (([] : List (Nat × T)).map (·.2)) d ++ itd ((([] : List (Nat × T)).map fun x => (x.1, x.2, d + 1)).reverse ++ its)) = lvGo d (itd ((([] : List (Nat × T)).map fun x => (x.1, x.2, d + 1)).reverse ++ its)) := by
            show (bif lv == -1 then _ else _) = _
            rw [hb]; rfl
          skip
          rw [e5]
          rcases hrec with ⟨k', loc', ev⟩ | ⟨k', a, b, cc, ev⟩
          · exact .inl ⟨k' + 1, loc', .turn (sC_more_t bt rfl rfl (by decide +kernel) (by simp; omega)) h2 ev⟩
          · exact .inr ⟨k' + 1, a, b, cc, .turn (sC_more_t bt rfl rfl (by decide +kernel) (by simp; omega)) h2 ev⟩
        | false =>
          rw [hb] at hq
          have eL : lfL (([] : List (Nat × T)).map (·.2)) lv (d : Int) = lv := by show (bif lv == -1 then (d : Int) else lv) = _; rw [hb]; rfl
          rw [eL] at tail hrec
          have hn : SC c nm21 (n + 1) (.cmp .ne (.loc 2 "level" ⟨161, 21, 161, 26⟩) (.idx (.loc 4 "top" ⟨161, 30, 161, 33⟩) (.int 1 ⟨161, 34, 161, 35⟩) ⟨161, 30, 161, 36⟩) ⟨161, 21, 161, 36⟩) [.v me, .v nd, .v (.int lv), .own (its.reverse.map itv), .v (.tup [.obj k, .int (d : Int)]), .v (.obj k), l6] st (lv != (d : Int)) st := sC_cmp (sE_loc rfl rfl (by decide +kernel)) (sE_idxT (k := 1) (sE_loc rfl rfl (by decide +kernel)) sE_int rfl rfl (by first | decide | (simp; done))) (cmp_nei rfl rfl)
          cases hd : lv == (d : Int) with
          | true =>
            have hn' : (lv != (d : Int)) = false := by simp [bne, hd]
            rw [hn'] at hn
            have h2 := step _ _ (ss_if_t hlf (ss_if_f hq (ss_if_f hn ss_nil ss_nil) ss_nil) tail)
            have e5 : lvGo lv (lfD (([] : List (Nat × T)).map (·.2)) d ++ itd ((([] : List (Nat × T)).map fun x => (x.1, x.2, d + 1)).reverse ++ its)) = lvGo lv (itd ((([] : List (Nat × T)).map fun x => (x.1, x.2, d + 1)).reverse ++ its)) := by
              show (bif lv == -1 then _ else bif lv == (d : Int) then _ else _) = _
              rw [hb, hd]; rfl
            skip
            rw [e5]
            rcases hrec with ⟨k', loc', ev⟩ | ⟨k', a, b, cc, ev⟩
            · exact .inl ⟨k' + 1, loc', .turn (sC_more_t bt rfl rfl (by decide +kernel) (by simp; omega)) h2 ev⟩
            · exact .inr ⟨k' + 1, a, b, cc, .turn (sC_more_t bt rfl rfl (by decide +kernel) (by simp; omega)) h2 ev⟩
          | false =>
            have hn' : (lv != (d : Int)) = true := by simp [bne, hd]
            rw [hn'] at hn
            have h2 := step _ _ (ss_if_tr hlf (ss_if_fr hq (ss_if_tr hn (ss_return (v := .int (-1)) sE_neg))))
            have e5 : lvGo lv (lfD (([] : List (Nat × T)).map (·.2)) d ++ itd ((([] : List (Nat × T)).map fun x => (x.1, x.2, d + 1)).reverse ++ its)) = -1 := by
              show (bif lv == -1 then _ else bif lv == (d : Int) then _ else _) = _
              rw [hb, hd]; rfl
            skip
            rw [e5]
            exact .inl ⟨0, _, .ret (sC_more_t bt rfl rfl (by decide +kernel) (by simp; omega)) h2⟩
theorem level_code (P : PgOk c pg2) (n : Nat) {me : V} {k : Nat} {t : T} (h : Rep st k t) (hz : t.size ≤ 50000) : SCode c (n + 2) (addr2 21) [me, .obj k] st (.int t.lvl) st := by
  have e : lvGo (-1) (itd [(k, t, 0)]) = t.lvl := by simp [itd, T.lvl]
  have hh := level_loop (st := st) (n := n) P (me := me) (nd := .obj k) t.size [(k, t, 0)] (-1) .unset .unset .unset (by simp [Ts.size]) hz (by intro x hx; cases hx with | head => exact h | tail _ q => cases q)
  rw [e] at hh
  have go : ∀ loc', SS c nm21 (n + 1) (b21.drop 2) [.v me, .v (.obj k), .v (.int (-1)), .own ([(k, t, 0)].reverse.map itv), .unset, .unset, .unset] st (.ret (.int t.lvl)) loc' st → SCode c (n + 2) (addr2 21) [me, .obj k] st (.int t.lvl) st := by
    intro loc' hh
    refine fn_code (loc := loc') P (k := 21) (nm := nm21) (body := b21) (pad := [.unset, .unset, .unset, .unset, .unset]) (np := 2) (fl := .ret (.int t.lvl)) rfl rfl ?_ (.ret _)
    refine ss_assign (st₁ := st) (v := .int (-1)) rfl sE_neg rfl ?_
    exact ss_own (st₁ := st) (vs := [.tup [.obj k, .int 0]]) rfl (sEs_cons (sE_tup (sEs_cons (sE_loc rfl rfl (by decide +kernel)) (sEs_cons sE_int sEs_nil)) (by first | decide | (simp; done))) sEs_nil) (by simp) hh
  rcases hh with ⟨w, loc', ev⟩ | ⟨w, l4, l5, l6, ev⟩
  · exact go _ (ss_whiler ev)
  · exact go _ (ss_while ev (ss_return (sE_loc rfl rfl (by decide +kernel))))
end
end Mine

namespace Mine
open PySem PySem.W PySem.Calls PyProof.Rows
section
variable {c : Cn} {nm : Nm} {n : Nat} {loc loc₁ loc₂ : List LV} {st st₁ st₂ : List Inst} {fl : Fl}

/-- shape_ok -/
theorem nodeOk_eq (t : Nat) (root : Bool) (k v m : Nat) : nodeOk t root k v m = (!(((v : Int) != (k : Int)) || decide (2 * (t : Int) - 1 < (k : Int))) && (!(!root && decide ((k : Int) < (t : Int) - 1)) && !(((m : Int) != 0) && ((m : Int) != (k : Int) + 1)))) := by
  unfold nodeOk
  cases root <;> (rw [Bool.eq_iff_iff]; simp; omega)
def its2 (x : Nat × T × Bool) : V := .tup [.obj x.1, .bool x.2.2]
def allShp (t : Nat) (its : List (Nat × T × Bool)) : Bool := its.all fun x => x.2.1.shp t x.2.2
theorem allShp_kids (t : Nat) (kids : List (Nat × T)) (its : List (Nat × T × Bool)) : allShp t ((kids.map fun x => (x.1, x.2, false)).reverse ++ its) = (Ts.shp t (kids.map (·.2)) && allShp t its) := by
  induction kids generalizing its with
  | nil => simp [Ts.shp]
  | cons x kids ih =>
    rw [List.map_cons, List.reverse_cons, List.append_assoc, ih]
    simp only [List.map_cons, Ts.shp, allShp, List.singleton_append, List.all_cons]
    cases T.shp t false x.2 <;> simp
theorem shape_loop (P : PgOk c pg2) {me nd rt : V} {t : Nat} (ht : t ≤ 10) : ∀ (N : Nat) (its : List (Nat × T × Bool)) (l5 l6 l7 l8 : LV), Ts.size (its.map (·.2.1)) ≤ N → N ≤ 50000 → (∀ x ∈ its, Rep st x.1 x.2.1) →
    (allShp t its = false ∧ ∃ k loc', WEv c nm19 n (sAt b19 2).cd (sAt b19 2).bd k [.v me, .v nd, .v rt, .v (.int (t : Int)), .own (its.reverse.map its2), l5, l6, l7, l8] st (.ret (.bool false)) loc' st) ∨
    (allShp t its = true ∧ ∃ k loc', WEv c nm19 n (sAt b19 2).cd (sAt b19 2).bd k [.v me, .v nd, .v rt, .v (.int (t : Int)), .own (its.reverse.map its2), l5, l6, l7, l8] st .next loc' st) := by
  have bt : BtOk c nm19 "len" (.builtin "len") := btLen P (by decide +kernel)
  intro N
  induction N with
  | zero =>
    intro its l5 l6 l7 l8 h1 h2 hr
    cases its with
    | nil => exact .inr ⟨rfl, 0, _, .stop (sC_more_f bt rfl rfl (by decide +kernel))⟩
    | cons x its => have := x.2.1.size_pos; simp [Ts.size] at h1; omega
  | succ N ih =>
    intro its l5 l6 l7 l8 h1 h2 hr
    cases its with
    | nil => exact .inr ⟨rfl, 0, _, .stop (sC_more_f bt rfl rfl (by decide +kernel))⟩
    | cons x its =>
      obtain ⟨k, tr, root⟩ := x
      obtain ⟨ks, vs, kids, hi, hk, rfl⟩ := (hr _ (.head _)).inv
      have hs : 1 + ks.length + vs.length + Ts.size (kids.map (·.2)) + Ts.size (its.map (·.2.1)) ≤ N + 1 := by simpa [Ts.size, T.size] using h1
      have l1 := Ts.len_le (its.map (·.2.1))
      have l2 := Ts.len_le (kids.map (·.2))
      rw [List.length_map] at l1 l2
      have e1 : (((k, T.nd ks vs (kids.map (·.2)), root) :: its).reverse.map its2) = (its.reverse.map its2) ++ [.tup [.obj k, .bool root]] := by simp [its2]
      have e3 : allShp t ((k, T.nd ks vs (kids.map (·.2)), root) :: its) = (nodeOk t root ks.length vs.length kids.length && allShp t ((kids.map fun x => (x.1, x.2, false)).reverse ++ its)) := by
        rw [allShp_kids]; simp only [allShp, List.all_cons, T.shp, List.length_map, Bool.and_assoc]
      have step : ∀ fl loc', SS c nm19 n ((sAt b19 2).bd.drop 4) [.v me, .v nd, .v rt, .v (.int (t : Int)), .own (its.reverse.map its2), .v (.tup [.obj k, .bool root]), .v (.obj k), .v (.int (ks.length : Int)), l8] st fl loc' st → SS c nm19 n (sAt b19 2).bd [.v me, .v nd, .v rt, .v (.int (t : Int)), .own (its.reverse.map its2 ++ [.tup [.obj k, .bool root]]), l5, l6, l7, l8] st fl loc' st := by
        intro fl loc' hh
        refine ss_pop bt rfl rfl (by first | decide | (simp; done)) rfl (by decide +kernel) (by simp; omega) ?_
        refine ss_assign (st₁ := st) (v := .obj k) rfl (sE_idxT (k := 0) (sE_loc rfl rfl (by decide +kernel)) sE_int rfl rfl (by first | decide | (simp; done))) rfl ?_
        exact ss_assign (st₁ := st) (v := .int (ks.length : Int)) rfl (eLen P (by decide +kernel) (aKeys P (sE_loc rfl rfl (by decide +kernel)) hi rfl) (by omega)) rfl hh
      generalize hL : [LV.v me, .v nd, .v rt, .v (.int (t : Int)), .own (its.reverse.map its2), .v (.tup [.obj k, .bool root]), .v (.obj k), .v (.int (ks.length : Int)), l8] = L at step
      have c4 : SC c nm19 n (sAt (sAt b19 2).bd 4).cd L st (((vs.length : Int) != (ks.length : Int)) || decide (2 * (t : Int) - 1 < (ks.length : Int))) st := by
        subst hL
        exact sc_or2 (sC_cmp (eLen P (by decide +kernel) (aVals P (sE_loc rfl rfl (by decide +kernel)) hi rfl) (by omega)) (sE_loc rfl rfl (by decide +kernel)) (cmp_nei rfl rfl)) fun _ => sC_cmp (sE_loc rfl rfl (by decide +kernel)) (sE_bin (sE_bin sE_int (sE_loc rfl rfl (by decide +kernel)) (bin_mul rfl rfl (.of_right (intBits_le_64 (by omega) (by omega))))) sE_int (bin_sub rfl rfl)) (cmp_gt rfl rfl)
      have c5 : SC c nm19 n (sAt (sAt b19 2).bd 5).cd L st (!root && decide ((ks.length : Int) < (t : Int) - 1)) st := by
        subst hL
        exact sc_and2 (sC_not (sC_bool (sE_idxT (k := 1) (sE_loc rfl rfl (by decide +kernel)) sE_int rfl rfl (by first | decide | (simp; done))) rfl)) fun _ => sC_cmp (sE_loc rfl rfl (by decide +kernel)) (sE_bin (sE_loc rfl rfl (by decide +kernel)) sE_int (bin_sub rfl rfl)) (cmp_lt rfl rfl)
      have c6 : SC c nm19 n (sAt (sAt b19 2).bd 6).cd L st (((kids.length : Int) != 0) && ((kids.length : Int) != (ks.length : Int) + 1)) st := by
        subst hL
        have hl : ((kids.map fun x => V.obj x.1).length : Int) = (kids.length : Int) := by rw [List.length_map]
        rw [← hl]
        exact sc_and2 (sC_cmp (eLen P (by decide +kernel) (aKids P (sE_loc rfl rfl (by decide +kernel)) hi rfl) (by simp; omega)) sE_int (cmp_nei rfl rfl)) fun _ => sC_cmp (eLen P (by decide +kernel) (aKids P (sE_loc rfl rfl (by decide +kernel)) hi rfl) (by simp; omega)) (sE_bin (sE_loc rfl rfl (by decide +kernel)) sE_int (bin_add rfl rfl)) (cmp_nei rfl rfl)
      have more := sC_more_t (c := c) (nm := nm19) (n := n) (st := st) (loc := [.v me, .v nd, .v rt, .v (.int (t : Int)), .own (its.reverse.map its2 ++ [.tup [.obj k, .bool root]]), l5, l6, l7, l8]) (i := 4) (x := "stack") (L := "len") (a1 := ⟨112, 14, 112, 17⟩) (a2 := ⟨112, 18, 112, 23⟩) (a3 := ⟨112, 14, 112, 24⟩) (a4 := ⟨112, 27, 112, 28⟩) (a5 := ⟨112, 14, 112, 28⟩) bt rfl rfl (by decide +kernel) (by simp; omega)
      rw [e1, e3, nodeOk_eq]
      cases h4 : (((vs.length : Int) != (ks.length : Int)) || decide (2 * (t : Int) - 1 < (ks.length : Int))) with
      | true =>
        rw [h4] at c4
        exact .inl ⟨rfl, 0, _, .ret more (step _ _ (ss_if_tr c4 (ss_return sE_bool)))⟩
      | false =>
        rw [h4] at c4
        cases h5 : (!root && decide ((ks.length : Int) < (t : Int) - 1)) with
        | true =>
          rw [h5] at c5
          exact .inl ⟨rfl, 0, _, .ret more (step _ _ (ss_if_f c4 ss_nil (ss_if_tr c5 (ss_return sE_bool))))⟩
        | false =>
          rw [h5] at c5
          cases h6 : (((kids.length : Int) != 0) && ((kids.length : Int) != (ks.length : Int) + 1)) with
          | true =>
            rw [h6] at c6
            exact .inl ⟨rfl, 0, _, .ret more (step _ _ (ss_if_f c4 ss_nil (ss_if_f c5 ss_nil (ss_if_tr c6 (ss_return sE_bool)))))⟩
          | false =>
            rw [h6] at c6
            subst hL
            obtain ⟨m8, fe⟩ := fe_push (c := c) (nm := nm19) (n := n) (st := st) (i := 4) (j := 8) (x := "stack") (e := .tup [(.loc 8 "child" ⟨124, 30, 124, 35⟩), (.bool false ⟨124, 37, 124, 42⟩)] 0 ⟨124, 29, 124, 43⟩) (a1 := ⟨124, 16, 124, 21⟩) (a2 := ⟨124, 16, 124, 28⟩) (a3 := ⟨124, 16, 124, 44⟩) (a4 := ⟨124, 16, 124, 44⟩) (fun y => .tup [y, .bool false]) rfl (by first | decide | (simp; done)) (by decide +kernel) rfl
              (kids.map fun x => V.obj x.1) (its.reverse.map its2) [.v me, .v nd, .v rt, .v (.int (t : Int)), .own (its.reverse.map its2), .v (.tup [.obj k, .bool root]), .v (.obj k), .v (.int (ks.length : Int)), l8] rfl (by simp) (by simp; omega) (fun y _ S' => sE_tup (sEs_cons (sE_loc rfl rfl (by decide +kernel)) (sEs_cons sE_bool sEs_nil)) (by first | decide | (simp; done)))
            have tail : SS c nm19 n ((sAt b19 2).bd.drop 7) [.v me, .v nd, .v rt, .v (.int (t : Int)), .own (its.reverse.map its2), .v (.tup [.obj k, .bool root]), .v (.obj k), .v (.int (ks.length : Int)), l8] st .next [.v me, .v nd, .v rt, .v (.int (t : Int)), .own (((kids.map fun x => (x.1, x.2, false)).reverse ++ its).reverse.map its2), .v (.tup [.obj k, .bool root]), .v (.obj k), .v (.int (ks.length : Int)), m8] st := by
              refine ss_for (st₁ := st) (st₂ := st) rfl (si_list (aKids P (sE_loc rfl rfl (by decide +kernel)) hi rfl) (by simp; omega)) fe ?_
              have e2 : ((kids.map fun x => (x.1, x.2, false)).reverse ++ its).reverse.map its2 = its.reverse.map its2 ++ (kids.map fun x => V.obj x.1).map fun y => .tup [y, .bool false] := by simp [its2]
              rw [e2]
              exact ss_nil
            have h2 := step _ _ (ss_if_f c4 ss_nil (ss_if_f c5 ss_nil (ss_if_f c6 ss_nil tail)))
            have hrec := ih ((kids.map fun x => (x.1, x.2, false)).reverse ++ its) (.v (.tup [.obj k, .bool root])) (.v (.obj k)) (.v (.int (ks.length : Int))) m8 (by
                rw [List.map_append, List.map_reverse, Ts.size_app, Ts.size_rev, List.map_map]
                have : Ts.size (kids.map ((fun x : Nat × T × Bool => x.2.1) ∘ fun x : Nat × T => (x.1, x.2, false))) = Ts.size (kids.map (·.2)) := rfl
                omega) (by omega) (by
              intro x hx
              rcases List.mem_append.mp hx with hx | hx
              · obtain ⟨y, hy, rfl⟩ := List.mem_map.mp (List.mem_reverse.mp hx)
                exact hk y hy
              · exact hr x (.tail _ hx))
            rcases hrec with ⟨q, k', loc', ev⟩ | ⟨q, k', loc', ev⟩
            · exact .inl ⟨by rw [q]; rfl, k' + 1, loc', .turn more h2 ev⟩
            · exact .inr ⟨by rw [q]; rfl, k' + 1, loc', .turn more h2 ev⟩
theorem shape_code (P : PgOk c pg2) (n : Nat) {me k t : Nat} {x y : V} {tr : T} {root : Bool} (hm : st[me]? = some ⟨1, [.int (t : Int), x, y]⟩) (h : Rep st k tr) (ht : t ≤ 10) (hz : tr.size ≤ 50000) : SCode c (n + 1) (addr2 19) [.obj me, .obj k, .bool root] st (.bool (tr.shp t root)) st := by
  have hh := shape_loop (st := st) (n := n) P (me := .obj me) (nd := .obj k) (rt := .bool root) ht tr.size [(k, tr, root)] .unset .unset .unset .unset (by simp [Ts.size]) hz (by intro x hx; cases hx with | head => exact h | tail _ q => cases q)
  have go : ∀ b loc', SS c nm19 n (b19.drop 2) [.v (.obj me), .v (.obj k), .v (.bool root), .v (.int (t : Int)), .own ([(k, tr, root)].reverse.map its2), .unset, .unset, .unset, .unset] st (.ret (.bool b)) loc' st → SCode c (n + 1) (addr2 19) [.obj me, .obj k, .bool root] st (.bool b) st := by
    intro b loc' hh
    refine fn_code (loc := loc') P (k := 19) (nm := nm19) (body := b19) (pad := [.unset, .unset, .unset, .unset, .unset, .unset]) (np := 3) (fl := .ret (.bool b)) rfl rfl ?_ (.ret _)
    refine ss_assign (st₁ := st) (v := .int (t : Int)) rfl (aT P (sE_loc rfl rfl (by decide +kernel)) hm rfl) rfl ?_
    exact ss_own (st₁ := st) (vs := [.tup [.obj k, .bool root]]) rfl (sEs_cons (sE_tup (sEs_cons (sE_loc rfl rfl (by decide +kernel)) (sEs_cons (sE_loc rfl rfl (by decide +kernel)) sEs_nil)) (by first | decide | (simp; done))) sEs_nil) (by simp) hh
  have e : allShp t [(k, tr, root)] = tr.shp t root := by simp [allShp]
  rw [e] at hh
  rcases hh with ⟨q, w, loc', ev⟩ | ⟨q, w, loc', ev⟩
  · rw [q]; exact go _ _ (ss_whiler ev)
  · rw [q]; exact go _ _ (ss_while ev (ss_return sE_bool))
end
end Mine

namespace Mine
open PySem PySem.W PySem.Calls PyProof.Rows

def V.isNum : V → Bool
  | .int _ => true
  | .key _ => true
  | .val _ => true
  | _ => false
theorem V.num_iv (c : Cn) {v : V} (h : v.isNum = true) : v.iv c = some (v.num c) := by
  cases v <;> first | rfl | cases h
mutual
def T.kn : T → Bool
  | .nd ks _ cs => ks.all V.isNum && Nat.ble cs.length (ks.length + 1) && Ts.kn cs
def Ts.kn : List T → Bool
  | [] => true
  | x :: xs => x.kn && Ts.kn xs
end
theorem Ts.kn_mem {cs : List T} (h : Ts.kn cs = true) : ∀ x ∈ cs, x.kn = true := by
  induction cs with
  | nil => intro x hx; cases hx
  | cons a l ih =>
    rw [Ts.kn, Bool.and_eq_true] at h
    intro x hx
    cases hx with
    | head => exact h.1
    | tail _ q => exact ih h.2 x q
def V.bnd (v : V) : Bool := v.isNone || v.isNum
/-- the previous key -/
def pv (ks : List V) : Nat → Option V
  | 0 => none
  | i + 1 => ks[i]?
def loB (ks : List V) (lo : V) : Nat → V
  | 0 => lo
  | j + 1 => ks.getD j .none
def hiB (ks : List V) (hi : V) (j : Nat) : V := (ks[j]?).getD hi
def kitems (ks : List V) (lo hi : V) : Nat → List (Nat × T) → List (Nat × T × V × V)
  | _, [] => []
  | j, x :: xs => (x.1, x.2, loB ks lo j, hiB ks hi j) :: kitems ks lo hi (j + 1) xs
def allKok (c : Cn) (its : List (Nat × T × V × V)) : Bool := its.all fun x => x.2.1.kok (V.lt c) x.2.2.1 x.2.2.2
theorem allKok_kids (c : Cn) (ks : List V) (lo hi : V) : ∀ (kids : List (Nat × T)) (j : Nat), kids.length + j ≤ ks.length + 1 → allKok c (kitems ks lo hi j kids) = Ts.kok (V.lt c) (kids.map (·.2)) (ks.drop j) (loB ks lo j) hi := by
  intro kids
  induction kids with
  | nil => intro j _; simp [kitems, allKok, Ts.kok]
  | cons x kids ih =>
    intro j hj
    simp only [List.length_cons] at hj
    have h1 : allKok c (kitems ks lo hi j (x :: kids)) = (x.2.kok (V.lt c) (loB ks lo j) (hiB ks hi j) && allKok c (kitems ks lo hi (j + 1) kids)) := by simp [kitems, allKok]
    rw [h1]
    by_cases hlt : j < ks.length
    · rw [ih (j + 1) (by omega), List.drop_eq_getElem_cons hlt, List.map_cons, Ts.kok]
      have e1 : hiB ks hi j = ks[j] := by unfold hiB; rw [List.getElem?_eq_getElem hlt]; rfl
      have e2 : loB ks lo (j + 1) = ks[j] := by show ks.getD j .none = _; rw [List.getD_eq_getElem?_getD, List.getElem?_eq_getElem hlt]; rfl
      rw [e1, e2]
    · have hk : kids = [] := by cases kids with
        | nil => rfl
        | cons _ _ => simp at hj; omega
      subst hk
      have e1 : hiB ks hi j = hi := by unfold hiB; rw [List.getElem?_eq_none (by omega)]; rfl
      rw [List.drop_of_length_le (by omega), e1]
      simp [Ts.kok, kitems, allKok]
theorem all_rev {α : Type} (f : α → Bool) (a b : List α) : (a.reverse ++ b).all f = (a.all f && b.all f) := by
  rw [List.all_append, List.all_reverse]
section
variable {c : Cn} {nm : Nm} {n : Nat} {loc loc₁ loc₂ : List LV} {st st₁ st₂ : List Inst} {fl : Fl}
theorem cmp_leV {a b : V} (ha : a.isNum = true) (hb : b.isNum = true) : CmpOk c n .le a b (!V.lt c b a) := by
  have h := cmp_le (c := c) (n := n) (V.num_iv c ha) (V.num_iv c hb)
  have e : (!V.lt c b a) = decide (a.num c ≤ b.num c) := by
    rw [V.lt_eq, Bool.eq_iff_iff]; simp
  rw [e]; exact h
theorem cmp_geV {a b : V} (ha : a.isNum = true) (hb : b.isNum = true) : CmpOk c n .ge a b (!V.lt c a b) := by
  have h := cmp_ge (c := c) (n := n) (V.num_iv c ha) (V.num_iv c hb)
  have e : (!V.lt c a b) = decide (b.num c ≤ a.num c) := by
    rw [V.lt_eq, Bool.eq_iff_iff]; simp
  rw [e]; exact h
theorem num_of_bnd {v : V} (h : v.bnd = true) (h' : (!v.isNone) = true) : v.isNum = true := by
  unfold V.bnd at h
  cases hv : v.isNone with
  | true => rw [hv] at h'; cases h'
  | false => rw [hv] at h; exact h
theorem rng_cast (i m : Nat) : ((List.range (m + 1)).map fun j : Nat => V.int ((i + j : Nat) : Int)) = V.int (i : Int) :: (List.range m).map fun j : Nat => V.int ((i + 1 + j : Nat) : Int) := by
  rw [List.range_succ_eq_map, List.map_cons, List.map_map]
  congr 1
  apply List.map_congr_left
  intro j _
  show V.int _ = V.int _
  have : i + (j + 1) = i + 1 + j := by omega
  rw [this]
theorem rng0 (m : Nat) : rng 0 1 m = (List.range m).map fun j : Nat => V.int ((0 + j : Nat) : Int) := by
  unfold rng
  apply List.map_congr_left
  intro j _
  show V.int _ = V.int _
  congr 1
  omega

/-- the row of one node -/
theorem row_loop (P : PgOk c pg2) {me nd a b lo hi : V} {k : Nat} {S ks : List V} {l9 l10 l11 : LV} (hn : ∀ v ∈ ks, v.isNum = true) (hlo : lo.bnd = true) (hhi : hi.bnd = true) (hz : ks.length ≤ 50000) : ∀ (m i : Nat) (l8 : LV), i + m = ks.length →
    (rowOk (V.lt c) lo hi (pv ks i) (ks.drop i) = false ∧ ∃ loc', FEv c nm20 n 8 (sAt (sAt b20 1).bd 4).bd ((List.range m).map fun j : Nat => V.int ((i + j : Nat) : Int)) [.v me, .v nd, .v a, .v b, .own S, .v (.tup [.obj k, lo, hi]), .v (.obj k), .v (.list ks), l8, l9, l10, l11] st (.ret (.bool false)) loc' st) ∨
    (rowOk (V.lt c) lo hi (pv ks i) (ks.drop i) = true ∧ ∃ l8', FEv c nm20 n 8 (sAt (sAt b20 1).bd 4).bd ((List.range m).map fun j : Nat => V.int ((i + j : Nat) : Int)) [.v me, .v nd, .v a, .v b, .own S, .v (.tup [.obj k, lo, hi]), .v (.obj k), .v (.list ks), l8, l9, l10, l11] st .next [.v me, .v nd, .v a, .v b, .own S, .v (.tup [.obj k, lo, hi]), .v (.obj k), .v (.list ks), l8', l9, l10, l11] st) := by
  intro m
  induction m with
  | zero =>
    intro i l8 hi'
    rw [List.drop_of_length_le (by omega)]
    exact .inr ⟨by rw [rowOk], l8, .nil⟩
  | succ m ih =>
    intro i l8 him
    have hlt : i < ks.length := by omega
    rw [rng_cast, List.drop_eq_getElem_cons hlt]
    have hki := hn _ (List.getElem_mem hlt)
    generalize hkv : ks[i] = ki at hki
    have hget : ks[i]? = some ki := by rw [List.getElem?_eq_getElem hlt, hkv]
    generalize hL : [LV.v me, .v nd, .v a, .v b, .own S, .v (.tup [.obj k, lo, hi]), .v (.obj k), .v (.list ks), .v (.int (i : Int)), l9, l10, l11] = L
    have row : ∀ {p q r : Ps}, SE c nm20 n (.idx (.loc 7 "row" p) (.loc 8 "i" q) r) L st ki st := by
      intro p q r; subst hL
      exact sE_idx (k := i) (sE_loc rfl rfl (by decide +kernel)) (sE_loc rfl rfl (by decide +kernel)) rfl hget (by omega)
    have c1 : SC c nm20 n (sAt (sAt (sAt b20 1).bd 4).bd 0).cd L st (!lo.isNone && !V.lt c lo ki) st := by
      refine sc_and2 (sC_cmp (x := lo) (y := .none) ?_ sE_none (cmp_is_none (.inr ⟨rfl, rfl⟩))) fun h => sC_cmp row ?_ (cmp_leV hki (num_of_bnd hlo h))
      · subst hL; exact sE_idxT (k := 1) (sE_loc rfl rfl (by decide +kernel)) sE_int rfl rfl (by first | decide | (simp; done))
      · subst hL; exact sE_idxT (k := 1) (sE_loc rfl rfl (by decide +kernel)) sE_int rfl rfl (by first | decide | (simp; done))
    have c2 : SC c nm20 n (sAt (sAt (sAt b20 1).bd 4).bd 1).cd L st (!hi.isNone && !V.lt c ki hi) st := by
      refine sc_and2 (sC_cmp (x := hi) (y := .none) ?_ sE_none (cmp_is_none (.inr ⟨rfl, rfl⟩))) fun h => sC_cmp row ?_ (cmp_geV hki (num_of_bnd hhi h))
      · subst hL; exact sE_idxT (k := 2) (sE_loc rfl rfl (by decide +kernel)) sE_int rfl rfl (by first | decide | (simp; done))
      · subst hL; exact sE_idxT (k := 2) (sE_loc rfl rfl (by decide +kernel)) sE_int rfl rfl (by first | decide | (simp; done))
    have c3 : SC c nm20 n (sAt (sAt (sAt b20 1).bd 4).bd 2).cd L st (decide ((0 : Int) < (i : Int)) && !pvOk (V.lt c) (pv ks i) ki) st := by
      refine sc_and2 (sC_cmp (x := .int (i : Int)) (y := .int 0) ?_ sE_int (cmp_gt rfl rfl)) fun h => ?_
      · subst hL; exact (sE_loc rfl rfl (by decide +kernel))
      · cases i with
        | zero => simp at h
        | succ j =>
          have hj : j < ks.length := by omega
          have hp : ks[j]? = some ks[j] := List.getElem?_eq_getElem hj
          show SC c nm20 n _ L st (!pvOk (V.lt c) ks[j]? ki) st
          rw [hp]
          show SC c nm20 n _ L st (!V.lt c ks[j] ki) st
          refine sC_cmp row (sE_idx (st₁ := st) (xs := ks) (k := j) (y := .int (((j + 1 : Nat) : Int) - 1)) ?_ (sE_bin (st₁ := st) (x := .int ((j + 1 : Nat) : Int)) ?_ sE_int (bin_sub rfl rfl)) ?_ hp (by omega)) (cmp_leV hki (hn _ (List.getElem_mem hj)))
          · subst hL; exact (sE_loc rfl rfl (by decide +kernel))
          · subst hL; exact (sE_loc rfl rfl (by decide +kernel))
          · show some (((j + 1 : Nat) : Int) - 1) = some (j : Int)
            congr 1; omega
    have e3 : rowOk (V.lt c) lo hi (pv ks i) (ki :: ks.drop (i + 1)) = (!(!lo.isNone && !V.lt c lo ki) && (!(!hi.isNone && !V.lt c ki hi) && (!(decide ((0 : Int) < (i : Int)) && !pvOk (V.lt c) (pv ks i) ki) && rowOk (V.lt c) lo hi (some ki) (ks.drop (i + 1))))) := by
      rw [rowOk]
      have q3 : pvOk (V.lt c) (pv ks i) ki = !(decide ((0 : Int) < (i : Int)) && !pvOk (V.lt c) (pv ks i) ki) := by
        cases i with
        | zero => rfl
        | succ j => rw [decide_eq_true (by omega)]; simp
      rw [← q3]
      cases lo.isNone <;> cases hi.isNone <;> cases V.lt c lo ki <;> cases V.lt c ki hi <;> simp
    rw [e3]
    have start : (LV.v me :: .v nd :: .v a :: .v b :: .own S :: .v (.tup [.obj k, lo, hi]) :: .v (.obj k) :: .v (.list ks) :: l8 :: l9 :: l10 :: [l11]).set 8 (.v (.int (i : Int))) = L := by rw [← hL]; rfl
    cases h1 : (!lo.isNone && !V.lt c lo ki) with
    | true =>
      rw [h1] at c1
      exact .inl ⟨rfl, _, .ret (by rw [start]; exact ss_if_tr c1 (ss_return sE_bool))⟩
    | false =>
      rw [h1] at c1
      cases h2 : (!hi.isNone && !V.lt c ki hi) with
      | true =>
        rw [h2] at c2
        exact .inl ⟨rfl, _, .ret (by rw [start]; exact ss_if_f c1 ss_nil (ss_if_tr c2 (ss_return sE_bool)))⟩
      | false =>
        rw [h2] at c2
        cases h3 : (decide ((0 : Int) < (i : Int)) && !pvOk (V.lt c) (pv ks i) ki) with
        | true =>
          rw [h3] at c3
          exact .inl ⟨rfl, _, .ret (by rw [start]; exact ss_if_f c1 ss_nil (ss_if_f c2 ss_nil (ss_if_tr c3 (ss_return sE_bool))))⟩
        | false =>
          rw [h3] at c3
          have hb : SS c nm20 n (sAt (sAt b20 1).bd 4).bd L st .next L st := ss_if_f c1 ss_nil (ss_if_f c2 ss_nil (ss_if_f c3 ss_nil ss_nil))
          have hpv : pv ks (i + 1) = some ki := hget
          have hrec := ih (i + 1) (.v (.int (i : Int))) (by omega)
          rw [hpv, hL] at hrec
          rcases hrec with ⟨q, loc', ev⟩ | ⟨q, l8', ev⟩
          · exact .inl ⟨by rw [q]; rfl, loc', .cons (by rw [start]; exact hb) ev⟩
          · exact .inr ⟨by rw [q]; rfl, l8', .cons (by rw [start]; exact hb) ev⟩
def itk (x : Nat × T × V × V) : V := .tup [.obj x.1, x.2.2.1, x.2.2.2]
/-- its children -/
theorem kid_loop (P : PgOk c pg2) {me nd a b lo hi : V} {k : Nat} {ks vs : List V} {l8 : LV} {kids : List (Nat × T)} (hi' : st[k]? = some ⟨0, [.list ks, .list vs, .list (kids.map fun x => .obj x.1)]⟩) (hz : ks.length ≤ 50000) (hc : kids.length ≤ ks.length + 1) : ∀ (m j : Nat) (S : List V) (l9 l10 l11 : LV), j + m = kids.length → S.length + m ≤ 1000000 →
    ∃ l9' l10' l11', FEv c nm20 n 9 (sAt (sAt b20 1).bd 5).bd ((List.range m).map fun i : Nat => V.int ((j + i : Nat) : Int)) [.v me, .v nd, .v a, .v b, .own S, .v (.tup [.obj k, lo, hi]), .v (.obj k), .v (.list ks), l8, l9, l10, l11] st .next [.v me, .v nd, .v a, .v b, .own (S ++ (kitems ks lo hi j (kids.drop j)).map itk), .v (.tup [.obj k, lo, hi]), .v (.obj k), .v (.list ks), l8, l9', l10', l11'] st := by
  intro m
  induction m with
  | zero =>
    intro j S l9 l10 l11 hj hS
    refine ⟨l9, l10, l11, ?_⟩
    rw [List.drop_of_length_le (by omega), kitems, List.map_nil, List.append_nil]
    exact .nil
  | succ m ih =>
    intro j S l9 l10 l11 hj hS
    have hlt : j < kids.length := by omega
    obtain ⟨a9, a10, a11, ev⟩ := ih (j + 1) (S ++ [itk (kids[j].1, kids[j].2, loB ks lo j, hiB ks hi j)]) (.v (.int (j : Int))) (.v (loB ks lo j)) (.v (hiB ks hi j)) (by omega) (by simp; omega)
    refine ⟨a9, a10, a11, ?_⟩
    rw [rng_cast, List.drop_eq_getElem_cons hlt, kitems, List.map_cons]
    have e1 : S ++ itk (kids[j].1, kids[j].2, loB ks lo j, hiB ks hi j) :: (kitems ks lo hi (j + 1) (kids.drop (j + 1))).map itk = S ++ [itk (kids[j].1, kids[j].2, loB ks lo j, hiB ks hi j)] ++ (kitems ks lo hi (j + 1) (kids.drop (j + 1))).map itk := by simp
    rw [e1]
    refine .cons ?_ ev
    -- the body
    have cj : ∀ l10 l11, SC c nm20 n (sAt (sAt (sAt b20 1).bd 5).bd 2).cd [.v me, .v nd, .v a, .v b, .own S, .v (.tup [.obj k, lo, hi]), .v (.obj k), .v (.list ks), l8, .v (.int (j : Int)), l10, l11] st (decide ((0 : Int) < (j : Int))) st := fun _ _ => sC_cmp (sE_loc rfl rfl (by decide +kernel)) sE_int (cmp_gt rfl rfl)
    have cl : ∀ l10 l11, SC c nm20 n (sAt (sAt (sAt b20 1).bd 5).bd 3).cd [.v me, .v nd, .v a, .v b, .own S, .v (.tup [.obj k, lo, hi]), .v (.obj k), .v (.list ks), l8, .v (.int (j : Int)), l10, l11] st (decide ((j : Int) < (ks.length : Int))) st := fun _ _ => sC_cmp (sE_loc rfl rfl (by decide +kernel)) (eLen P (by decide +kernel) (sE_loc rfl rfl (by decide +kernel)) (by omega)) (cmp_lt rfl rfl)
    have fin : SS c nm20 n ((sAt (sAt b20 1).bd 5).bd.drop 4) [.v me, .v nd, .v a, .v b, .own S, .v (.tup [.obj k, lo, hi]), .v (.obj k), .v (.list ks), l8, .v (.int (j : Int)), .v (loB ks lo j), .v (hiB ks hi j)] st .next [.v me, .v nd, .v a, .v b, .own (S ++ [itk (kids[j].1, kids[j].2, loB ks lo j, hiB ks hi j)]), .v (.tup [.obj k, lo, hi]), .v (.obj k), .v (.list ks), l8, .v (.int (j : Int)), .v (loB ks lo j), .v (hiB ks hi j)] st := by
      refine ss_app (st₁ := st) (v := itk (kids[j].1, kids[j].2, loB ks lo j, hiB ks hi j)) rfl rfl (by decide +kernel) ?_ rfl (by omega) ss_nil
      refine sE_tup (sEs_cons (v := .obj kids[j].1) (sE_idx (k := j) (aKids P (sE_loc rfl rfl (by decide +kernel)) hi' rfl) (sE_loc rfl rfl (by decide +kernel)) rfl ?_ (by simp; omega)) (sEs_cons (sE_loc rfl rfl (by decide +kernel)) (sEs_cons (sE_loc rfl rfl (by decide +kernel)) sEs_nil))) (by first | decide | (simp; done))
      rw [List.getElem?_map, List.getElem?_eq_getElem hlt]; rfl
    have hih : SS c nm20 n ((sAt (sAt b20 1).bd 5).bd.drop 3) [.v me, .v nd, .v a, .v b, .own S, .v (.tup [.obj k, lo, hi]), .v (.obj k), .v (.list ks), l8, .v (.int (j : Int)), .v (loB ks lo j), .v hi] st .next [.v me, .v nd, .v a, .v b, .own (S ++ [itk (kids[j].1, kids[j].2, loB ks lo j, hiB ks hi j)]), .v (.tup [.obj k, lo, hi]), .v (.obj k), .v (.list ks), l8, .v (.int (j : Int)), .v (loB ks lo j), .v (hiB ks hi j)] st := by
      have c' := cl (.v (loB ks lo j)) (.v hi)
      by_cases hjk : j < ks.length
      · rw [decide_eq_true (by omega)] at c'
        have e : hiB ks hi j = ks[j] := by unfold hiB; rw [List.getElem?_eq_getElem hjk]; rfl
        refine ss_if_t c' (ss_assign (st₁ := st) (v := hiB ks hi j) rfl (sE_idx (k := j) (sE_loc rfl rfl (by decide +kernel)) (sE_loc rfl rfl (by decide +kernel)) rfl ?_ (by omega)) rfl ss_nil) fin
        rw [e, List.getElem?_eq_getElem hjk]
      · rw [decide_eq_false (by omega)] at c'
        have e : hiB ks hi j = hi := by unfold hiB; rw [List.getElem?_eq_none (by omega)]; rfl
        rw [e] at fin ⊢
        exact ss_if_f c' ss_nil fin
    refine ss_assign (st₁ := st) (v := lo) rfl (sE_idxT (k := 1) (sE_loc rfl rfl (by decide +kernel)) sE_int rfl rfl (by first | decide | (simp; done))) rfl ?_
    refine ss_assign (st₁ := st) (v := hi) rfl (sE_idxT (k := 2) (sE_loc rfl rfl (by decide +kernel)) sE_int rfl rfl (by first | decide | (simp; done))) rfl ?_
    have c' := cj (.v lo) (.v hi)
    cases j with
    | zero =>
      rw [decide_eq_false (by simp)] at c'
      exact ss_if_f c' ss_nil hih
    | succ i =>
      rw [decide_eq_true (by omega)] at c'
      have hik : i < ks.length := by omega
      refine ss_if_t c' (ss_assign (st₁ := st) (v := loB ks lo (i + 1)) rfl (sE_idx (k := i) (y := .int (((i + 1 : Nat) : Int) - 1)) (sE_loc rfl rfl (by decide +kernel)) (sE_bin (sE_loc rfl rfl (by decide +kernel)) sE_int (bin_sub rfl rfl)) ?_ ?_ (by omega)) rfl ss_nil) hih
      · show some (((i + 1 : Nat) : Int) - 1) = some (i : Int)
        congr 1; omega
      · show ks[i]? = some (ks.getD i .none)
        rw [List.getD_eq_getElem?_getD, List.getElem?_eq_getElem hik]; rfl
theorem bnd_lo {ks : List V} {lo : V} (hn : ∀ v ∈ ks, v.isNum = true) (h : lo.bnd = true) (j : Nat) (hj : j ≤ ks.length) : (loB ks lo j).bnd = true := by
  cases j with
  | zero => exact h
  | succ i =>
    show (ks.getD i .none).bnd = true
    rw [List.getD_eq_getElem?_getD, List.getElem?_eq_getElem (by omega)]
    unfold V.bnd
    rw [Option.getD_some, hn _ (List.getElem_mem (by omega)), Bool.or_true]
theorem bnd_hi {ks : List V} {hi : V} (hn : ∀ v ∈ ks, v.isNum = true) (h : hi.bnd = true) (j : Nat) : (hiB ks hi j).bnd = true := by
  unfold hiB
  by_cases hj : j < ks.length
  · rw [List.getElem?_eq_getElem hj]
    unfold V.bnd
    rw [Option.getD_some, hn _ (List.getElem_mem hj), Bool.or_true]
  · rw [List.getElem?_eq_none (by omega)]; exact h
theorem kitems_mem {ks : List V} {lo hi : V} (hn : ∀ v ∈ ks, v.isNum = true) (hlo : lo.bnd = true) (hhi : hi.bnd = true) : ∀ (kids : List (Nat × T)) (j : Nat), kids.length + j ≤ ks.length + 1 → ∀ x ∈ kitems ks lo hi j kids, (x.1, x.2.1) ∈ kids ∧ x.2.2.1.bnd = true ∧ x.2.2.2.bnd = true := by
  intro kids
  induction kids with
  | nil => intro j _ x hx; cases hx
  | cons y kids ih =>
    intro j hj x hx
    simp only [List.length_cons] at hj
    cases hx with
    | head => exact ⟨.head _, bnd_lo hn hlo j (by omega), bnd_hi hn hhi j⟩
    | tail _ q =>
      obtain ⟨a, b⟩ := ih (j + 1) (by omega) x q
      exact ⟨.tail _ a, b⟩
theorem kitems_ts (ks : List V) (lo hi : V) : ∀ (kids : List (Nat × T)) (j : Nat), (kitems ks lo hi j kids).map (·.2.1) = kids.map (·.2) := by
  intro kids
  induction kids with
  | nil => intro j; rfl
  | cons y kids ih => intro j; rw [kitems, List.map_cons, List.map_cons, ih]
theorem keys_loop (P : PgOk c pg2) {me nd a b : V} : ∀ (N : Nat) (its : List (Nat × T × V × V)) (l5 l6 l7 l8 l9 l10 l11 : LV), Ts.size (its.map (·.2.1)) ≤ N → N ≤ 50000 → (∀ x ∈ its, Rep st x.1 x.2.1 ∧ x.2.1.kn = true ∧ x.2.2.1.bnd = true ∧ x.2.2.2.bnd = true) →
    (allKok c its = false ∧ ∃ k loc', WEv c nm20 n (sAt b20 1).cd (sAt b20 1).bd k [.v me, .v nd, .v a, .v b, .own (its.reverse.map itk), l5, l6, l7, l8, l9, l10, l11] st (.ret (.bool false)) loc' st) ∨
    (allKok c its = true ∧ ∃ k loc', WEv c nm20 n (sAt b20 1).cd (sAt b20 1).bd k [.v me, .v nd, .v a, .v b, .own (its.reverse.map itk), l5, l6, l7, l8, l9, l10, l11] st .next loc' st) := by
  have bt : BtOk c nm20 "len" (.builtin "len") := btLen P (by decide +kernel)
  intro N
  induction N with
  | zero =>
    intro its l5 l6 l7 l8 l9 l10 l11 h1 h2 hr
    cases its with
    | nil => exact .inr ⟨rfl, 0, _, .stop (sC_more_f bt rfl rfl (by decide +kernel))⟩
    | cons x its => have := x.2.1.size_pos; simp [Ts.size] at h1; omega
  | succ N ih =>
    intro its l5 l6 l7 l8 l9 l10 l11 h1 h2 hr
    cases its with
    | nil => exact .inr ⟨rfl, 0, _, .stop (sC_more_f bt rfl rfl (by decide +kernel))⟩
    | cons x its =>
      obtain ⟨k, tr, lo, hi⟩ := x
      obtain ⟨hrep, hkn, hlo, hhi⟩ := hr _ (.head _)
      obtain ⟨ks, vs, kids, hget, hk, rfl⟩ := Rep.inv hrep
      have hs : 1 + ks.length + vs.length + Ts.size (kids.map (·.2)) + Ts.size (its.map (·.2.1)) ≤ N + 1 := by simpa [Ts.size, T.size] using h1
      have l1 := Ts.len_le (its.map (·.2.1))
      have l2 := Ts.len_le (kids.map (·.2))
      rw [List.length_map] at l1 l2
      replace hkn : (T.nd ks vs (kids.map (·.2))).kn = true := hkn
      rw [T.kn, Bool.and_eq_true, Bool.and_eq_true, List.length_map] at hkn
      obtain ⟨⟨hn, hlen⟩, hkk⟩ := hkn
      have hn' : ∀ v ∈ ks, v.isNum = true := List.all_eq_true.mp hn
      have hlen' : kids.length ≤ ks.length + 1 := Nat.le_of_ble_eq_true hlen
      have e1 : (((k, T.nd ks vs (kids.map (·.2)), lo, hi) :: its).reverse.map itk) = (its.reverse.map itk) ++ [.tup [.obj k, lo, hi]] := by simp [itk]
      have e3 : allKok c ((k, T.nd ks vs (kids.map (·.2)), lo, hi) :: its) = (rowOk (V.lt c) lo hi none ks && allKok c ((kitems ks lo hi 0 kids).reverse ++ its)) := by
        have q := allKok_kids c ks lo hi kids 0 (by omega)
        show ((T.nd ks vs (kids.map (·.2))).kok (V.lt c) lo hi && allKok c its) = (rowOk (V.lt c) lo hi none ks && ((kitems ks lo hi 0 kids).reverse ++ its).all _)
        rw [all_rev, T.kok, Bool.and_assoc]
        congr 1
        have q' : Ts.kok (V.lt c) (kids.map (·.2)) ks lo hi = allKok c (kitems ks lo hi 0 kids) := q.symm
        rw [q']; rfl
      have step : ∀ fl loc', SS c nm20 n ((sAt b20 1).bd.drop 4) [.v me, .v nd, .v a, .v b, .own (its.reverse.map itk), .v (.tup [.obj k, lo, hi]), .v (.obj k), .v (.list ks), l8, l9, l10, l11] st fl loc' st → SS c nm20 n (sAt b20 1).bd [.v me, .v nd, .v a, .v b, .own (its.reverse.map itk ++ [.tup [.obj k, lo, hi]]), l5, l6, l7, l8, l9, l10, l11] st fl loc' st := by
        intro fl loc' hh
        refine ss_pop bt rfl rfl (by first | decide | (simp; done)) rfl (by decide +kernel) (by simp; omega) ?_
        refine ss_assign (st₁ := st) (v := .obj k) rfl (sE_idxT (k := 0) (sE_loc rfl rfl (by decide +kernel)) sE_int rfl rfl (by first | decide | (simp; done))) rfl ?_
        exact ss_assign (st₁ := st) (v := .list ks) rfl (aKeys P (sE_loc rfl rfl (by decide +kernel)) hget rfl) rfl hh
      have more := sC_more_t (c := c) (nm := nm20) (n := n) (st := st) (loc := [.v me, .v nd, .v a, .v b, .own (its.reverse.map itk ++ [.tup [.obj k, lo, hi]]), l5, l6, l7, l8, l9, l10, l11]) (i := 4) (x := "stack") (L := "len") (a1 := ⟨129, 14, 129, 17⟩) (a2 := ⟨129, 18, 129, 23⟩) (a3 := ⟨129, 14, 129, 24⟩) (a4 := ⟨129, 27, 129, 28⟩) (a5 := ⟨129, 14, 129, 28⟩) bt rfl rfl (by decide +kernel) (by simp; omega)
      rw [e1, e3]
      have hrow := row_loop (st := st) (n := n) P (me := me) (nd := nd) (a := a) (b := b) (k := k) (S := its.reverse.map itk) (l9 := l9) (l10 := l10) (l11 := l11) hn' hlo hhi (by omega) ks.length 0 l8 (by omega)
      rw [List.drop_zero, ← rng0] at hrow
      rcases hrow with ⟨q, loc', ev⟩ | ⟨q, l8', ev⟩
      · rw [show pv ks 0 = none from rfl] at q
        refine .inl ⟨by rw [q]; rfl, 0, loc', .ret more (step _ _ ?_)⟩
        exact ss_forr (st₁ := st) (xs := rng 0 1 ks.length) rfl (si_range1 (y := .int (ks.length : Int)) (btRange P (by decide +kernel)) (eLen P (by decide +kernel) (sE_loc rfl rfl (by decide +kernel)) (by omega)) rfl (by omega)) ev
      · rw [show pv ks 0 = none from rfl] at q
        obtain ⟨a9, a10, a11, ev2⟩ := kid_loop (st := st) (n := n) P (me := me) (nd := nd) (a := a) (b := b) (lo := lo) (hi := hi) (l8 := l8') hget (by omega) hlen' kids.length 0 (its.reverse.map itk) l9 l10 l11 (by omega) (by simp; omega)
        rw [List.drop_zero, ← rng0] at ev2
        have h2 := step .next [.v me, .v nd, .v a, .v b, .own (((kitems ks lo hi 0 kids).reverse ++ its).reverse.map itk), .v (.tup [.obj k, lo, hi]), .v (.obj k), .v (.list ks), l8', a9, a10, a11] (by
          refine ss_for (st₁ := st) (st₂ := st) (xs := rng 0 1 ks.length) rfl (si_range1 (y := .int (ks.length : Int)) (btRange P (by decide +kernel)) (eLen P (by decide +kernel) (sE_loc rfl rfl (by decide +kernel)) (by omega)) rfl (by omega)) ev ?_
          refine ss_for (st₁ := st) (st₂ := st) (xs := rng 0 1 kids.length) rfl (si_range1 (y := .int (kids.length : Int)) (btRange P (by decide +kernel)) (se_eq (eLen P (by decide +kernel) (aKids P (sE_loc rfl rfl (by decide +kernel)) hget rfl) (by simp; omega)) (by rw [List.length_map])) rfl (by omega)) ev2 ?_
          have e2 : ((kitems ks lo hi 0 kids).reverse ++ its).reverse.map itk = its.reverse.map itk ++ (kitems ks lo hi 0 kids).map itk := by simp
          rw [e2]
          exact ss_nil)
        have hrec := ih ((kitems ks lo hi 0 kids).reverse ++ its) (.v (.tup [.obj k, lo, hi])) (.v (.obj k)) (.v (.list ks)) l8' a9 a10 a11 (by
            rw [List.map_append, List.map_reverse, Ts.size_app, Ts.size_rev, kitems_ts]; omega) (by omega) (by
          intro x hx
          rcases List.mem_append.mp hx with hx | hx
          · obtain ⟨m1, m2, m3⟩ := kitems_mem hn' hlo hhi kids 0 (by omega) x (List.mem_reverse.mp hx)
            exact ⟨hk _ m1, Ts.kn_mem hkk _ (List.mem_map.mpr ⟨_, m1, rfl⟩), m2, m3⟩
          · exact hr x (.tail _ hx))
        rcases hrec with ⟨q', k', loc', ev3⟩ | ⟨q', k', loc', ev3⟩
        · exact .inl ⟨by rw [q, q']; rfl, k' + 1, loc', .turn more h2 ev3⟩
        · exact .inr ⟨by rw [q, q']; rfl, k' + 1, loc', .turn more h2 ev3⟩
theorem keys_code (P : PgOk c pg2) (n : Nat) {me : V} {k : Nat} {tr : T} (h : Rep st k tr) (hk : tr.kn = true) (hz : tr.size ≤ 50000) : SCode c (n + 1) (addr2 20) [me, .obj k, .none, .none] st (.bool (tr.kok (V.lt c) .none .none)) st := by
  have hh := keys_loop (st := st) (n := n) P (me := me) (nd := .obj k) (a := .none) (b := .none) tr.size [(k, tr, .none, .none)] .unset .unset .unset .unset .unset .unset .unset (by simp [Ts.size]) hz (by intro x hx; cases hx with | head => exact ⟨h, hk, rfl, rfl⟩ | tail _ q => cases q)
  have go : ∀ b loc', SS c nm20 n (b20.drop 1) [.v me, .v (.obj k), .v .none, .v .none, .own ([(k, tr, V.none, V.none)].reverse.map itk), .unset, .unset, .unset, .unset, .unset, .unset, .unset] st (.ret (.bool b)) loc' st → SCode c (n + 1) (addr2 20) [me, .obj k, .none, .none] st (.bool b) st := by
    intro b loc' hh
    refine fn_code (loc := loc') P (k := 20) (nm := nm20) (body := b20) (pad := [.unset, .unset, .unset, .unset, .unset, .unset, .unset, .unset]) (np := 4) (fl := .ret (.bool b)) rfl rfl ?_ (.ret _)
    exact ss_own (st₁ := st) (vs := [.tup [.obj k, .none, .none]]) rfl (sEs_cons (sE_tup (sEs_cons (sE_loc rfl rfl (by decide +kernel)) (sEs_cons (sE_loc rfl rfl (by decide +kernel)) (sEs_cons (sE_loc rfl rfl (by decide +kernel)) sEs_nil))) (by first | decide | (simp; done))) sEs_nil) (by simp) hh
  have e : allKok c [(k, tr, .none, .none)] = tr.kok (V.lt c) .none .none := by simp [allKok]
  rw [e] at hh
  rcases hh with ⟨q, w, loc', ev⟩ | ⟨q, w, loc', ev⟩
  · rw [q]; exact go _ _ (ss_whiler ev)
  · rw [q]; exact go _ _ (ss_while ev (ss_return sE_bool))
end
end Mine

namespace Mine
open PySem PySem.W PySem.Calls PyProof.Rows

/-- pairs_below: an item is a node, or a pair of a node -/
structure PI where
  id : Nat
  tr : T
  at' : Option Nat
  ks : List V
  vs : List V
def PI.v (x : PI) : V := match x.at' with
  | none => .tup [.obj x.id, .int (-1)]
  | some j => .tup [.obj x.id, .int (j : Int)]
def PI.em (x : PI) : List V := match x.at' with
  | none => x.tr.prs
  | some j => [.tup [x.ks.getD j .none, x.vs.getD j .none]]
def PI.sz (x : PI) : Nat := match x.at' with
  | none => x.tr.size
  | some _ => 1
def PIs.em : List PI → List V
  | [] => []
  | x :: xs => x.em ++ PIs.em xs
def PIs.sz : List PI → Nat
  | [] => 0
  | x :: xs => x.sz + PIs.sz xs
theorem PI.sz_pos (x : PI) : 0 < x.sz := by unfold PI.sz; split; exact x.tr.size_pos; exact Nat.one_pos
theorem PIs.em_app (a b : List PI) : PIs.em (a ++ b) = PIs.em a ++ PIs.em b := by
  induction a with
  | nil => rfl
  | cons x a ih => simp [PIs.em, ih]
theorem PIs.sz_app (a b : List PI) : PIs.sz (a ++ b) = PIs.sz a + PIs.sz b := by
  induction a with
  | nil => simp [PIs.sz]
  | cons x a ih => simp [PIs.sz, ih]; omega
theorem PIs.len_le (a : List PI) : a.length ≤ PIs.sz a := by
  induction a with
  | nil => exact Nat.le_refl _
  | cons t a ih => have := t.sz_pos; simp [PIs.sz]; omega
def PI.ok (st : List Inst) (x : PI) : Prop := match x.at' with
  | none => Rep st x.id x.tr ∧ x.tr.law = true
  | some j => (∃ cs, st[x.id]? = some ⟨0, [.list x.ks, .list x.vs, cs]⟩) ∧ j < x.ks.length ∧ x.vs.length = x.ks.length ∧ x.ks.length ≤ 50000
/-- the items of an inner node, top first -/
def tf (k : Nat) (ks vs : List V) (kids : List (Nat × T)) : Nat → List PI
  | 0 => [⟨(kids.getD 0 (0, .nd [] [] [])).1, (kids.getD 0 (0, .nd [] [] [])).2, none, [], []⟩]
  | j + 1 => tf k ks vs kids j ++ [⟨k, .nd [] [] [], some j, ks, vs⟩, ⟨(kids.getD (j + 1) (0, .nd [] [] [])).1, (kids.getD (j + 1) (0, .nd [] [] [])).2, none, [], []⟩]
theorem inter_snoc (t : T) (q : V) : ∀ (a : List T) (qs : List V), a.length = qs.length + 1 → Ts.inter (a ++ [t]) (qs ++ [q]) = Ts.inter a qs ++ q :: t.prs := by
  intro a
  induction a with
  | nil => intro qs h; simp at h
  | cons x a ih =>
    intro qs h
    cases qs with
    | nil =>
      have : a = [] := by cases a with
        | nil => rfl
        | cons _ _ => simp at h
      subst this
      simp [Ts.inter]
    | cons p qs =>
      simp only [List.cons_append, Ts.inter]
      rw [ih qs (by simpa using h)]
      simp
theorem zp_len {a b : List V} (h : b.length = a.length) : (zp a b).length = a.length := by
  induction a generalizing b with
  | nil => cases b <;> rfl
  | cons x a ih =>
    cases b with
    | nil => simp at h
    | cons y b => simp [zp, ih (by simpa using h)]
theorem zp_get {a b : List V} (h : b.length = a.length) {j : Nat} (hj : j < a.length) : (zp a b)[j]? = some (.tup [a.getD j .none, b.getD j .none]) := by
  induction a generalizing b j with
  | nil => simp at hj
  | cons x a ih =>
    cases b with
    | nil => simp at h
    | cons y b =>
      cases j with
      | zero => rfl
      | succ j =>
        have := ih (b := b) (j := j) (by simpa using h) (by simpa using hj)
        simpa [zp] using this
theorem tf_em {k : Nat} {ks vs : List V} {kids : List (Nat × T)} (hv : vs.length = ks.length) (hc : kids.length = ks.length + 1) : ∀ j, j < kids.length → PIs.em (tf k ks vs kids j) = Ts.inter ((kids.map (·.2)).take (j + 1)) ((zp ks vs).take j) := by
  intro j
  induction j with
  | zero =>
    intro hj
    cases kids with
    | nil => simp at hj
    | cons x kids => simp [tf, PIs.em, PI.em, Ts.inter]
  | succ j ih =>
    intro hj
    rw [tf, PIs.em_app, ih (by omega)]
    have hz := zp_len hv
    have e1 : (kids.map (·.2)).take (j + 1 + 1) = (kids.map (·.2)).take (j + 1) ++ [kids[j + 1].2] := by
      rw [List.take_succ_eq_append_getElem (by simpa using hj)]; simp
    have e2 : (zp ks vs).take (j + 1) = (zp ks vs).take j ++ [.tup [ks.getD j .none, vs.getD j .none]] := by
      rw [List.take_add_one, zp_get hv (by omega)]; rfl
    rw [e1, e2, inter_snoc _ _ _ _ (by simp; omega)]
    simp [PIs.em, PI.em, List.getD_eq_getElem?_getD, List.getElem?_eq_getElem hj]
theorem tf_sz {k : Nat} {ks vs : List V} {kids : List (Nat × T)} : ∀ j, j < kids.length → PIs.sz (tf k ks vs kids j) = Ts.size ((kids.map (·.2)).take (j + 1)) + j := by
  intro j
  induction j with
  | zero =>
    intro hj
    cases kids with
    | nil => simp at hj
    | cons x kids => simp [tf, PIs.sz, PI.sz, Ts.size]
  | succ j ih =>
    intro hj
    have e1 : (kids.map (·.2)).take (j + 1 + 1) = (kids.map (·.2)).take (j + 1) ++ [kids[j + 1].2] := by
      rw [List.take_succ_eq_append_getElem (by simpa using hj)]; simp
    rw [tf, PIs.sz_app, ih (by omega), e1, Ts.size_app]
    simp [PIs.sz, PI.sz, Ts.size, List.getD_eq_getElem?_getD, List.getElem?_eq_getElem hj]
    omega
theorem tf_ok {st : List Inst} {k : Nat} {ks vs : List V} {kids : List (Nat × T)} (hi : st[k]? = some ⟨0, [.list ks, .list vs, .list (kids.map fun x => .obj x.1)]⟩) (hv : vs.length = ks.length) (hc : kids.length = ks.length + 1) (hz : ks.length ≤ 50000) (hk : ∀ x ∈ kids, Rep st x.1 x.2 ∧ x.2.law = true) : ∀ j, j < kids.length → ∀ x ∈ tf k ks vs kids j, x.ok st := by
  have kid : ∀ i, i < kids.length → PI.ok st ⟨(kids.getD i (0, .nd [] [] [])).1, (kids.getD i (0, .nd [] [] [])).2, none, [], []⟩ := fun i h => by
    rw [List.getD_eq_getElem?_getD, List.getElem?_eq_getElem h]
    exact hk _ (List.getElem_mem h)
  intro j
  induction j with
  | zero =>
    intro hj x hx
    cases hx with
    | head => exact kid 0 hj
    | tail _ q => cases q
  | succ j ih =>
    intro hj x hx
    rcases List.mem_append.mp hx with hx | hx
    · exact ih (by omega) x hx
    · cases hx with
      | head => exact ⟨⟨_, hi⟩, by show j < ks.length; omega, hv, hz⟩
      | tail _ q =>
        cases q with
        | head => exact kid (j + 1) hj
        | tail _ q => cases q
section
variable {c : Cn} {nm : Nm} {n : Nat} {loc loc₁ loc₂ : List LV} {st st₁ st₂ : List Inst} {fl : Fl}
noncomputable abbrev innerB : S := sAt (sAt (sAt (sAt b17 2).bd 3).el 0).el 0
noncomputable abbrev leafB : S := sAt (sAt (sAt (sAt b17 2).bd 3).el 0).bd 0
/-- the pushes of an inner node -/
theorem push_loop (P : PgOk c pg2) {me nd : V} {out : List V} {k : Nat} {ks vs : List V} {kids : List (Nat × T)} {l4 l6 : LV} (hi : st[k]? = some ⟨0, [.list ks, .list vs, .list (kids.map fun x => .obj x.1)]⟩) (hz : kids.length ≤ 50000) : ∀ (j : Nat) (S : List V) (l7 : LV), j < kids.length → S.length + 2 * j + 2 ≤ 1000000 →
    ∃ l7', FEv c nm17 n 7 innerB.bd (rng (j : Int) (-1) (j + 1)) [.v me, .v nd, .own out, .own S, l4, .v (.obj k), l6, l7] st .next [.v me, .v nd, .own out, .own (S ++ ((tf k ks vs kids j).map PI.v).reverse), l4, .v (.obj k), l6, l7'] st := by
  have kid : ∀ j S, j < kids.length → SE c nm17 n (.tup [(.idx (.attr (.loc 5 "here" ⟨101, 38, 101, 42⟩) 2 "children" ⟨101, 38, 101, 51⟩) (.loc 7 "j" ⟨101, 52, 101, 53⟩) ⟨101, 38, 101, 54⟩), (.neg 1 ⟨101, 57, 101, 58⟩ ⟨101, 56, 101, 58⟩)] 0 ⟨101, 37, 101, 59⟩) [.v me, .v nd, .own out, .own S, l4, .v (.obj k), l6, .v (.int (j : Int))] st (PI.v ⟨(kids.getD j (0, .nd [] [] [])).1, (kids.getD j (0, .nd [] [] [])).2, none, [], []⟩) st := by
    intro j S hj
    refine sE_tup (sEs_cons (v := .obj (kids.getD j (0, .nd [] [] [])).1) (sE_idx (k := j) (aKids P (sE_loc rfl rfl (by decide +kernel)) hi rfl) (sE_loc rfl rfl (by decide +kernel)) rfl ?_ (by simp; omega)) (sEs_cons sE_neg sEs_nil)) (by first | decide | (simp; done))
    rw [List.getElem?_map, List.getD_eq_getElem?_getD, List.getElem?_eq_getElem hj]; rfl
  have c1 : ∀ j S, j < kids.length → SC c nm17 n (sAt innerB.bd 0).cd [.v me, .v nd, .own out, .own S, l4, .v (.obj k), l6, .v (.int (j : Int))] st true st := fun j S hj => by
    refine sc_eq (sC_cmp (sE_loc rfl rfl (by decide +kernel)) (eLen P (by decide +kernel) (aKids P (sE_loc rfl rfl (by decide +kernel)) hi rfl) (by simp; omega)) (cmp_lt rfl rfl)) ?_
    rw [List.length_map]; exact decide_eq_true (by omega)
  have c2 : ∀ (j : Nat) S, SC c nm17 n (sAt innerB.bd 1).cd [.v me, .v nd, .own out, .own S, l4, .v (.obj k), l6, .v (.int (j : Int))] st (decide ((0 : Int) < (j : Int))) st := fun j S => sC_cmp (sE_loc rfl rfl (by decide +kernel)) sE_int (cmp_gt rfl rfl)
  intro j
  induction j with
  | zero =>
    intro S l7 hj hS
    refine ⟨.v (.int 0), ?_⟩
    have e : rng ((0 : Nat) : Int) (-1) (0 + 1) = [.int 0] := rfl
    rw [e]
    refine .cons ?_ .nil
    refine ss_if_t (c1 0 S hj) (ss_app (st₁ := st) rfl rfl (by decide +kernel) (kid 0 S hj) rfl (by omega) ss_nil) ?_
    exact ss_if_f (c2 0 _) ss_nil ss_nil
  | succ j ih =>
    intro S l7 hj hS
    obtain ⟨l7', ev⟩ := ih (S ++ [PI.v ⟨(kids.getD (j + 1) (0, .nd [] [] [])).1, (kids.getD (j + 1) (0, .nd [] [] [])).2, none, [], []⟩] ++ [PI.v ⟨k, .nd [] [] [], some j, ks, vs⟩]) (.v (.int ((j + 1 : Nat) : Int))) (by omega) (by simp; omega)
    refine ⟨l7', ?_⟩
    have e : rng ((j + 1 : Nat) : Int) (-1) (j + 1 + 1) = .int ((j + 1 : Nat) : Int) :: rng (j : Int) (-1) (j + 1) := by
      unfold rng
      rw [List.range_succ_eq_map, List.map_cons, List.map_map]
      congr 1
      apply List.map_congr_left
      intro i _
      show V.int _ = V.int _
      congr 1
      show ((j + 1 : Nat) : Int) + ((i + 1 : Nat) : Int) * -1 = (j : Int) + (i : Int) * -1
      omega
    rw [e]
    have e2 : S ++ ((tf k ks vs kids (j + 1)).map PI.v).reverse = S ++ [PI.v ⟨(kids.getD (j + 1) (0, .nd [] [] [])).1, (kids.getD (j + 1) (0, .nd [] [] [])).2, none, [], []⟩] ++ [PI.v ⟨k, .nd [] [] [], some j, ks, vs⟩] ++ ((tf k ks vs kids j).map PI.v).reverse := by
      rw [tf]; simp
    rw [e2]
    refine .cons ?_ ev
    refine ss_if_t (c1 (j + 1) S hj) (ss_app (st₁ := st) rfl rfl (by decide +kernel) (kid (j + 1) S hj) rfl (by omega) ss_nil) ?_
    refine ss_if_t (sc_eq (c2 (j + 1) _) (decide_eq_true (by omega))) (ss_app (st₁ := st) (v := PI.v ⟨k, .nd [] [] [], some j, ks, vs⟩) rfl rfl (by decide +kernel) ?_ rfl (by simp; omega) ss_nil) ss_nil
    refine sE_tup (sEs_cons (sE_loc rfl rfl (by decide +kernel)) (sEs_cons (v := .int (j : Int)) (se_eq (sE_bin (sE_loc rfl rfl (by decide +kernel)) sE_int (bin_sub rfl rfl)) ?_) sEs_nil)) (by first | decide | (simp; done))
    congr 1; omega
theorem pairs_loop (P : PgOk c pg2) {me nd : V} : ∀ (N : Nat) (its : List PI) (out : List V) (l4 l5 l6 l7 : LV), PIs.sz its ≤ N → N ≤ 50000 ∧ out.length + PIs.sz its ≤ 60000 → (∀ x ∈ its, x.ok st) →
    ∃ k l4' l5' l6' l7', WEv c nm17 (n + 1) (sAt b17 2).cd (sAt b17 2).bd k [.v me, .v nd, .own out, .own ((its.map PI.v).reverse), l4, l5, l6, l7] st .next [.v me, .v nd, .own (out ++ PIs.em its), .own [], l4', l5', l6', l7'] st := by
  have bt : BtOk c nm17 "len" (.builtin "len") := btLen P (by decide +kernel)
  intro N
  induction N with
  | zero =>
    intro its out l4 l5 l6 l7 h1 h2 hr
    cases its with
    | nil => exact ⟨0, l4, l5, l6, l7, by rw [PIs.em, List.append_nil]; exact .stop (sC_more_f bt rfl rfl (by decide +kernel))⟩
    | cons x its => have := x.sz_pos; simp [PIs.sz] at h1; omega
  | succ N ih =>
    intro its out l4 l5 l6 l7 h1 h2 hr
    cases its with
    | nil => exact ⟨0, l4, l5, l6, l7, by rw [PIs.em, List.append_nil]; exact .stop (sC_more_f bt rfl rfl (by decide +kernel))⟩
    | cons x its =>
      obtain ⟨k, tr, at', kk, vv⟩ := x
      have e1 : ((⟨k, tr, at', kk, vv⟩ :: its : List PI).map PI.v).reverse = (its.map PI.v).reverse ++ [PI.v ⟨k, tr, at', kk, vv⟩] := by simp
      have l1 := PIs.len_le its
      have hsz := PI.sz_pos ⟨k, tr, at', kk, vv⟩
      have h1' : PI.sz ⟨k, tr, at', kk, vv⟩ + PIs.sz its ≤ N + 1 := h1
      have h2a := h2.1
      have h2b : out.length + (PI.sz ⟨k, tr, at', kk, vv⟩ + PIs.sz its) ≤ 60000 := h2.2
      have more := sC_more_t (c := c) (nm := nm17) (n := n + 1) (st := st) (loc := [.v me, .v nd, .own out, .own ((its.map PI.v).reverse ++ [PI.v ⟨k, tr, at', kk, vv⟩]), l4, l5, l6, l7]) (i := 3) (x := "stack") (L := "len") (a1 := ⟨89, 14, 89, 17⟩) (a2 := ⟨89, 18, 89, 23⟩) (a3 := ⟨89, 14, 89, 24⟩) (a4 := ⟨89, 27, 89, 28⟩) (a5 := ⟨89, 14, 89, 28⟩) bt rfl rfl (by decide +kernel) (by simp; omega)
      have hok := hr _ (.head _)
      rw [e1]
      cases at' with
      | some j =>
        obtain ⟨⟨cs, hget⟩, hj, hv, hz⟩ := hok
        replace hget : st[k]? = some ⟨0, [.list kk, .list vv, cs]⟩ := hget
        replace hj : j < kk.length := hj
        replace hv : vv.length = kk.length := hv
        replace hz : kk.length ≤ 50000 := hz
        obtain ⟨k', q4, q5, q6, q7, ev⟩ := ih its (out ++ [.tup [kk.getD j .none, vv.getD j .none]]) (.v (.tup [.obj k, .int (j : Int)])) (.v (.obj k)) l6 l7 (by omega) ⟨by omega, by simp; omega⟩ fun x hx => hr x (.tail _ hx)
        refine ⟨k' + 1, q4, q5, q6, q7, .turn more (loc₁ := [.v me, .v nd, .own (out ++ [.tup [kk.getD j .none, vv.getD j .none]]), .own (its.map PI.v).reverse, .v (.tup [.obj k, .int (j : Int)]), .v (.obj k), l6, l7]) (st₂ := st) ?_ ?_⟩
        · refine ss_pop (v := .tup [.obj k, .int (j : Int)]) bt rfl rfl (by first | decide | (simp; done)) rfl (by decide +kernel) (by simp; omega) ?_
          refine ss_assign (st₁ := st) (v := .obj k) rfl (sE_idxT (k := 0) (sE_loc rfl rfl (by decide +kernel)) sE_int rfl rfl (by first | decide | (simp; done))) rfl ?_
          refine ss_if_t (sc_eq (sC_cmp (sE_idxT (k := 1) (sE_loc rfl rfl (by decide +kernel)) sE_int rfl rfl (by first | decide | (simp; done))) sE_int (cmp_ge rfl rfl)) (decide_eq_true (by omega))) (ss_app (st₁ := st) (v := .tup [kk.getD j .none, vv.getD j .none]) rfl rfl (by decide +kernel) ?_ rfl (by omega) ss_nil) ss_nil
          refine sE_tup (sEs_cons (sE_idx (k := j) (aKeys P (sE_loc rfl rfl (by decide +kernel)) hget rfl) (sE_idxT (k := 1) (sE_loc rfl rfl (by decide +kernel)) sE_int rfl rfl (by first | decide | (simp; done))) rfl ?_ (by omega)) (sEs_cons (sE_idx (k := j) (aVals P (sE_loc rfl rfl (by decide +kernel)) hget rfl) (sE_idxT (k := 1) (sE_loc rfl rfl (by decide +kernel)) sE_int rfl rfl (by first | decide | (simp; done))) rfl ?_ (by omega)) sEs_nil)) (by first | decide | (simp; done))
          · rw [List.getD_eq_getElem?_getD, List.getElem?_eq_getElem hj]; rfl
          · rw [List.getD_eq_getElem?_getD, List.getElem?_eq_getElem (by omega)]; rfl
        · have e3 : out ++ PIs.em (⟨k, tr, some j, kk, vv⟩ :: its) = out ++ [.tup [kk.getD j .none, vv.getD j .none]] ++ PIs.em its := by simp [PIs.em, PI.em]
          rw [e3]; exact ev
      | none =>
        obtain ⟨hrep, hlaw⟩ := hok
        obtain ⟨ks, vs, kids, hget, hk, he⟩ := Rep.inv hrep
        replace he : tr = .nd ks vs (kids.map (·.2)) := he
        subst he
        replace hget : st[k]? = some ⟨0, [.list ks, .list vs, .list (kids.map fun x => .obj x.1)]⟩ := hget
        replace hlaw : (T.nd ks vs (kids.map (·.2))).law = true := hlaw
        rw [T.law, Bool.and_eq_true, Bool.and_eq_true, List.length_map] at hlaw
        obtain ⟨⟨hv0, hc0⟩, hll⟩ := hlaw
        have hv : vs.length = ks.length := Nat.eq_of_beq_eq_true hv0
        have hs2 : out.length + (1 + ks.length + vs.length + Ts.size (kids.map (·.2)) + PIs.sz its) ≤ 60000 := by
          have : PI.sz ⟨k, .nd ks vs (kids.map (·.2)), none, kk, vv⟩ = 1 + ks.length + vs.length + Ts.size (kids.map (·.2)) := by simp [PI.sz, T.size]
          omega
        have hs : 1 + ks.length + vs.length + Ts.size (kids.map (·.2)) + PIs.sz its ≤ N + 1 := by
          have : PI.sz ⟨k, .nd ks vs (kids.map (·.2)), none, kk, vv⟩ = 1 + ks.length + vs.length + Ts.size (kids.map (·.2)) := by simp [PI.sz, T.size]
          omega
        have l2 := Ts.len_le (kids.map (·.2))
        rw [List.length_map] at l2
        have hlf := cLeaf (n := n) (nm := nm17) (loc := [.v me, .v nd, .own out, .own (its.map PI.v).reverse, .v (.tup [.obj k, .int (-1)]), .v (.obj k), l6, l7]) P (o := .loc 5 "here" ⟨95, 17, 95, 21⟩) (q := ⟨95, 17, 95, 29⟩) (p := ⟨95, 17, 95, 31⟩) (sE_loc rfl rfl (by decide +kernel)) rfl hget (by simp; omega) rfl
        have step : ∀ loc', SS c nm17 (n + 1) ((sAt (sAt b17 2).bd 3).el) [.v me, .v nd, .own out, .own (its.map PI.v).reverse, .v (.tup [.obj k, .int (-1)]), .v (.obj k), l6, l7] st .next loc' st → SS c nm17 (n + 1) (sAt b17 2).bd [.v me, .v nd, .own out, .own ((its.map PI.v).reverse ++ [.tup [.obj k, .int (-1)]]), l4, l5, l6, l7] st .next loc' st := by
          intro loc' hh
          refine ss_pop (v := .tup [.obj k, .int (-1)]) bt rfl rfl (by first | decide | (simp; done)) rfl (by decide +kernel) (by simp; omega) ?_
          refine ss_assign (st₁ := st) (v := .obj k) rfl (sE_idxT (k := 0) (sE_loc rfl rfl (by decide +kernel)) sE_int rfl rfl (by first | decide | (simp; done))) rfl ?_
          exact ss_if_f (sc_eq (sC_cmp (sE_idxT (k := 1) (sE_loc rfl rfl (by decide +kernel)) sE_int rfl rfl (by first | decide | (simp; done))) sE_int (cmp_ge rfl rfl)) (by first | decide | (simp; done))) hh ss_nil
        cases kids with
        | nil =>
          obtain ⟨m6, fe⟩ := fe_push (c := c) (nm := nm17) (n := n + 1) (st := st) (i := 2) (j := 6) (x := "out") (e := .tup [(.idx (.attr (.loc 5 "here" ⟨97, 32, 97, 36⟩) 0 "key_row" ⟨97, 32, 97, 44⟩) (.loc 6 "i" ⟨97, 45, 97, 46⟩) ⟨97, 32, 97, 47⟩), (.idx (.attr (.loc 5 "here" ⟨97, 49, 97, 53⟩) 1 "value_row" ⟨97, 49, 97, 63⟩) (.loc 6 "i" ⟨97, 64, 97, 65⟩) ⟨97, 49, 97, 66⟩)] 0 ⟨97, 31, 97, 67⟩) (a1 := ⟨97, 20, 97, 23⟩) (a2 := ⟨97, 20, 97, 30⟩) (a3 := ⟨97, 20, 97, 68⟩) (a4 := ⟨97, 20, 97, 68⟩) (fun y => match y with | .int j => (zp ks vs).getD j.toNat .none | v => v) rfl (by first | decide | (simp; done)) (by decide +kernel) rfl
            (rng 0 1 ks.length) out [.v me, .v nd, .own out, .own (its.map PI.v).reverse, .v (.tup [.obj k, .int (-1)]), .v (.obj k), l6, l7] rfl (by simp) (by simp [rng_len]; omega) (by
              intro y hy S'
              rw [rng0] at hy
              obtain ⟨i, hi', rfl⟩ := List.mem_map.mp hy
              have hi2 : i < ks.length := by simpa using hi'
              have e0 : ((0 + i : Nat) : Int) = (i : Int) := by omega
              rw [e0]
              show SE c nm17 (n + 1) _ _ st ((zp ks vs).getD ((i : Int)).toNat .none) st
              rw [Int.toNat_natCast, List.getD_eq_getElem?_getD, zp_get hv hi2]
              refine sE_tup (sEs_cons (sE_idx (k := i) (aKeys P (sE_loc rfl rfl (by decide +kernel)) hget rfl) (sE_loc rfl rfl (by decide +kernel)) rfl ?_ (by omega)) (sEs_cons (sE_idx (k := i) (aVals P (sE_loc rfl rfl (by decide +kernel)) hget rfl) (sE_loc rfl rfl (by decide +kernel)) rfl ?_ (by omega)) sEs_nil)) (by first | decide | (simp; done))
              · rw [List.getD_eq_getElem?_getD, List.getElem?_eq_getElem hi2]; rfl
              · rw [List.getD_eq_getElem?_getD, List.getElem?_eq_getElem (by omega)]; rfl)
          have hmap : ((rng 0 1 ks.length).map fun y => match y with | .int j => (zp ks vs).getD j.toNat .none | v => v) = zp ks vs := by
            rw [rng0, List.map_map]
            apply List.ext_getElem
            · simp [zp_len hv]
            · intro i a1 a2
              simp at a1
              simp only [List.getElem_map, List.getElem_range, Function.comp]
              show (zp ks vs).getD (((0 + i : Nat) : Int)).toNat .none = _
              rw [Int.toNat_natCast, Nat.zero_add, List.getD_eq_getElem?_getD, List.getElem?_eq_getElem a2]; rfl
          rw [hmap] at fe
          obtain ⟨k', q4, q5, q6, q7, ev⟩ := ih its (out ++ zp ks vs) (.v (.tup [.obj k, .int (-1)])) (.v (.obj k)) m6 l7 (by omega) ⟨by omega, by rw [List.length_append, zp_len hv]; omega⟩ fun x hx => hr x (.tail _ hx)
          refine ⟨k' + 1, q4, q5, q6, q7, .turn more (step _ (ss_if_t hlf (ss_for (st₁ := st) (st₂ := st) rfl (si_range1 (y := .int (ks.length : Int)) (btRange P (by decide +kernel)) (eLen P (by decide +kernel) (aKeys P (sE_loc rfl rfl (by decide +kernel)) hget rfl) (by omega)) rfl (by omega)) fe ss_nil) ss_nil)) ?_⟩
          have e3 : out ++ PIs.em (⟨k, T.nd ks vs (([] : List (Nat × T)).map (·.2)), none, kk, vv⟩ :: its) = out ++ zp ks vs ++ PIs.em its := by simp [PIs.em, PI.em, T.prs, Ts.inter]
          rw [e3]; exact ev
        | cons y kids' =>
          generalize hkids : y :: kids' = kids at *
          have hpos : 0 < kids.length := by rw [← hkids]; simp
          have hc : kids.length = ks.length + 1 := by
            rw [Bool.or_eq_true] at hc0
            rcases hc0 with q | q
            · have := Nat.eq_of_beq_eq_true q; omega
            · exact Nat.eq_of_beq_eq_true q
          obtain ⟨m7, fe⟩ := push_loop (st := st) (n := n + 1) P (me := me) (nd := nd) (out := out) (vs := vs) (l4 := .v (.tup [.obj k, .int (-1)])) (l6 := l6) hget (by omega) (kids.length - 1) (its.map PI.v).reverse l7 (by omega) (by simp; omega)
          obtain ⟨k', q4, q5, q6, q7, ev⟩ := ih (tf k ks vs kids (kids.length - 1) ++ its) out (.v (.tup [.obj k, .int (-1)])) (.v (.obj k)) l6 m7 (by
            rw [PIs.sz_app, tf_sz _ (by omega), show kids.length - 1 + 1 = (kids.map (·.2)).length by simp; omega, List.take_length]; omega) ⟨by omega, by rw [PIs.sz_app, tf_sz _ (by omega), show kids.length - 1 + 1 = (kids.map (·.2)).length by simp; omega, List.take_length]; omega⟩ (by
            intro x hx
            rcases List.mem_append.mp hx with hx | hx
            · exact tf_ok hget hv hc (by omega) (fun x hx => ⟨hk x hx, Ts.law_mem hll _ (List.mem_map.mpr ⟨_, hx, rfl⟩)⟩) (kids.length - 1) (by omega) x hx
            · exact hr x (.tail _ hx))
          have hlf' : SC c nm17 (n + 1) (.e (.meth (.loc 5 "here" ⟨95, 17, 95, 21⟩) 0 "is_leaf" ⟨95, 17, 95, 29⟩ [] ⟨95, 17, 95, 31⟩)) [.v me, .v nd, .own out, .own (its.map PI.v).reverse, .v (.tup [.obj k, .int (-1)]), .v (.obj k), l6, l7] st false st := by
            rw [← hkids] at hlf; exact hlf
          have hrng : rng ((kids.length - 1 : Nat) : Int) (-1) (kids.length - 1 + 1) = rng ((kids.length : Int) - 1) (-1) kids.length := by
            have a1 : ((kids.length - 1 : Nat) : Int) = (kids.length : Int) - 1 := by omega
            have a2 : kids.length - 1 + 1 = kids.length := by omega
            rw [a1, a2]
          rw [hrng] at fe
          refine ⟨k' + 1, q4, q5, q6, q7, .turn more (loc₁ := [.v me, .v nd, .own out, .own ((tf k ks vs kids (kids.length - 1) ++ its).map PI.v).reverse, .v (.tup [.obj k, .int (-1)]), .v (.obj k), l6, m7]) (st₂ := st) (step _ (ss_if_f hlf' (ss_for (st₁ := st) (st₂ := st) rfl (si_range3 (st₁ := st) (st₂ := st) (y₁ := .int ((kids.length : Int) - 1)) (a := (kids.length : Int) - 1) (b := -1) (d := -1) (k := kids.length) (btRange P (by decide +kernel)) ?_ sE_neg sE_neg rfl rfl rfl (by first | decide | (simp; done)) (by omega) (by first | decide | (simp; done)) (by first | decide | (simp; done)) (rs_down _) (by omega)) fe ?_) ss_nil)) ?_⟩
          · refine se_eq (sE_bin (x := .int (kids.length : Int)) (se_eq (sE_bltF (btMax P (by decide +kernel)) (sEs_cons (eLen P (by decide +kernel) (aKids P (sE_loc rfl rfl (by decide +kernel)) hget rfl) (by simp; omega)) (sEs_cons (sE_bin (eLen P (by decide +kernel) (aKeys P (sE_loc rfl rfl (by decide +kernel)) hget rfl) (by omega)) sE_int (bin_add rfl rfl)) sEs_nil)) (blt_max rfl rfl)) ?_) sE_int (bin_sub rfl rfl)) rfl
            congr 1
            rw [List.length_map, hc]
            split <;> omega
          · have e2 : ((tf k ks vs kids (kids.length - 1) ++ its).map PI.v).reverse = (its.map PI.v).reverse ++ ((tf k ks vs kids (kids.length - 1)).map PI.v).reverse := by simp
            rw [e2]
            exact ss_nil
          · have e3 : out ++ PIs.em (⟨k, T.nd ks vs (kids.map (·.2)), none, kk, vv⟩ :: its) = out ++ PIs.em (tf k ks vs kids (kids.length - 1) ++ its) := by
              rw [PIs.em_app, tf_em hv hc _ (by omega), show kids.length - 1 + 1 = (kids.map (·.2)).length by simp; omega, List.take_length, show kids.length - 1 = (zp ks vs).length by rw [zp_len hv]; omega, List.take_length]
              simp [PIs.em, PI.em, T.prs]
            rw [e3]; exact ev
theorem pairsB_code (P : PgOk c pg2) (n : Nat) {me : V} {k : Nat} {t : T} (h : Rep st k t) (hl : t.law = true) (hz : t.size ≤ 50000) : SCode c (n + 2) (addr2 17) [me, .obj k] st (.list t.prs) st := by
  obtain ⟨w, l4, l5, l6, l7, ev⟩ := pairs_loop (st := st) (n := n) P (me := me) (nd := .obj k) t.size [⟨k, t, none, [], []⟩] [] .unset .unset .unset .unset (by simp [PIs.sz, PI.sz]) ⟨hz, by simp [PIs.sz, PI.sz]; omega⟩ (by intro x hx; cases hx with | head => exact ⟨h, hl⟩ | tail _ q => cases q)
  have e : [] ++ PIs.em [⟨k, t, none, [], []⟩] = t.prs := by simp [PIs.em, PI.em]
  rw [e] at ev
  refine fn_code (loc := [.v me, .v (.obj k), .v (.list t.prs), .own [], l4, l5, l6, l7]) P (k := 17) (nm := nm17) (body := b17) (pad := [.unset, .unset, .unset, .unset, .unset, .unset]) (np := 2) (fl := .ret (.list t.prs)) rfl rfl ?_ (.ret _)
  refine ss_own (st₁ := st) (vs := []) rfl sEs_nil (by simp) ?_
  refine ss_own (st₁ := st) (vs := [.tup [.obj k, .int (-1)]]) rfl (sEs_cons (sE_tup (sEs_cons (sE_loc rfl rfl (by decide +kernel)) (sEs_cons sE_neg sEs_nil)) (by first | decide | (simp; done))) sEs_nil) (by simp) ?_
  refine ss_while ev ?_
  refine ss_freeze (x := "out") rfl rfl ?_
  exact ss_return (sE_loc rfl rfl (by decide +kernel))
end
end Mine

namespace Mine
open PySem PySem.W PySem.Calls PyProof.Rows
theorem slotGo_le (lt : V → Bool) (ks : List V) : ∀ f lo hi, lo ≤ hi → slotGo lt ks f lo hi ≤ hi := by
  intro f
  induction f with
  | zero => intro lo hi h; exact h
  | succ f ih =>
    intro lo hi h
    rw [slotGo]
    cases h1 : Nat.ble hi lo with
    | true => exact h
    | false =>
      have hlt : lo < hi := by
        rcases Nat.lt_or_ge lo hi with q | q
        · exact q
        · rw [Nat.ble_eq_true_of_le q] at h1; cases h1
      cases h2 : lt (ks.getD ((lo + hi) / 2) .none) with
      | true => exact ih _ _ (by omega)
      | false => exact Nat.le_trans (ih _ _ (by omega)) (by omega)
section
variable {c : Cn} {nm : Nm} {n : Nat} {loc loc₁ loc₂ : List LV} {st st₁ st₂ : List Inst} {fl : Fl}
/-- slot -/
theorem slot_loop (P : PgOk c pg2) {k : Nat} {x : V} {ks : List V} {vs cs : V} {lt : V → Bool} (hi : st[k]? = some ⟨0, [.list ks, vs, cs]⟩) (hz : ks.length ≤ 50000) (hlt : ∀ v ∈ ks, CmpOk c n .lt v x (lt v)) : ∀ (f lo hh : Nat) (l4 : LV), hh - lo ≤ f → hh ≤ ks.length →
    ∃ w l3' l4', WEv c nm12 n (sAt b12 2).cd (sAt b12 2).bd w [.v (.obj k), .v x, .v (.int (lo : Int)), .v (.int (hh : Int)), l4] st .next [.v (.obj k), .v x, .v (.int ((slotGo lt ks f lo hh : Nat) : Int)), l3', l4'] st := by
  have cc : ∀ (lo hh : Nat) l4, SC c nm12 n (sAt b12 2).cd [.v (.obj k), .v x, .v (.int (lo : Int)), .v (.int (hh : Int)), l4] st (decide ((lo : Int) < (hh : Int))) st := fun _ _ _ => sC_cmp (sE_loc rfl rfl (by decide +kernel)) (sE_loc rfl rfl (by decide +kernel)) (cmp_lt rfl rfl)
  intro f
  induction f with
  | zero =>
    intro lo hh l4 h1 h2
    exact ⟨0, _, _, .stop (sc_eq (cc lo hh l4) (decide_eq_false (by omega)))⟩
  | succ f ih =>
    intro lo hh l4 h1 h2
    rw [slotGo]
    by_cases hlh : lo < hh
    · have hb : Nat.ble hh lo = false := by
        cases q : Nat.ble hh lo with
        | false => rfl
        | true => have := Nat.le_of_ble_eq_true q; omega
      rw [hb, cond_false]
      generalize hm : (lo + hh) / 2 = mid
      have hmk : mid < ks.length := by omega
      have hg : ks.getD mid .none = ks[mid] := by rw [List.getD_eq_getElem?_getD, List.getElem?_eq_getElem hmk]; rfl
      rw [hg]
      have hmid : SE c nm12 n (.bin .fdiv (.bin .add (.loc 2 "lo" ⟨19, 19, 19, 21⟩) (.loc 3 "hi" ⟨19, 24, 19, 26⟩) ⟨19, 19, 19, 26⟩) (.int 2 ⟨19, 31, 19, 32⟩) ⟨19, 18, 19, 32⟩) [.v (.obj k), .v x, .v (.int (lo : Int)), .v (.int (hh : Int)), l4] st (.int (mid : Int)) st := by
        refine se_eq (sE_bin (sE_bin (sE_loc rfl rfl (by decide +kernel)) (sE_loc rfl rfl (by decide +kernel)) (bin_add rfl rfl)) sE_int (bin_fdiv2 rfl (by omega))) ?_
        congr 1
        rw [← hm]
        show ((lo : Int) + (hh : Int)).fdiv 2 = (((lo + hh) / 2 : Nat) : Int)
        rw [Int.fdiv_eq_ediv_of_nonneg _ (by first | decide | (simp; done))]
        omega
      have ci : SC c nm12 n (sAt (sAt b12 2).bd 1).cd [.v (.obj k), .v x, .v (.int (lo : Int)), .v (.int (hh : Int)), .v (.int (mid : Int))] st (lt ks[mid]) st :=
        sC_cmp (sE_idx (k := mid) (aKeys P (sE_loc rfl rfl (by decide +kernel)) hi rfl) (sE_loc rfl rfl (by decide +kernel)) rfl (List.getElem?_eq_getElem hmk) (by omega)) (sE_loc rfl rfl (by decide +kernel)) (hlt _ (List.getElem_mem hmk))
      cases hq : lt ks[mid] with
      | true =>
        rw [hq] at ci
        rw [cond_true]
        obtain ⟨w, l3', l4', ev⟩ := ih (mid + 1) hh (.v (.int (mid : Int))) (by omega) h2
        refine ⟨w + 1, l3', l4', .turn (sc_eq (cc lo hh l4) (decide_eq_true (by omega))) (ss_assign (st₁ := st) (v := .int (mid : Int)) rfl hmid rfl (ss_if_t ci (ss_assign (st₁ := st) (v := .int ((mid + 1 : Nat) : Int)) rfl (eAdd (sE_loc rfl rfl (by decide +kernel)) (eNat rfl)) rfl ss_nil) ss_nil)) ev⟩
      | false =>
        rw [hq] at ci
        rw [cond_false]
        obtain ⟨w, l3', l4', ev⟩ := ih lo mid (.v (.int (mid : Int))) (by omega) (by omega)
        exact ⟨w + 1, l3', l4', .turn (sc_eq (cc lo hh l4) (decide_eq_true (by omega))) (ss_assign (st₁ := st) (v := .int (mid : Int)) rfl hmid rfl (ss_if_f ci (ss_assign (st₁ := st) (v := .int (mid : Int)) rfl (sE_loc rfl rfl (by decide +kernel)) rfl ss_nil) ss_nil)) ev⟩
    · have hb : Nat.ble hh lo = true := Nat.ble_eq_true_of_le (by omega)
      rw [hb, cond_true]
      exact ⟨0, _, _, .stop (sc_eq (cc lo hh l4) (decide_eq_false (by omega)))⟩
theorem slot_code (P : PgOk c pg2) (n : Nat) {k : Nat} {x : V} {ks : List V} {vs cs : V} {lt : V → Bool} (hi : st[k]? = some ⟨0, [.list ks, vs, cs]⟩) (hz : ks.length ≤ 50000) (hlt : ∀ v ∈ ks, CmpOk c n .lt v x (lt v)) : SCode c (n + 1) (addr2 12) [.obj k, x] st (.int (slotP lt ks : Int)) st := by
  obtain ⟨w, l3, l4, ev⟩ := slot_loop (n := n) P hi hz hlt ks.length 0 ks.length .unset (by omega) (Nat.le_refl _)
  refine fn_code (loc := [.v (.obj k), .v x, .v (.int (slotP lt ks : Int)), l3, l4]) P (k := 12) (nm := nm12) (body := b12) (pad := [.unset, .unset, .unset]) (np := 2) (fl := .ret (.int (slotP lt ks : Int))) rfl rfl ?_ (.ret _)
  refine ss_assign (st₁ := st) (v := .int 0) rfl sE_int rfl ?_
  refine ss_assign (st₁ := st) (v := .int (ks.length : Int)) rfl (eLen P (by decide +kernel) (aKeys P (sE_loc rfl rfl (by decide +kernel)) hi rfl) (by omega)) rfl ?_
  refine ss_while ev ?_
  exact ss_return (sE_loc rfl rfl (by decide +kernel))

/-- lookup -/
def lookLf (lt eq : V → Bool) (ks vs : List V) : V := bif Nat.ble (slotP lt ks + 1) ks.length && eq (ks.getD (slotP lt ks) .none) then vs.getD (slotP lt ks) .none else .none
theorem look_cond (P : PgOk c pg2) {k : Nat} {x me : V} {ks vs : List V} {cs : V} {eq : V → Bool} {s : Nat} (hi : st[k]? = some ⟨0, [.list ks, .list vs, cs]⟩) (hz : ks.length ≤ 50000) (heq : ∀ v ∈ ks, CmpOk c n .eq v x (eq v)) {p1 p2 p3 p4 p5 p6 p7 p8 p9 q1 q2 q3 q4 : Ps} :
    SC c nm15 n (.and [(.cmp .lt (.loc 3 "i" p1) (.call .len "len" p2 [(.attr (.loc 2 "node" p3) 0 "key_row" p4)] p5) p6), (.cmp .eq (.idx (.attr (.loc 2 "node" p7) 0 "key_row" p8) (.loc 3 "i" p9) q1) (.loc 1 "key" q2) q3)] q4) [.v me, .v x, .v (.obj k), .v (.int (s : Int))] st (Nat.ble (s + 1) ks.length && eq (ks.getD s .none)) st := by
  refine sc_and2 (sc_eq (sC_cmp (sE_loc rfl rfl (by decide +kernel)) (eLen P (by decide +kernel) (aKeys P (sE_loc rfl rfl (by decide +kernel)) hi rfl) (by omega)) (cmp_lt rfl rfl)) ?_) fun h => ?_
  · rw [Bool.eq_iff_iff, decide_eq_true_eq, Nat.ble_eq]; omega
  · have hs : s < ks.length := Nat.le_of_ble_eq_true h
    have hg : ks.getD s .none = ks[s] := by rw [List.getD_eq_getElem?_getD, List.getElem?_eq_getElem hs]; rfl
    rw [hg]
    exact sC_cmp (sE_idx (k := s) (aKeys P (sE_loc rfl rfl (by decide +kernel)) hi rfl) (sE_loc rfl rfl (by decide +kernel)) rfl (List.getElem?_eq_getElem hs) (by omega)) (sE_loc rfl rfl (by decide +kernel)) (heq _ (List.getElem_mem hs))
theorem look_loop (P : PgOk c pg2) {me x : V} {lt eq : V → Bool} (hlt : ∀ j m, CmpOk c m .lt (.key j) x (lt (.key j))) (heq : ∀ j m, CmpOk c m .eq (.key j) x (eq (.key j))) : ∀ (f : Nat) (tr : T) (k : Nat) (l3 : LV), Rep st k tr → tr.law = true → tr.kk = true → tr.deep f = true → tr.size ≤ 50000 →
    (∃ w loc', WEv c nm15 (n + 1) (sAt b15 1).cd (sAt b15 1).bd w [.v me, .v x, .v (.obj k), l3] st (.ret (lookP lt eq f tr)) loc' st) ∨
    (∃ w k' ks vs l3', lookP lt eq f tr = lookLf lt eq ks vs ∧ st[k']? = some ⟨0, [.list ks, .list vs, .list []]⟩ ∧ ks.length ≤ 50000 ∧ vs.length = ks.length ∧ (∀ v ∈ ks, v.isKey = true) ∧ WEv c nm15 (n + 1) (sAt b15 1).cd (sAt b15 1).bd w [.v me, .v x, .v (.obj k), l3] st .next [.v me, .v x, .v (.obj k'), l3'] st) := by
  intro f
  induction f with
  | zero => intro tr k l3 _ _ _ hd _; cases tr; cases hd
  | succ f ih =>
    intro tr k l3 hr hl hkk hd hz
    obtain ⟨ks, vs, kids, hi, hk, rfl⟩ := hr.inv
    have hs : 1 + ks.length + vs.length + Ts.size (kids.map (·.2)) ≤ 50000 := by simpa [T.size] using hz
    have l2 := Ts.len_le (kids.map (·.2))
    rw [List.length_map] at l2
    rw [T.law, Bool.and_eq_true, Bool.and_eq_true, List.length_map] at hl
    obtain ⟨⟨hv0, hc0⟩, hll⟩ := hl
    have hv : vs.length = ks.length := Nat.eq_of_beq_eq_true hv0
    rw [T.kk, Bool.and_eq_true] at hkk
    have hka : ∀ v ∈ ks, v.isKey = true := List.all_eq_true.mp hkk.1
    have hlt' : ∀ v ∈ ks, ∀ m, CmpOk c m .lt v x (lt v) := fun v hv' m => by
      have := hka v hv'
      cases v <;> first | exact hlt _ m | cases this
    have heq' : ∀ v ∈ ks, ∀ m, CmpOk c m .eq v x (eq v) := fun v hv' m => by
      have := hka v hv'
      cases v <;> first | exact heq _ m | cases this
    have hlf := cLeaf (n := n) (nm := nm15) (loc := [.v me, .v x, .v (.obj k), l3]) P (o := .loc 2 "node" ⟨41, 18, 41, 22⟩) (q := ⟨41, 18, 41, 30⟩) (p := ⟨41, 18, 41, 32⟩) (sE_loc rfl rfl (by decide +kernel)) rfl hi (by simp; omega) rfl
    have hcc : SC c nm15 (n + 1) (sAt b15 1).cd [.v me, .v x, .v (.obj k), l3] st (!(kids.map fun x => V.obj x.1).isEmpty) st := sC_not hlf
    cases kids with
    | nil => exact .inr ⟨0, k, ks, vs, l3, rfl, hi, by omega, hv, hka, .stop hcc⟩
    | cons y kids' =>
      generalize hkids : y :: kids' = kids at *
      have hpos : 0 < kids.length := by rw [← hkids]; simp
      have hc : kids.length = ks.length + 1 := by
        rw [Bool.or_eq_true] at hc0
        rcases hc0 with q | q
        · have := Nat.eq_of_beq_eq_true q; omega
        · exact Nat.eq_of_beq_eq_true q
      have hcc' : SC c nm15 (n + 1) (sAt b15 1).cd [.v me, .v x, .v (.obj k), l3] st true st := by rw [← hkids] at hcc; exact hcc
      have hsl : slotP lt ks ≤ ks.length := slotGo_le lt ks _ _ _ (Nat.zero_le _)
      have hslot : SE c nm15 (n + 1) (.meth (.loc 2 "node" ⟨42, 16, 42, 20⟩) 1 "slot" ⟨42, 16, 42, 25⟩ [(.loc 1 "key" ⟨42, 26, 42, 29⟩)] ⟨42, 16, 42, 30⟩) [.v me, .v x, .v (.obj k), l3] st (.int (slotP lt ks : Int)) st :=
        mCall P (cl := 0) (kf := 12) rfl rfl (sE_loc rfl rfl (by decide +kernel)) hi rfl (sEs_cons (sE_loc rfl rfl (by decide +kernel)) sEs_nil) (slot_code P n hi (by omega) fun v hv' => hlt' v hv' n) rfl (by first | decide | (simp; done)) rfl
      have hcond := look_cond (n := n + 1) (st := st) P (x := x) (me := me) (eq := eq) (s := slotP lt ks) hi (by omega) (fun v hv' => heq' v hv' _) (p1 := ⟨43, 15, 43, 16⟩) (p2 := ⟨43, 19, 43, 22⟩) (p3 := ⟨43, 23, 43, 27⟩) (p4 := ⟨43, 23, 43, 35⟩) (p5 := ⟨43, 19, 43, 36⟩) (p6 := ⟨43, 15, 43, 36⟩) (p7 := ⟨43, 41, 43, 45⟩) (p8 := ⟨43, 41, 43, 53⟩) (p9 := ⟨43, 54, 43, 55⟩) (q1 := ⟨43, 41, 43, 56⟩) (q2 := ⟨43, 60, 43, 63⟩) (q3 := ⟨43, 41, 43, 63⟩) (q4 := ⟨43, 15, 43, 63⟩)
      have hlk : lookP lt eq (f + 1) (.nd ks vs (kids.map (·.2))) = bif Nat.ble (slotP lt ks + 1) ks.length && eq (ks.getD (slotP lt ks) .none) then vs.getD (slotP lt ks) .none else lookP lt eq f (nthT (kids.map (·.2)) (slotP lt ks)) := by
        rw [← hkids]; rfl
      rw [hlk]
      cases hb : (Nat.ble (slotP lt ks + 1) ks.length && eq (ks.getD (slotP lt ks) .none)) with
      | true =>
        rw [hb] at hcond
        rw [cond_true]
        have hs' : slotP lt ks < ks.length := by
          rw [Bool.and_eq_true] at hb
          exact Nat.le_of_ble_eq_true hb.1
        refine .inl ⟨0, _, .ret hcc' (ss_assign (st₁ := st) (v := .int (slotP lt ks : Int)) rfl hslot rfl (ss_if_tr hcond (ss_return (sE_idx (k := slotP lt ks) (aVals P (sE_loc rfl rfl (by decide +kernel)) hi rfl) (sE_loc rfl rfl (by decide +kernel)) rfl ?_ (by omega)))))⟩
        rw [List.getD_eq_getElem?_getD, List.getElem?_eq_getElem (by omega)]; rfl
      | false =>
        rw [hb] at hcond
        rw [cond_false]
        have hsk : slotP lt ks < kids.length := by omega
        have hn : nthT (kids.map (·.2)) (slotP lt ks) = kids[slotP lt ks].2 := by
          unfold nthT
          rw [List.getD_eq_getElem?_getD, List.getElem?_map, List.getElem?_eq_getElem hsk]; rfl
        have hmem : kids[slotP lt ks] ∈ kids := List.getElem_mem hsk
        have hmem' : kids[slotP lt ks].2 ∈ kids.map (·.2) := List.mem_map.mpr ⟨_, hmem, rfl⟩
        rw [hn]
        have hszk : ∀ (l : List T) (t : T), t ∈ l → t.size ≤ Ts.size l := by
          intro l
          induction l with
          | nil => intro t h; cases h
          | cons a l ih =>
            intro t h
            rw [Ts.size]
            cases h with
            | head => omega
            | tail _ q => have := ih t q; omega
        have hrec := ih kids[slotP lt ks].2 kids[slotP lt ks].1 (.v (.int (slotP lt ks : Int))) (hk _ hmem) (Ts.law_mem hll _ hmem') (Ts.kk_mem hkk.2 _ hmem') (List.all_eq_true.mp hd _ hmem') (by have := hszk _ _ hmem'; omega)
        have hbody : SS c nm15 (n + 1) (sAt b15 1).bd [.v me, .v x, .v (.obj k), l3] st .next [.v me, .v x, .v (.obj kids[slotP lt ks].1), .v (.int (slotP lt ks : Int))] st := by
          refine ss_assign (st₁ := st) (v := .int (slotP lt ks : Int)) rfl hslot rfl (ss_if_f hcond ss_nil (ss_assign (st₁ := st) (v := .obj kids[slotP lt ks].1) rfl (sE_idx (k := slotP lt ks) (aKids P (sE_loc rfl rfl (by decide +kernel)) hi rfl) (sE_loc rfl rfl (by decide +kernel)) rfl ?_ (by simp; omega)) rfl ss_nil))
          rw [List.getElem?_map, List.getElem?_eq_getElem hsk]; rfl
        rcases hrec with ⟨w, loc', ev⟩ | ⟨w, k', ks', vs', l3', a1, a2, a3, a4, a5, ev⟩
        · exact .inl ⟨w + 1, loc', .turn hcc' hbody ev⟩
        · exact .inr ⟨w + 1, k', ks', vs', l3', a1, a2, a3, a4, a5, .turn hcc' hbody ev⟩
theorem look_code (P : PgOk c pg2) (n : Nat) {me k f : Nat} {x a b : V} {tr : T} {lt eq : V → Bool} (hm : st[me]? = some ⟨1, [a, .obj k, b]⟩) (hlt : ∀ j m, CmpOk c m .lt (.key j) x (lt (.key j))) (heq : ∀ j m, CmpOk c m .eq (.key j) x (eq (.key j))) (hr : Rep st k tr) (hl : tr.law = true) (hkk : tr.kk = true) (hd : tr.deep f = true) (hz : tr.size ≤ 50000) : SCode c (n + 2) (addr2 15) [.obj me, x] st (lookP lt eq f tr) st := by
  have go : ∀ loc', SS c nm15 (n + 1) (b15.drop 1) [.v (.obj me), .v x, .v (.obj k), .unset] st (.ret (lookP lt eq f tr)) loc' st → SCode c (n + 2) (addr2 15) [.obj me, x] st (lookP lt eq f tr) st := by
    intro loc' hh
    refine fn_code (loc := loc') P (k := 15) (nm := nm15) (body := b15) (pad := [.unset, .unset]) (np := 2) (fl := .ret (lookP lt eq f tr)) rfl rfl ?_ (.ret _)
    exact ss_assign (st₁ := st) (v := .obj k) rfl (aRoot P (sE_loc rfl rfl (by decide +kernel)) hm rfl) rfl hh
  rcases look_loop (st := st) (n := n) P (me := .obj me) hlt heq f tr k .unset hr hl hkk hd hz with ⟨w, loc', ev⟩ | ⟨w, k', ks, vs, l3', a1, hi, a3, hv, hka, ev⟩
  · exact go _ (ss_whiler ev)
  · have hlt' : ∀ v ∈ ks, ∀ m, CmpOk c m .lt v x (lt v) := fun v hv' m => by
      have := hka v hv'
      cases v <;> first | exact hlt _ m | cases this
    have heq' : ∀ v ∈ ks, ∀ m, CmpOk c m .eq v x (eq v) := fun v hv' m => by
      have := hka v hv'
      cases v <;> first | exact heq _ m | cases this
    rw [a1] at go ⊢
    have hslot : SE c nm15 (n + 1) (.meth (.loc 2 "node" ⟨46, 12, 46, 16⟩) 1 "slot" ⟨46, 12, 46, 21⟩ [(.loc 1 "key" ⟨46, 22, 46, 25⟩)] ⟨46, 12, 46, 26⟩) [.v (.obj me), .v x, .v (.obj k'), l3'] st (.int (slotP lt ks : Int)) st :=
      mCall P (cl := 0) (kf := 12) rfl rfl (sE_loc rfl rfl (by decide +kernel)) hi rfl (sEs_cons (sE_loc rfl rfl (by decide +kernel)) sEs_nil) (slot_code P n hi (by omega) fun v hv' => hlt' v hv' n) rfl (by first | decide | (simp; done)) rfl
    have hcond := look_cond (n := n + 1) (st := st) P (x := x) (me := .obj me) (eq := eq) (s := slotP lt ks) hi (by omega) (fun v hv' => heq' v hv' _) (p1 := ⟨47, 11, 47, 12⟩) (p2 := ⟨47, 15, 47, 18⟩) (p3 := ⟨47, 19, 47, 23⟩) (p4 := ⟨47, 19, 47, 31⟩) (p5 := ⟨47, 15, 47, 32⟩) (p6 := ⟨47, 11, 47, 32⟩) (p7 := ⟨47, 37, 47, 41⟩) (p8 := ⟨47, 37, 47, 49⟩) (p9 := ⟨47, 50, 47, 51⟩) (q1 := ⟨47, 37, 47, 52⟩) (q2 := ⟨47, 56, 47, 59⟩) (q3 := ⟨47, 37, 47, 59⟩) (q4 := ⟨47, 11, 47, 59⟩)
    unfold lookLf at go ⊢
    cases hb : (Nat.ble (slotP lt ks + 1) ks.length && eq (ks.getD (slotP lt ks) .none)) with
    | true =>
      rw [hb] at hcond go
      rw [cond_true] at go ⊢
      have hs' : slotP lt ks < ks.length := by
        rw [Bool.and_eq_true] at hb
        exact Nat.le_of_ble_eq_true hb.1
      refine go _ (ss_while ev (ss_assign (st₁ := st) (v := .int (slotP lt ks : Int)) rfl hslot rfl (ss_if_tr hcond (ss_return (sE_idx (k := slotP lt ks) (aVals P (sE_loc rfl rfl (by decide +kernel)) hi rfl) (sE_loc rfl rfl (by decide +kernel)) rfl ?_ (by omega))))))
      rw [List.getD_eq_getElem?_getD, List.getElem?_eq_getElem (by omega)]; rfl
    | false =>
      rw [hb] at hcond go
      rw [cond_false] at go ⊢
      exact go _ (ss_while ev (ss_assign (st₁ := st) (v := .int (slotP lt ks : Int)) rfl hslot rfl (ss_if_f hcond ss_nil (ss_return sE_none))))

/-- height -/
theorem height_loop (P : PgOk c pg2) {me : V} : ∀ (N : Nat) (tr : T) (k lv : Nat), tr.size ≤ N → N ≤ 50000 → Rep st k tr →
    ∃ w l1, WEv c nm16 (n + 1) (sAt b16 2).cd (sAt b16 2).bd w [.v me, .v (.obj k), .v (.int (lv : Int))] st .next [.v me, l1, .v (.int ((lv + tr.hgt : Nat) : Int))] st := by
  intro N
  induction N with
  | zero => intro tr k lv h; have := tr.size_pos; omega
  | succ N ih =>
    intro tr k lv h1 h2 hr
    obtain ⟨ks, vs, kids, hi, hk, rfl⟩ := hr.inv
    have hs : 1 + ks.length + vs.length + Ts.size (kids.map (·.2)) ≤ N + 1 := by simpa [T.size] using h1
    have l2 := Ts.len_le (kids.map (·.2))
    rw [List.length_map] at l2
    have hlf := cLeaf (n := n) (nm := nm16) (loc := [.v me, .v (.obj k), .v (.int (lv : Int))]) P (o := .loc 1 "node" ⟨54, 18, 54, 22⟩) (q := ⟨54, 18, 54, 30⟩) (p := ⟨54, 18, 54, 32⟩) (sE_loc rfl rfl (by decide +kernel)) rfl hi (by simp; omega) rfl
    have hcc : SC c nm16 (n + 1) (sAt b16 2).cd [.v me, .v (.obj k), .v (.int (lv : Int))] st (!(kids.map fun x => V.obj x.1).isEmpty) st := sC_not hlf
    cases kids with
    | nil => exact ⟨0, _, .stop hcc⟩
    | cons y kids =>
      obtain ⟨w, l1, ev⟩ := ih y.2 y.1 (lv + 1) (by simp [Ts.size] at hs; omega) (by omega) (hk y (.head _))
      refine ⟨w + 1, l1, .turn hcc (loc₁ := [.v me, .v (.obj y.1), .v (.int ((lv + 1 : Nat) : Int))]) (st₂ := st) ?_ ?_⟩
      · refine ss_assign (st₁ := st) (v := .obj y.1) rfl (sE_idx (k := 0) (aKids P (sE_loc rfl rfl (by decide +kernel)) hi rfl) sE_int rfl rfl (by rw [List.length_map]; omega)) rfl ?_
        exact ss_assign (st₁ := st) (v := .int ((lv + 1 : Nat) : Int)) rfl (eAdd (sE_loc rfl rfl (by decide +kernel)) (eNat rfl)) rfl ss_nil
      · have e : lv + (T.nd ks vs ((y :: kids).map (·.2))).hgt = lv + 1 + y.2.hgt := by simp [T.hgt, Ts.hgt]; omega
        rw [e]; exact ev
theorem height_code (P : PgOk c pg2) (n : Nat) {me k : Nat} {a b : V} {tr : T} (hm : st[me]? = some ⟨1, [a, .obj k, b]⟩) (hr : Rep st k tr) (hz : tr.size ≤ 50000) : SCode c (n + 2) (addr2 16) [.obj me] st (.int (tr.hgt : Int)) st := by
  obtain ⟨w, l1, ev⟩ := height_loop (st := st) (n := n) P (me := .obj me) tr.size tr k 0 (Nat.le_refl _) hz hr
  rw [Nat.zero_add] at ev
  refine fn_code (loc := [.v (.obj me), l1, .v (.int (tr.hgt : Int))]) P (k := 16) (nm := nm16) (body := b16) (pad := [.unset, .unset]) (np := 1) (fl := .ret (.int (tr.hgt : Int))) rfl rfl ?_ (.ret _)
  refine ss_assign (st₁ := st) (v := .obj k) rfl (aRoot P (sE_loc rfl rfl (by decide +kernel)) hm rfl) rfl ?_
  refine ss_assign (st₁ := st) (v := .int 0) rfl sE_int rfl ?_
  refine ss_while ev ?_
  exact ss_return (sE_loc rfl rfl (by decide +kernel))

/-- flat, pairs, check -/
theorem flat_code (P : PgOk c pg2) (n : Nat) {me k : Nat} {a b : V} {tr : T} (hm : st[me]? = some ⟨1, [a, .obj k, b]⟩) (hr : Rep st k tr) (hz : tr.size ≤ 50000) (hf : tr.flat.length ≤ 900000) : SCode c (n + 2) (addr2 25) [.obj me] st (.list (a :: tr.flat)) st :=
  fn_code P (k := 25) (nm := nm25) (body := b25) (pad := []) (np := 1) (loc := [.v (.obj me)]) (fl := .ret (.list (a :: tr.flat))) rfl rfl
    (ss_return (sE_bin (sE_list (sEs_cons (aT P (sE_loc rfl rfl (by decide +kernel)) hm rfl) sEs_nil) (by simp)) (mCall P (cl := 1) (kf := 24) rfl rfl (sE_loc rfl rfl (by decide +kernel)) hm rfl (sEs_cons (aRoot P (sE_loc rfl rfl (by decide +kernel)) hm rfl) sEs_nil) (flatB_code P n hr hz) rfl (by first | decide | (simp; done)) rfl) (bin_cat (xs := [a]) (by simp; omega)))) (.ret _)
theorem pairs_code (P : PgOk c pg2) (n : Nat) {me k : Nat} {a b : V} {tr : T} (hm : st[me]? = some ⟨1, [a, .obj k, b]⟩) (hr : Rep st k tr) (hl : tr.law = true) (hz : tr.size ≤ 50000) : SCode c (n + 3) (addr2 18) [.obj me] st (.list tr.prs) st :=
  fn_code P (k := 18) (nm := nm18) (body := b18) (pad := []) (np := 1) (loc := [.v (.obj me)]) (fl := .ret (.list tr.prs)) rfl rfl
    (ss_return (mCall P (cl := 1) (kf := 17) rfl rfl (sE_loc rfl rfl (by decide +kernel)) hm rfl (sEs_cons (aRoot P (sE_loc rfl rfl (by decide +kernel)) hm rfl) sEs_nil) (pairsB_code P n hr hl hz) rfl (by first | decide | (simp; done)) rfl)) (.ret _)
def chkP (c : Cn) (t : Nat) (sz : Int) (tr : T) : Bool := tr.shp t true && (tr.kok (V.lt c) .none .none && (!decide (tr.lvl < 0) && ((tr.cnt : Int) == sz)))
theorem check_code (P : PgOk c pg2) (n : Nat) {me k t : Nat} {sz : Int} {tr : T} (hm : st[me]? = some ⟨1, [.int (t : Int), .obj k, .int sz]⟩) (hr : Rep st k tr) (ht : t ≤ 10) (hk : tr.shp t true = true → tr.kn = true) (hz : tr.size ≤ 50000) : SCode c (n + 3) (addr2 22) [.obj me] st (.bool (chkP c t sz tr)) st := by
  have go : ∀ b loc', SS c nm22 (n + 2) b22 [.v (.obj me)] st (.ret (.bool b)) loc' st → SCode c (n + 3) (addr2 22) [.obj me] st (.bool b) st := fun b loc' hh =>
    fn_code P (k := 22) (nm := nm22) (body := b22) (pad := []) (np := 1) (fl := .ret (.bool b)) rfl rfl hh (.ret _)
  have c1 : SC c nm22 (n + 2) (sAt b22 0).cd [.v (.obj me)] st (!tr.shp t true) st :=
    sC_not (sC_bool (mCall P (cl := 1) (kf := 19) rfl rfl (sE_loc rfl rfl (by decide +kernel)) hm rfl (sEs_cons (aRoot P (sE_loc rfl rfl (by decide +kernel)) hm rfl) (sEs_cons sE_bool sEs_nil)) ((shape_code P n hm hr ht hz).mono (by omega)) rfl (by first | decide | (simp; done)) rfl) rfl)
  unfold chkP
  cases h1 : tr.shp t true with
  | false =>
    rw [h1] at c1
    exact go _ _ (ss_if_tr c1 (ss_return sE_bool))
  | true =>
    rw [h1] at c1
    have c2 : SC c nm22 (n + 2) (sAt b22 1).cd [.v (.obj me)] st (!tr.kok (V.lt c) .none .none) st :=
      sC_not (sC_bool (mCall P (cl := 1) (kf := 20) rfl rfl (sE_loc rfl rfl (by decide +kernel)) hm rfl (sEs_cons (aRoot P (sE_loc rfl rfl (by decide +kernel)) hm rfl) (sEs_cons sE_none (sEs_cons sE_none sEs_nil))) ((keys_code P n hr (hk h1) hz).mono (by omega)) rfl (by first | decide | (simp; done)) rfl) rfl)
    cases h2 : tr.kok (V.lt c) .none .none with
    | false =>
      rw [h2] at c2
      exact go _ _ (ss_if_f c1 ss_nil (ss_if_tr c2 (ss_return sE_bool)))
    | true =>
      rw [h2] at c2
      have c3 : SC c nm22 (n + 2) (sAt b22 2).cd [.v (.obj me)] st (decide (tr.lvl < 0)) st :=
        sC_cmp (mCall P (cl := 1) (kf := 21) rfl rfl (sE_loc rfl rfl (by decide +kernel)) hm rfl (sEs_cons (aRoot P (sE_loc rfl rfl (by decide +kernel)) hm rfl) sEs_nil) (level_code P n hr hz) rfl (by first | decide | (simp; done)) rfl) sE_int (cmp_lt rfl rfl)
      cases h3 : decide (tr.lvl < 0) with
      | true =>
        rw [h3] at c3
        exact go _ _ (ss_if_f c1 ss_nil (ss_if_f c2 ss_nil (ss_if_tr c3 (ss_return sE_bool))))
      | false =>
        rw [h3] at c3
        exact go _ _ (ss_if_f c1 ss_nil (ss_if_f c2 ss_nil (ss_if_f c3 ss_nil (ss_return (sE_cmp (mCall P (cl := 1) (kf := 23) rfl rfl (sE_loc rfl rfl (by decide +kernel)) hm rfl (sEs_cons (aRoot P (sE_loc rfl rfl (by decide +kernel)) hm rfl) sEs_nil) ((count_code P n hr hz).mono (by omega)) rfl (by first | decide | (simp; done)) rfl) (aSize P (sE_loc rfl rfl (by decide +kernel)) hm rfl) (cmp_eqi rfl rfl))))))

/-- the constructors and adopt -/
theorem sSet (P : PgOk c pg2) {cl f j : Nat} {x : Str} (hp : pg2.fpos cl f = some j) (hn : pg2.aname f = some x) {o e : E} {k : Nat} {q p : Ps} {i : Inst} {v : V} {rest : List S} (he : SE c nm n e loc st v st₁) (ho : SE c nm n o loc st₁ (.obj k) st₁) (hi : st₁[k]? = some i) (hcl : i.cls = cl) (hf : j ≤ i.fs.length) (hz : i.fs.length ≤ 10) (hc : e.nocomp = true) (hr : SS c nm n rest loc (st₁.set k ⟨cl, putV i.fs j v⟩) fl loc₂ st₂) : SS c nm n (.setattr o f x q e p :: rest) loc st fl loc₂ st₂ := by
  subst hcl
  obtain ⟨x', h1, h2, _, h4⟩ := P.attr _ _ _ hp
  rw [hn] at h1; cases h1
  exact ss_cons (x := .setattr o f x q e p) rfl (sx_setattr he ho hi h4 (P.nd _) h2 hf hz hc) hr
theorem set_last {α : Type} (l : List α) (a b : α) : (l ++ [a]).set l.length b = l ++ [b] := by
  rw [List.set_append_right _ _ (Nat.le_refl _), Nat.sub_self]; rfl
theorem set_last2 {α : Type} (l : List α) (a b d : α) : (l ++ [a, d]).set l.length b = l ++ [b, d] := by
  rw [List.set_append_right _ _ (Nat.le_refl _), Nat.sub_self]; rfl
theorem get_last {α : Type} (l : List α) (a : α) (r : List α) : (l ++ a :: r)[l.length]? = some a := by
  rw [List.getElem?_append_right (Nat.le_refl _), Nat.sub_self]; rfl
theorem node_new (P : PgOk c pg2) (n : Nat) (a b d : V) : SCode c (n + 2) (c.cls 0) [a, b, d] st (.obj st.length) (st ++ [⟨0, [a, b, d]⟩]) := by
  refine sCode_new (P.new 0 "Node" rfl) ?_
  refine fn_code P (k := 10) (nm := nm10) (body := b10) (pad := []) (np := 4) (loc := [.v (.obj st.length), .v a, .v b, .v d]) (fl := .next) rfl rfl ?_ .next
  refine sSet P (cl := 0) (j := 0) (i := ⟨0, []⟩) (st₁ := st ++ [⟨0, []⟩]) rfl rfl (sE_loc rfl rfl (by decide +kernel)) (sE_loc rfl rfl (by decide +kernel)) (get_last ..) rfl (Nat.le_refl _) (by first | decide | (simp; done)) rfl ?_
  rw [set_last]
  refine sSet P (cl := 0) (j := 1) (i := ⟨0, [a]⟩) (st₁ := st ++ [⟨0, [a]⟩]) rfl rfl (sE_loc rfl rfl (by decide +kernel)) (sE_loc rfl rfl (by decide +kernel)) (get_last ..) rfl (Nat.le_refl _) (by first | decide | (simp; done)) rfl ?_
  rw [set_last]
  refine sSet P (cl := 0) (j := 2) (i := ⟨0, [a, b]⟩) (st₁ := st ++ [⟨0, [a, b]⟩]) rfl rfl (sE_loc rfl rfl (by decide +kernel)) (sE_loc rfl rfl (by decide +kernel)) (get_last ..) rfl (Nat.le_refl _) (by first | decide | (simp; done)) rfl ?_
  rw [set_last]
  exact ss_nil
theorem clsOk (P : PgOk c pg2) {k : Nat} {x : Str} (hx : pg2.cname k = some x) (gl : x ∈ nm.gs) : FnOk c nm x (c.cls k) :=
  let ⟨a1, a2, a3⟩ := P.cls k x hx; ⟨gl, a1, a2, a3⟩
theorem canopy_new (P : PgOk c pg2) (n : Nat) (t : V) : SCode c (n + 4) (c.cls 1) [t] st (.obj st.length) (st ++ [⟨1, [t, .obj (st.length + 1), .int 0]⟩, ⟨0, [.list [], .list [], .list []]⟩]) := by
  refine sCode_new (P.new 1 "Canopy" rfl) ?_
  refine fn_code P (k := 13) (nm := nm13) (body := b13) (pad := []) (np := 2) (loc := [.v (.obj st.length), .v t]) (fl := .next) rfl rfl ?_ .next
  refine sSet P (cl := 1) (j := 0) (i := ⟨1, []⟩) (st₁ := st ++ [⟨1, []⟩]) rfl rfl (sE_loc rfl rfl (by decide +kernel)) (sE_loc rfl rfl (by decide +kernel)) (get_last ..) rfl (Nat.le_refl _) (by first | decide | (simp; done)) rfl ?_
  rw [set_last]
  show SS c nm13 (n + 2) _ _ (st ++ [⟨1, [t]⟩]) _ _ _
  have hnew : SE c nm13 (n + 2) (.call (.cls 0) "Node" ⟨32, 20, 32, 24⟩ [(.list [] ⟨32, 25, 32, 27⟩), (.list [] ⟨32, 29, 32, 31⟩), (.list [] ⟨32, 33, 32, 35⟩)] ⟨32, 20, 32, 36⟩) [.v (.obj st.length), .v t] (st ++ [⟨1, [t]⟩]) (.obj (st.length + 1)) (st ++ [⟨1, [t]⟩, ⟨0, [.list [], .list [], .list []]⟩]) := by
    have h := node_new (st := st ++ [⟨1, [t]⟩]) P n (.list []) (.list []) (.list [])
    rw [List.length_append, List.append_assoc] at h
    exact sE_new (clsOk P rfl (by decide +kernel)) (sEs_cons (sE_list sEs_nil (by first | decide | (simp; done))) (sEs_cons (sE_list sEs_nil (by first | decide | (simp; done))) (sEs_cons (sE_list sEs_nil (by first | decide | (simp; done))) sEs_nil))) h.call
  refine sSet P (cl := 1) (j := 1) (i := ⟨1, [t]⟩) (v := .obj (st.length + 1)) (st₁ := st ++ [(⟨1, [t]⟩ : Inst), (⟨0, [.list [], .list [], .list []]⟩ : Inst)]) rfl rfl hnew (sE_loc rfl rfl (by decide +kernel)) (get_last ..) rfl (Nat.le_refl _) (by first | decide | (simp; done)) rfl ?_
  rw [set_last2]
  show SS c nm13 (n + 2) _ _ (st ++ [⟨1, [t, .obj (st.length + 1)]⟩, ⟨0, [.list [], .list [], .list []]⟩]) _ _ _
  refine sSet P (cl := 1) (j := 2) (i := ⟨1, [t, .obj (st.length + 1)]⟩) (v := .int 0) (st₁ := st ++ [(⟨1, [t, .obj (st.length + 1)]⟩ : Inst), (⟨0, [.list [], .list [], .list []]⟩ : Inst)]) rfl rfl sE_int (sE_loc rfl rfl (by decide +kernel)) (get_last ..) rfl (Nat.le_refl _) (by first | decide | (simp; done)) rfl ?_
  rw [set_last2]
  exact ss_nil
theorem adopt_code (P : PgOk c pg2) (n : Nat) {me : Nat} {t a b r s : V} (hm : st[me]? = some ⟨1, [t, a, b]⟩) : SCode c (n + 1) (addr2 14) [.obj me, r, s] st .none (st.set me ⟨1, [t, r, s]⟩) := by
  have hlt := (List.getElem?_eq_some_iff.mp hm).1
  refine fn_code P (k := 14) (nm := nm14) (body := b14) (pad := []) (np := 3) (loc := [.v (.obj me), .v r, .v s]) (fl := .next) rfl rfl ?_ .next
  refine sSet P (cl := 1) (j := 1) (i := ⟨1, [t, a, b]⟩) (st₁ := st) rfl rfl (sE_loc rfl rfl (by decide +kernel)) (sE_loc rfl rfl (by decide +kernel)) hm rfl (by first | decide | (simp; done)) (by first | decide | (simp; done)) rfl ?_
  refine sSet P (cl := 1) (j := 2) (i := ⟨1, [t, r, b]⟩) (st₁ := st.set me ⟨1, [t, r, b]⟩) rfl rfl (sE_loc rfl rfl (by decide +kernel)) (sE_loc rfl rfl (by decide +kernel)) (List.getElem?_set_self hlt) rfl (by first | decide | (simp; done)) (by first | decide | (simp; done)) rfl ?_
  rw [List.set_set]
  exact ss_nil
end
end Mine

namespace Mine
open PySem PySem.W PySem.Calls PyProof.Rows
/-- the cells -/
def cell2 (ns : List Int) (k : Nat) : Int := (ns[k]?).getD (k : Int)
mutual
def T.v : T → V
  | .nd ks vs cs => .tup [.tup ks, .tup vs, .tup (Ts.v cs)]
def Ts.v : List T → List V
  | [] => []
  | t :: ts => t.v :: Ts.v ts
end
theorem Ts.v_map (l : List T) : Ts.v l = l.map T.v := by
  induction l with
  | nil => rfl
  | cons t l ih => rw [Ts.v, ih]; rfl
theorem Ts.v_app (a b : List T) : Ts.v (a ++ b) = Ts.v a ++ Ts.v b := by rw [Ts.v_map, Ts.v_map, Ts.v_map, List.map_append]
theorem Ts.v_len (l : List T) : (Ts.v l).length = l.length := by rw [Ts.v_map, List.length_map]
def V.pair (v : V) : Prop := ∃ a b, v = .tup [a, b]
theorem hi_nat (k n : Nat) : kms_hi (some (k : Int)) n = min k n := by
  show (if (k : Int) < 0 then n - (-(k : Int)).toNat else min (k : Int).toNat n) = _
  rw [if_neg (by omega), Int.toNat_natCast]
theorem lo_nat (k n : Nat) : kms_lo (some (k : Int)) n = min k n := by
  show (if (k : Int) < 0 then n - (-(k : Int)).toNat else min (k : Int).toNat n) = _
  rw [if_neg (by omega), Int.toNat_natCast]
theorem pick_to (l : List V) (k : Nat) : vpick l none (some (k : Int)) = l.take k := by
  unfold vpick
  rw [hi_nat]
  show (l.drop 0).take (min k l.length - 0) = _
  rw [List.drop_zero, Nat.sub_zero, List.take_eq_take_min]
  simp
theorem pick_init (l : List V) : vpick l none (some (-1)) = l.take (l.length - 1) := by
  unfold vpick
  show (l.drop 0).take (l.length - 1 - 0) = _
  rw [List.drop_zero, Nat.sub_zero]
theorem pick_mid (l : List V) (p n : Nat) (h : p + n ≤ l.length) : vpick l (some (p : Int)) (some ((p : Int) + (n : Int))) = (l.drop p).take n := by
  have e : ((p : Int) + (n : Int)) = ((p + n : Nat) : Int) := rfl
  unfold vpick
  rw [e, hi_nat, lo_nat, Nat.min_eq_left h, Nat.min_eq_left (by omega)]
  congr 1; omega
theorem pick_from (l : List V) (p : Nat) : vpick l (some (p : Int)) none = l.drop p := by
  unfold vpick
  rw [lo_nat]
  show (l.drop (min p l.length)).take (l.length - min p l.length) = _
  by_cases h : p ≤ l.length
  · rw [Nat.min_eq_left h, List.take_of_length_le (by simp)]
  · rw [Nat.min_eq_right (by omega), List.drop_of_length_le (Nat.le_refl _), List.drop_of_length_le (by omega), List.take_nil]
section
variable {c : Cn} {nm nm' : Nm} {n : Nat} {loc loc₁ loc₂ : List LV} {st st₁ st₂ : List Inst} {fl : Fl}
theorem cell_code (P : PgOk c pg2) (hl : c.sns.length ≤ 63) (k n : Nat) : SCode c (n + 1) (addr2 0) [.scr, .int (k : Int)] st (.int (cell2 c.sns k)) st := by
  have hc : SC c nm0 n (sAt b0 0).cd [.v .scr, .v (.int (k : Int))] st (decide ((k : Int) < (c.sns.length : Int))) st :=
    sC_cmp (sE_loc rfl rfl (by decide +kernel)) (sE_bltF (btLen P (by decide +kernel)) (sEs_cons (sE_loc rfl rfl (by decide +kernel)) sEs_nil) (blt_lenS (by omega))) (cmp_lt rfl rfl)
  by_cases h : k < c.sns.length
  · rw [decide_eq_true (by omega)] at hc
    refine fn_code (loc := [.v .scr, .v (.int (k : Int))]) P (k := 0) (nm := nm0) (body := b0) (pad := []) (np := 2) (fl := .ret (.int (cell2 c.sns k))) rfl rfl ?h (.ret _)
    refine ss_if_tr hc (ss_return (sE_idxS (k := k) (sE_loc rfl rfl (by decide +kernel)) (sE_loc rfl rfl (by decide +kernel)) rfl ?_ (by omega)))
    unfold cell2
    rw [List.getElem?_eq_getElem h]; rfl
  · rw [decide_eq_false (by omega)] at hc
    have e : cell2 c.sns k = (k : Int) := by unfold cell2; rw [List.getElem?_eq_none (by omega)]; rfl
    rw [e]
    exact fn_code P (k := 0) (nm := nm0) (body := b0) (pad := []) (np := 2) (loc := [.v .scr, .v (.int (k : Int))]) rfl rfl (ss_if_f hc ss_nil (ss_return (sE_loc rfl rfl (by decide +kernel)))) (.ret _)
theorem cev_map {elt : E} {cv : List LV} (f : V → V) : ∀ xs : List V, (∀ x ∈ xs, SE c nm n elt (.v x :: cv) st (f x) st) → CEv c nm n elt cv xs st (xs.map f) st := by
  intro xs
  induction xs with
  | nil => intro _; exact .nil
  | cons x xs ih => intro h; exact .cons (h x (.head _)) (ih fun y hy => h y (.tail _ hy))
/-- _law_node -/
theorem lnode_code (P : PgOk c pg2) (n : Nat) {ps : List V} {kids : V} (hp : ∀ p ∈ ps, p.pair) (hz : ps.length ≤ 1000) : SCode c (n + 1) (addr2 2) [.list ps, kids] st (.tup [.tup (ps.map V.at0), .tup (ps.map V.at1), kids]) st := by
  refine fn_code P (k := 2) (nm := nm2) (body := b2) (pad := []) (np := 2) (loc := [.v (.list ps), .v kids]) (fl := .ret (.tup [.tup (ps.map V.at0), .tup (ps.map V.at1), kids])) rfl rfl ?_ (.ret _)
  refine ss_return (sE_tup (sEs_cons (st₁ := st) ?_ (sEs_cons (st₁ := st) ?_ (sEs_cons (sE_loc rfl rfl (by decide +kernel)) sEs_nil))) (by first | decide | (simp; done)))
  · refine sE_bltT (st₁ := st) (btTuple P (by decide +kernel)) (sEs_cons (st₁ := st) (v := .list (ps.map V.at0)) (sE_comp (st₁ := st) (okComp_ok (by decide +kernel)) (fun j hj => by cases hj) (si_list (sE_loc rfl rfl (by decide +kernel)) (by omega)) (cev_map V.at0 ps fun x hx => ?_)) sEs_nil) (blt_tuple (by simp; omega))
    obtain ⟨a, b, rfl⟩ := hp x hx
    exact sE_idxT (k := 0) (sE_loc rfl rfl (by decide +kernel)) sE_int rfl rfl (by first | decide | (simp; done))
  · refine sE_bltT (st₁ := st) (btTuple P (by decide +kernel)) (sEs_cons (st₁ := st) (v := .list (ps.map V.at1)) (sE_comp (st₁ := st) (okComp_ok (by decide +kernel)) (fun j hj => by cases hj) (si_list (sE_loc rfl rfl (by decide +kernel)) (by omega)) (cev_map V.at1 ps fun x hx => ?_)) sEs_nil) (blt_tuple (by simp; omega))
    obtain ⟨a, b, rfl⟩ := hp x hx
    exact sE_idxT (k := 1) (sE_loc rfl rfl (by decide +kernel)) sE_int rfl rfl (by first | decide | (simp; done))
theorem mkN_v (part : List V) (kids : List T) : (mkN part kids).v = .tup [.tup (part.map V.at0), .tup (part.map V.at1), .tup (Ts.v kids)] := by unfold mkN; rw [T.v]
/-- _law_branch -/
theorem branch_loop (P : PgOk c pg2) {run : List V} (hr : ∀ p ∈ run, p.pair) (hz : run.length ≤ 1000) {sz : V} : ∀ (ns : List Nat) (p : Nat) (kids : List T) (seps : List V) (l5 : LV), p + nsum ns + ns.length ≤ run.length → kids.length + ns.length ≤ 1000 → seps.length + ns.length ≤ 1000 →
    ∃ l1 l5', FEv c nm3 (n + 1) 5 (sAt b3 2).bd (ns.map fun m : Nat => V.int (m : Int)) [.v (.list run), .v (.int (p : Int)), .v sz, .v (.tup (Ts.v kids)), .own seps, l5] st .next [.v (.list run), l1, .v sz, .v (.tup (Ts.v (brGo run p ns kids seps).1)), .own (brGo run p ns kids seps).2, l5'] st := by
  intro ns
  induction ns with
  | nil => intro p kids seps l5 h1 h2 h3; exact ⟨_, _, .nil⟩
  | cons m ns ih =>
    intro p kids seps l5 h1 h2 h3
    simp only [nsum, List.length_cons] at h1 h2 h3
    obtain ⟨l1, l5', ev⟩ := ih (p + m + 1) (kids ++ [mkN ((run.drop p).take m) []]) (seps ++ [run.getD (p + m) .none]) (.v (.int (m : Int))) (by omega) (by simp; omega) (by simp; omega)
    refine ⟨l1, l5', ?_⟩
    rw [List.map_cons, brGo]
    refine .cons (loc₁ := [.v (.list run), .v (.int ((p + m + 1 : Nat) : Int)), .v sz, .v (.tup (Ts.v (kids ++ [mkN ((run.drop p).take m) []]))), .own (seps ++ [run.getD (p + m) .none]), .v (.int (m : Int))]) (st₁ := st) ?_ ev
    have hcall : SE c nm3 (n + 1) (.call (.fn 2) "_law_node" ⟨239, 23, 239, 32⟩ [(.slice (.loc 0 "run" ⟨239, 33, 239, 36⟩) (some (.loc 1 "at" ⟨239, 37, 239, 39⟩)) (some (.bin .add (.loc 1 "at" ⟨239, 40, 239, 42⟩) (.loc 5 "n" ⟨239, 45, 239, 46⟩) ⟨239, 40, 239, 46⟩)) ⟨239, 37, 239, 46⟩ ⟨239, 33, 239, 47⟩), (.tup [] 0 ⟨239, 49, 239, 51⟩)] ⟨239, 23, 239, 52⟩) [.v (.list run), .v (.int (p : Int)), .v sz, .v (.tup (Ts.v kids)), .own seps, .v (.int (m : Int))] st (mkN ((run.drop p).take m) []).v st := by
      rw [mkN_v]
      refine sE_call (fn_ok P (k := 2) rfl (by decide +kernel)) (vs := [.list ((run.drop p).take m), .tup []]) (sEs_cons (st₁ := st) ?_ (sEs_cons (sE_tup sEs_nil (by first | decide | (simp; done))) sEs_nil)) (lnode_code P n (fun q hq => hr q (List.mem_of_mem_drop (List.mem_of_mem_take hq))) (by simp; omega)).call
      rw [← pick_mid run p m (by omega)]
      exact sE_slice (st₁ := st) (st₂ := st) (sE_loc rfl rfl (by decide +kernel)) (sEo_some (sE_loc rfl rfl (by decide +kernel)) rfl) (sEo_some (sE_bin (sE_loc rfl rfl (by decide +kernel)) (sE_loc rfl rfl (by decide +kernel)) (bin_add rfl rfl)) rfl) (by omega)
    refine ss_assign (st₁ := st) (v := .tup (Ts.v (kids ++ [mkN ((run.drop p).take m) []]))) rfl ?_ rfl ?_
    · rw [Ts.v_app]
      exact sE_bin (sE_loc rfl rfl (by decide +kernel)) (sE_tup (sEs_cons hcall sEs_nil) (by first | decide | (simp; done))) (bin_catT (by rw [Ts.v_len]; simp; omega))
    · refine ss_app (st₁ := st) (v := run.getD (p + m) .none) rfl rfl (by decide +kernel) (sE_idx (k := p + m) (y := .int ((p : Int) + (m : Int))) (sE_loc rfl rfl (by decide +kernel)) (sE_bin (sE_loc rfl rfl (by decide +kernel)) (sE_loc rfl rfl (by decide +kernel)) (bin_add rfl rfl)) rfl ?_ (by omega)) rfl (by omega) ?_
      · rw [List.getD_eq_getElem?_getD, List.getElem?_eq_getElem (by omega)]; rfl
      · exact ss_assign (st₁ := st) (v := .int ((p + m + 1 : Nat) : Int)) rfl (eAdd (eAdd (sE_loc rfl rfl (by decide +kernel)) (sE_loc rfl rfl (by decide +kernel))) (eNat rfl)) rfl ss_nil
theorem brGo_len (run : List V) : ∀ (ns : List Nat) (p : Nat) (kids : List T) (seps : List V), (brGo run p ns kids seps).2.length = seps.length + ns.length ∧ (brGo run p ns kids seps).1.length = kids.length + ns.length := by
  intro ns
  induction ns with
  | nil => intro p kids seps; exact ⟨rfl, rfl⟩
  | cons m ns ih =>
    intro p kids seps
    rw [brGo]
    obtain ⟨a, b⟩ := ih (p + m + 1) (kids ++ [mkN ((run.drop p).take m) []]) (seps ++ [run.getD (p + m) .none])
    rw [a, b]
    simp; omega
theorem brGo_pair {run : List V} (hr : ∀ p ∈ run, p.pair) : ∀ (ns : List Nat) (p : Nat) (kids : List T) (seps : List V), p + nsum ns + ns.length ≤ run.length → (∀ q ∈ seps, q.pair) → ∀ q ∈ (brGo run p ns kids seps).2, q.pair := by
  intro ns
  induction ns with
  | nil => intro p kids seps _ h; exact h
  | cons m ns ih =>
    intro p kids seps h1 h
    simp only [nsum, List.length_cons] at h1
    rw [brGo]
    refine ih _ _ _ (by omega) fun q hq => ?_
    rcases List.mem_append.mp hq with hq | hq
    · exact h q hq
    · cases hq with
      | head =>
        rw [List.getD_eq_getElem?_getD, List.getElem?_eq_getElem (by omega)]
        exact hr _ (List.getElem_mem (by omega))
      | tail _ z => cases z
theorem branch_code (P : PgOk c pg2) (n : Nat) {run : List V} (hr : ∀ p ∈ run, p.pair) (hz : run.length ≤ 1000) (ns : List Nat) (p : Nat) (h1 : p + nsum ns + ns.length ≤ run.length) : SCode c (n + 2) (addr2 3) [.list run, .int (p : Int), .list (ns.map fun m : Nat => V.int (m : Int))] st (brP run p ns).v st := by
  obtain ⟨l1, l5, ev⟩ := branch_loop (n := n) (st := st) P hr hz (sz := .list (ns.map fun m : Nat => V.int (m : Int))) ns p [] [] .unset h1 (by simp; omega) (by simp; omega)
  obtain ⟨le1, le2⟩ := brGo_len run ns p [] []
  refine fn_code (loc := [.v (.list run), l1, .v (.list (ns.map fun m : Nat => V.int (m : Int))), .v (.tup (Ts.v (brGo run p ns [] []).1)), .v (.list (brGo run p ns [] []).2), l5]) P (k := 3) (nm := nm3) (body := b3) (pad := [.unset, .unset, .unset]) (np := 3) (fl := .ret (brP run p ns).v) rfl rfl ?_ (.ret _)
  refine ss_assign (st₁ := st) (v := .tup (Ts.v [])) rfl (sE_tup sEs_nil (by first | decide | (simp; done))) rfl ?_
  refine ss_own (st₁ := st) (vs := []) rfl sEs_nil (by first | decide | (simp; done)) ?_
  refine ss_for (st₁ := st) (st₂ := st) rfl (si_list (sE_loc rfl rfl (by decide +kernel)) (by simp; omega)) ev ?_
  refine ss_freeze (x := "seps") rfl rfl ?_
  unfold brP
  rw [mkN_v]
  refine ss_return (sE_call (fn_ok P (k := 2) rfl (by decide +kernel)) (vs := [.list ((brGo run p ns [] []).2.take ((brGo run p ns [] []).2.length - 1)), .tup (Ts.v (brGo run p ns [] []).1)]) (sEs_cons (st₁ := st) ?_ (sEs_cons (sE_loc rfl rfl (by decide +kernel)) sEs_nil)) (lnode_code P n (fun q hq => brGo_pair hr ns p [] [] h1 (fun _ h => by cases h) q (List.mem_of_mem_take hq)) (by simp at le1 ⊢; omega)).call)
  rw [← pick_init]
  exact sE_slice (st₁ := st) (st₂ := st) (sE_loc rfl rfl (by decide +kernel)) sEo_none (sEo_some sE_neg rfl) (by simp at le1; omega)
/-- _law_blueprint -/
def gsV (gs : List (List Nat)) : V := .list (gs.map fun g => .list (g.map fun m : Nat => .int (m : Int)))
theorem nums_ints (c : Cn) (l : List Nat) : vnums c (l.map fun m : Nat => V.int (m : Int)) = some (l.map fun m : Nat => (m : Int)) := by
  induction l with
  | nil => rfl
  | cons a l ih => simp [vnums, ih, V.iv]
theorem sum_ints (l : List Nat) : (l.map fun m : Nat => (m : Int)).sum = ((nsum l : Nat) : Int) := by
  induction l with
  | nil => rfl
  | cons a l ih => simp [nsum, ih]
theorem blue_loop (P : PgOk c pg2) {run : List V} (hr : ∀ p ∈ run, p.pair) (hz : run.length ≤ 1000) {h g : V} : ∀ (gs : List (List Nat)) (p : Nat) (kids : List T) (seps : List V) (l6 : LV), (∀ g ∈ gs, 0 < g.length) → p + totS gs ≤ run.length → kids.length + gs.length ≤ 1000 → seps.length + gs.length ≤ 1000 →
    ∃ l5' l6', FEv c nm4 (n + 2) 6 (sAt b4 4).bd (gs.map fun g => V.list (g.map fun m : Nat => .int (m : Int))) [.v (.list run), .v h, .v g, .v (.tup (Ts.v kids)), .own seps, .v (.int (p : Int)), l6] st .next [.v (.list run), .v h, .v g, .v (.tup (Ts.v (bpGo run p gs kids seps).1)), .own (bpGo run p gs kids seps).2, l5', l6'] st := by
  intro gs
  induction gs with
  | nil => intro p kids seps l6 _ h1 h2 h3; exact ⟨_, _, .nil⟩
  | cons m gs ih =>
    intro p kids seps l6 hp h1 h2 h3
    have h1' : p + (nsum m + m.length + totS gs) ≤ run.length := h1
    simp only [List.length_cons] at h2 h3
    have hm : 0 < m.length := hp m (.head _)
    obtain ⟨l5', l6', ev⟩ := ih (p + nsum m + m.length) (kids ++ [brP run p m]) (seps ++ [run.getD (p + nsum m + m.length - 1) .none]) (.v (.list (m.map fun m : Nat => .int (m : Int)))) (fun g hg => hp g (.tail _ hg)) (by omega) (by simp; omega) (by simp; omega)
    refine ⟨l5', l6', ?_⟩
    rw [List.map_cons, bpGo]
    refine .cons (loc₁ := [.v (.list run), .v h, .v g, .v (.tup (Ts.v (kids ++ [brP run p m]))), .own (seps ++ [run.getD (p + nsum m + m.length - 1) .none]), .v (.int ((p + nsum m + m.length : Nat) : Int)), .v (.list (m.map fun m : Nat => .int (m : Int)))]) (st₁ := st) ?_ ev
    refine ss_assign (st₁ := st) (v := .tup (Ts.v (kids ++ [brP run p m]))) rfl ?_ rfl ?_
    · rw [Ts.v_app]
      exact sE_bin (sE_loc rfl rfl (by decide +kernel)) (sE_tup (sEs_cons (sE_call (fn_ok P (k := 3) rfl (by decide +kernel)) (sEs_cons (sE_loc rfl rfl (by decide +kernel)) (sEs_cons (sE_loc rfl rfl (by decide +kernel)) (sEs_cons (sE_loc rfl rfl (by decide +kernel)) sEs_nil))) (branch_code P n hr hz m p (by omega)).call) sEs_nil) (by first | decide | (simp; done))) (bin_catT (by rw [Ts.v_len]; simp; omega))
    · refine ss_assign (st₁ := st) (v := .int ((p + nsum m + m.length : Nat) : Int)) rfl ?_ rfl ?_
      · refine se_eq (sE_bin (sE_bin (sE_loc rfl rfl (by decide +kernel)) (sE_bltF (btSum P (by decide +kernel)) (sEs_cons (sE_loc rfl rfl (by decide +kernel)) sEs_nil) (blt_sum (nums_ints c m))) (bin_add rfl rfl)) (eLen P (by decide +kernel) (sE_loc rfl rfl (by decide +kernel)) (by simp; omega)) (bin_add rfl rfl)) ?_
        rw [sum_ints, List.length_map]; congr 1
      · refine ss_app (st₁ := st) (v := run.getD (p + nsum m + m.length - 1) .none) rfl rfl (by decide +kernel) (sE_idx (k := p + nsum m + m.length - 1) (y := .int (((p + nsum m + m.length : Nat) : Int) - 1)) (sE_loc rfl rfl (by decide +kernel)) (sE_bin (sE_loc rfl rfl (by decide +kernel)) sE_int (bin_sub rfl rfl)) ?_ ?_ (by omega)) rfl (by omega) ss_nil
        · show some (((p + nsum m + m.length : Nat) : Int) - 1) = some ((p + nsum m + m.length - 1 : Nat) : Int)
          congr 1; omega
        · rw [List.getD_eq_getElem?_getD, List.getElem?_eq_getElem (by omega)]; rfl
theorem bpGo_len (run : List V) : ∀ (gs : List (List Nat)) (p : Nat) (kids : List T) (seps : List V), (bpGo run p gs kids seps).2.length = seps.length + gs.length ∧ (bpGo run p gs kids seps).1.length = kids.length + gs.length := by
  intro ns
  induction ns with
  | nil => intro p kids seps; exact ⟨rfl, rfl⟩
  | cons m ns ih =>
    intro p kids seps
    rw [bpGo]
    obtain ⟨a, b⟩ := ih (p + nsum m + m.length) (kids ++ [brP run p m]) (seps ++ [run.getD (p + nsum m + m.length - 1) .none])
    rw [a, b]
    simp; omega
theorem bpGo_pair {run : List V} (hr : ∀ p ∈ run, p.pair) : ∀ (gs : List (List Nat)) (p : Nat) (kids : List T) (seps : List V), (∀ g ∈ gs, 0 < g.length) → p + totS gs ≤ run.length → (∀ q ∈ seps, q.pair) → ∀ q ∈ (bpGo run p gs kids seps).2, q.pair := by
  intro gs
  induction gs with
  | nil => intro p kids seps _ _ h; exact h
  | cons m gs ih =>
    intro p kids seps hp h1 h
    have h1' : p + (nsum m + m.length + totS gs) ≤ run.length := h1
    have hm : 0 < m.length := hp m (.head _)
    rw [bpGo]
    refine ih _ _ _ (fun g hg => hp g (.tail _ hg)) (by omega) fun q hq => ?_
    rcases List.mem_append.mp hq with hq | hq
    · exact h q hq
    · cases hq with
      | head =>
        rw [List.getD_eq_getElem?_getD, List.getElem?_eq_getElem (by omega)]
        exact hr _ (List.getElem_mem (by omega))
      | tail _ z => cases z
theorem blue_code (P : PgOk c pg2) (n : Nat) {run : List V} (hr : ∀ p ∈ run, p.pair) (hz : run.length ≤ 1000) (h : Nat) (gs : List (List Nat)) (hg : ∀ g ∈ gs, 0 < g.length) (h0 : 0 < gs.length) (h1 : totS gs ≤ run.length) : SCode c (n + 3) (addr2 4) [.list run, .int (h : Int), gsV gs] st (bpP run h gs).v st := by
  have c0 : SC c nm4 (n + 2) (sAt b4 0).cd [.v (.list run), .v (.int (h : Int)), .v (gsV gs), .unset, .unset, .unset, .unset] st ((h : Int) == 0) st := sC_cmp (sE_loc rfl rfl (by decide +kernel)) sE_int (cmp_eqi rfl rfl)
  unfold bpP
  cases h with
  | zero =>
    cases gs with
    | nil => simp at h0
    | cons g gs =>
      cases g with
      | nil => have := hg [] (.head _); simp at this
      | cons m g =>
        refine fn_code P (k := 4) (nm := nm4) (body := b4) (pad := [.unset, .unset, .unset, .unset]) (np := 3) (fl := .ret (mkN (run.take m) []).v) (loc := [.v (.list run), .v (.int 0), .v (gsV ((m :: g) :: gs)), .unset, .unset, .unset, .unset]) rfl rfl (ss_if_tr c0 (ss_return ?_)) (.ret _)
        rw [mkN_v]
        refine sE_call (fn_ok P (k := 2) rfl (by decide +kernel)) (vs := [.list (run.take m), .tup []]) (sEs_cons (st₁ := st) ?_ (sEs_cons (sE_tup sEs_nil (by first | decide | (simp; done))) sEs_nil)) ((lnode_code P n (fun q hq => hr q (List.mem_of_mem_take hq)) (by simp; omega)).mono (by omega)).call
        rw [← pick_to]
        have hlen : g.length + gs.length ≤ 1000 := by
          have : nsum (m :: g) + (m :: g).length + totS gs ≤ run.length := h1
          have hh : ∀ l : List (List Nat), (∀ g ∈ l, 0 < g.length) → l.length ≤ totS l := by
            intro l
            induction l with
            | nil => intro _; exact Nat.zero_le _
            | cons a l ih => intro q; have := q a (.head _); have := ih fun g hg => q g (.tail _ hg); show l.length + 1 ≤ nsum a + a.length + totS l; omega
          have := hh gs fun g' hg' => hg g' (.tail _ hg')
          simp at *
          omega
        exact sE_slice (st₁ := st) (st₂ := st) (sE_loc rfl rfl (by decide +kernel)) sEo_none (sEo_some (sE_idx (k := 0) (y := .int 0) (v := .int (m : Int)) (sE_idx (k := 0) (y := .int 0) (v := .list ((m :: g).map fun m : Nat => .int (m : Int))) (sE_loc rfl rfl (by decide +kernel)) sE_int rfl rfl (by simp; omega)) sE_int rfl rfl (by simp; omega)) rfl) (by omega)
  | succ h =>
    have c0' := sc_eq c0 (b' := false) (by rw [beq_eq_false_iff_ne]; omega)
    have hgl : gs.length ≤ 1000 := by
      have hh : ∀ l : List (List Nat), (∀ g ∈ l, 0 < g.length) → l.length ≤ totS l := by
        intro l
        induction l with
        | nil => intro _; exact Nat.zero_le _
        | cons a l ih => intro q; have := q a (.head _); have := ih fun g hg => q g (.tail _ hg); show l.length + 1 ≤ nsum a + a.length + totS l; omega
      have := hh gs hg
      omega
    obtain ⟨l5, l6, ev⟩ := blue_loop (n := n) (st := st) P hr hz (h := .int ((h + 1 : Nat) : Int)) (g := gsV gs) gs 0 [] [] .unset hg (by omega) (by simp; omega) (by simp; omega)
    obtain ⟨le1, le2⟩ := bpGo_len run gs 0 [] []
    have pre : ∀ fl loc', SS c nm4 (n + 2) (b4.drop 5) [.v (.list run), .v (.int ((h + 1 : Nat) : Int)), .v (gsV gs), .v (.tup (Ts.v (bpGo run 0 gs [] []).1)), .own (bpGo run 0 gs [] []).2, l5, l6] st fl loc' st → SS c nm4 (n + 2) b4 [.v (.list run), .v (.int ((h + 1 : Nat) : Int)), .v (gsV gs), .unset, .unset, .unset, .unset] st fl loc' st := by
      intro fl loc' hh
      refine ss_if_f c0' ss_nil ?_
      refine ss_assign (st₁ := st) (v := .tup (Ts.v [])) rfl (sE_tup sEs_nil (by first | decide | (simp; done))) rfl ?_
      refine ss_own (st₁ := st) (vs := []) rfl sEs_nil (by first | decide | (simp; done)) ?_
      refine ss_assign (st₁ := st) (v := .int ((0 : Nat) : Int)) rfl sE_int rfl ?_
      exact ss_for (st₁ := st) (st₂ := st) rfl (si_list (sE_loc rfl rfl (by decide +kernel)) (by simp; omega)) ev hh
    have c5 : SC c nm4 (n + 2) (sAt b4 5).cd [.v (.list run), .v (.int ((h + 1 : Nat) : Int)), .v (gsV gs), .v (.tup (Ts.v (bpGo run 0 gs [] []).1)), .own (bpGo run 0 gs [] []).2, l5, l6] st (((h + 1 : Nat) : Int) == 1) st := sC_cmp (sE_loc rfl rfl (by decide +kernel)) sE_int (cmp_eqi rfl rfl)
    cases h with
    | zero =>
      refine fn_code P (k := 4) (nm := nm4) (body := b4) (pad := [.unset, .unset, .unset, .unset]) (np := 3) (fl := .ret (nthT (bpGo run 0 gs [] []).1 0).v) rfl rfl (pre _ _ (ss_if_tr c5 (ss_return (sE_idxT (k := 0) (y := .int 0) (sE_loc rfl rfl (by decide +kernel)) sE_int rfl ?_ (by rw [Ts.v_len]; simp at le2; omega))))) (.ret _)
      unfold nthT
      rw [Ts.v_map, List.getElem?_map, List.getD_eq_getElem?_getD, List.getElem?_eq_getElem (by simp at le2; omega)]
      rfl
    | succ h =>
      have c5' := sc_eq c5 (b' := false) (by rw [beq_eq_false_iff_ne]; omega)
      refine fn_code P (k := 4) (nm := nm4) (body := b4) (pad := [.unset, .unset, .unset, .unset]) (np := 3) (fl := .ret (mkN ((bpGo run 0 gs [] []).2.take ((bpGo run 0 gs [] []).2.length - 1)) (bpGo run 0 gs [] []).1).v) rfl rfl (pre _ _ (ss_if_f c5' ss_nil (ss_freeze (x := "seps") rfl rfl (ss_return ?_)))) (.ret _)
      rw [mkN_v]
      refine sE_call (fn_ok P (k := 2) rfl (by decide +kernel)) (vs := [.list ((bpGo run 0 gs [] []).2.take ((bpGo run 0 gs [] []).2.length - 1)), .tup (Ts.v (bpGo run 0 gs [] []).1)]) (sEs_cons (st₁ := st) ?_ (sEs_cons (sE_loc rfl rfl (by decide +kernel)) sEs_nil)) ((lnode_code P n (fun q hq => bpGo_pair hr gs 0 [] [] hg (by omega) (fun _ h => by cases h) q (List.mem_of_mem_take hq)) (by simp at le1 ⊢; omega)).mono (by omega)).call
      rw [← pick_init]
      exact sE_slice (st₁ := st) (st₂ := st) (sE_loc rfl rfl (by decide +kernel)) sEo_none (sEo_some sE_neg rfl) (by simp at le1; omega)
end
end Mine

namespace Mine
open PySem PySem.W PySem.Calls PyProof.Rows
mutual
theorem T.flat_len : ∀ t : T, t.flat.length ≤ 2 * t.size
  | .nd ks vs cs => by
    have := Ts.flat_len cs
    rw [T.flat, T.size]; simp; omega
theorem Ts.flat_len : ∀ ts : List T, (Ts.flat ts).length ≤ 2 * Ts.size ts
  | [] => by simp [Ts.flat]
  | t :: ts => by
    have := T.flat_len t
    have := Ts.flat_len ts
    rw [Ts.flat, Ts.size, List.length_append]; omega
end
theorem Ts.size_mem {l : List T} {t : T} (h : t ∈ l) : t.size ≤ Ts.size l := by
  induction l with
  | nil => cases h
  | cons a l ih =>
    rw [Ts.size]
    cases h with
    | head => omega
    | tail _ q => have := ih q; omega
section
variable {c : Cn} {nm nm' : Nm} {n : Nat} {loc loc₁ loc₂ : List LV} {st st₁ st₂ : List Inst} {fl : Fl}
/-- _law_head -/
theorem head_code (P : PgOk c pg2) (n : Nat) (ks vs : List V) (cs : List T) (hz : (T.nd ks vs cs).size ≤ 50000) : SCode c (n + 1) (addr2 6) [(T.nd ks vs cs).v] st (.list (nodeFlat ks vs cs.length)) st := by
  have hs : 1 + ks.length + vs.length + Ts.size cs ≤ 50000 := by simpa [T.size] using hz
  have l2 := Ts.len_le cs
  rw [T.v]
  refine fn_code P (k := 6) (nm := nm6) (body := b6) (pad := []) (np := 1) (loc := [.v (.tup [.tup ks, .tup vs, .tup (Ts.v cs)])]) (fl := .ret (.list (nodeFlat ks vs cs.length))) rfl rfl (ss_return ?_) (.ret _)
  have t0 : ∀ {p q r : Ps}, SE c nm6 n (.idx (.loc 0 "tree" p) (.int 0 q) r) [.v (.tup [.tup ks, .tup vs, .tup (Ts.v cs)])] st (.tup ks) st := sE_idxT (k := 0) (sE_loc rfl rfl (by decide +kernel)) sE_int rfl rfl (by first | decide | (simp; done))
  have t1 : ∀ {p q r : Ps}, SE c nm6 n (.idx (.loc 0 "tree" p) (.int 1 q) r) [.v (.tup [.tup ks, .tup vs, .tup (Ts.v cs)])] st (.tup vs) st := sE_idxT (k := 1) (sE_loc rfl rfl (by decide +kernel)) sE_int rfl rfl (by first | decide | (simp; done))
  have t2 : ∀ {p q r : Ps}, SE c nm6 n (.idx (.loc 0 "tree" p) (.int 2 q) r) [.v (.tup [.tup ks, .tup vs, .tup (Ts.v cs)])] st (.tup (Ts.v cs)) st := sE_idxT (k := 2) (sE_loc rfl rfl (by decide +kernel)) sE_int rfl rfl (by first | decide | (simp; done))
  have e : nodeFlat ks vs cs.length = [.int (ks.length : Int)] ++ ks ++ vs ++ [.int ((Ts.v cs).length : Int)] := by rw [Ts.v_len]; rfl
  rw [e]
  refine sE_bin (sE_bin (sE_bin (sE_list (sEs_cons (eLenT P (by decide +kernel) t0 (by omega)) sEs_nil) (by first | decide | (simp; done))) (sE_bltT (btList P (by decide +kernel)) (sEs_cons t0 sEs_nil) (blt_listT (by omega))) (bin_cat (by simp; omega))) (sE_bltT (btList P (by decide +kernel)) (sEs_cons t1 sEs_nil) (blt_listT (by omega))) (bin_cat (by simp; omega))) (sE_list (sEs_cons (eLenT P (by decide +kernel) t2 (by rw [Ts.v_len]; omega)) sEs_nil) (by first | decide | (simp; done))) (bin_cat (by simp; omega))
/-- _law_flat -/
theorem lfl_in (P : PgOk c pg2) {tr : V} {l2 : LV} : ∀ (ls : List T) (out : List V) (l3 : LV), (∀ t ∈ ls, t.deep 1 = true) → out.length + 2 * Ts.size ls ≤ 500000 → Ts.size ls ≤ 50000 →
    ∃ l3', FEv c nm7 (n + 1) 3 (sAt (sAt b7 1).bd 1).bd (Ts.v ls) [.v tr, .v (.list out), l2, l3] st .next [.v tr, .v (.list (out ++ Ts.flat ls)), l2, l3'] st := by
  intro ls
  induction ls with
  | nil => intro out l3 _ _ _; exact ⟨l3, by rw [Ts.flat, List.append_nil]; exact .nil⟩
  | cons t ls ih =>
    intro out l3 hd hz hz2
    obtain ⟨ks, vs, cs⟩ := t
    have hcs : cs = [] := by
      have := hd _ (.head _)
      cases cs with
      | nil => rfl
      | cons a l => simp [T.deep] at this
    subst hcs
    rw [Ts.size] at hz hz2
    have hs : (T.nd ks vs []).size = 1 + ks.length + vs.length := by simp [T.size, Ts.size]
    obtain ⟨l3', ev⟩ := ih (out ++ nodeFlat ks vs 0) (.v (T.nd ks vs []).v) (fun t ht => hd t (.tail _ ht)) (by simp [nodeFlat]; omega) (by omega)
    refine ⟨l3', ?_⟩
    have e : out ++ Ts.flat (T.nd ks vs [] :: ls) = out ++ nodeFlat ks vs 0 ++ Ts.flat ls := by simp [Ts.flat, T.flat, nodeFlat]
    rw [e, Ts.v]
    exact .cons (ss_assign (st₁ := st) (v := .list (out ++ nodeFlat ks vs 0)) rfl (sE_bin (sE_loc rfl rfl (by decide +kernel)) (sE_call (fn_ok P (k := 6) rfl (by decide +kernel)) (sEs_cons (sE_loc rfl rfl (by decide +kernel)) sEs_nil) (head_code P n ks vs [] (by omega)).call) (bin_cat (by simp [nodeFlat]; omega))) rfl ss_nil) ev
theorem lfl_out (P : PgOk c pg2) {tr : V} : ∀ (ls : List T) (out : List V) (l2 l3 : LV), (∀ t ∈ ls, t.deep 2 = true) → out.length + 2 * Ts.size ls ≤ 500000 → Ts.size ls ≤ 50000 →
    ∃ l2' l3', FEv c nm7 (n + 1) 2 (sAt b7 1).bd (Ts.v ls) [.v tr, .v (.list out), l2, l3] st .next [.v tr, .v (.list (out ++ Ts.flat ls)), l2', l3'] st := by
  intro ls
  induction ls with
  | nil => intro out l2 l3 _ _ _; exact ⟨l2, l3, by rw [Ts.flat, List.append_nil]; exact .nil⟩
  | cons t ls ih =>
    intro out l2 l3 hd hz hz2
    obtain ⟨ks, vs, cs⟩ := t
    have hcs : ∀ t ∈ cs, t.deep 1 = true := List.all_eq_true.mp (hd _ (.head _))
    rw [Ts.size] at hz hz2
    have hs : (T.nd ks vs cs).size = 1 + ks.length + vs.length + Ts.size cs := by simp [T.size]
    have l4 := Ts.len_le cs
    obtain ⟨m3, ev1⟩ := lfl_in (n := n) (st := st) P (tr := tr) (l2 := .v (T.nd ks vs cs).v) cs (out ++ nodeFlat ks vs cs.length) l3 hcs (by simp [nodeFlat]; omega) (by omega)
    obtain ⟨l2', l3', ev⟩ := ih (out ++ nodeFlat ks vs cs.length ++ Ts.flat cs) (.v (T.nd ks vs cs).v) m3 (fun t ht => hd t (.tail _ ht)) (by have := Ts.flat_len cs; simp [nodeFlat]; omega) (by omega)
    refine ⟨l2', l3', ?_⟩
    have e : out ++ Ts.flat (T.nd ks vs cs :: ls) = out ++ nodeFlat ks vs cs.length ++ Ts.flat cs ++ Ts.flat ls := by simp [Ts.flat, T.flat, nodeFlat]
    rw [e, Ts.v]
    refine .cons (loc₁ := [.v tr, .v (.list (out ++ nodeFlat ks vs cs.length ++ Ts.flat cs)), .v (T.nd ks vs cs).v, m3]) (st₁ := st) (ss_assign (st₁ := st) (v := .list (out ++ nodeFlat ks vs cs.length)) rfl (sE_bin (sE_loc rfl rfl (by decide +kernel)) (sE_call (fn_ok P (k := 6) rfl (by decide +kernel)) (sEs_cons (sE_loc rfl rfl (by decide +kernel)) sEs_nil) (head_code P n ks vs cs (by omega)).call) (bin_cat (by simp [nodeFlat]; omega))) rfl ?_) ev
    refine ss_for (st₁ := st) (st₂ := st) rfl (si_tup (xs := Ts.v cs) (sE_idxT (k := 2) (xs := [.tup ks, .tup vs, .tup (Ts.v cs)]) (by rw [← T.v]; exact (sE_loc rfl rfl (by decide +kernel))) sE_int rfl rfl (by first | decide | (simp; done))) (by rw [Ts.v_len]; omega)) ev1 ss_nil
theorem lflat_code (P : PgOk c pg2) (n : Nat) (tr : T) (hd : tr.deep 3 = true) (hz : tr.size ≤ 50000) : SCode c (n + 2) (addr2 7) [tr.v] st (.list tr.flat) st := by
  obtain ⟨ks, vs, cs⟩ := tr
  have hcs : ∀ t ∈ cs, t.deep 2 = true := List.all_eq_true.mp hd
  have hs : (T.nd ks vs cs).size = 1 + ks.length + vs.length + Ts.size cs := by simp [T.size]
  have l4 := Ts.len_le cs
  obtain ⟨l2, l3, ev⟩ := lfl_out (n := n) (st := st) P (tr := (T.nd ks vs cs).v) cs (nodeFlat ks vs cs.length) .unset .unset hcs (by simp [nodeFlat]; omega) (by omega)
  have e : (T.nd ks vs cs).flat = nodeFlat ks vs cs.length ++ Ts.flat cs := by simp [T.flat, nodeFlat]
  rw [e]
  refine fn_code (loc := [.v (T.nd ks vs cs).v, .v (.list (nodeFlat ks vs cs.length ++ Ts.flat cs)), l2, l3]) P (k := 7) (nm := nm7) (body := b7) (pad := [.unset, .unset, .unset]) (np := 1) (fl := .ret (.list (nodeFlat ks vs cs.length ++ Ts.flat cs))) rfl rfl ?_ (.ret _)
  refine ss_assign (st₁ := st) (v := .list (nodeFlat ks vs cs.length)) rfl (sE_call (fn_ok P (k := 6) rfl (by decide +kernel)) (sEs_cons (sE_loc rfl rfl (by decide +kernel)) sEs_nil) (head_code P n ks vs cs (by omega)).call) rfl ?_
  refine ss_for (st₁ := st) (st₂ := st) rfl (si_tup (xs := Ts.v cs) (sE_idxT (k := 2) (xs := [.tup ks, .tup vs, .tup (Ts.v cs)]) (by rw [← T.v]; exact (sE_loc rfl rfl (by decide +kernel))) sE_int rfl rfl (by first | decide | (simp; done))) (by rw [Ts.v_len]; omega)) ev (ss_return (sE_loc rfl rfl (by decide +kernel)))
/-- _law_build -/
theorem pre_rep {st ext : List Inst} {k : Nat} {t : T} (h : Rep st k t) : Rep (st ++ ext) k t := h.mono fun k i e _ => by rw [List.getElem?_append_left (List.getElem?_eq_some_iff.mp e).1]; exact e
theorem idx3 {e : E} {a b d : V} {p q : Ps} {i : Int} {k : Nat} {v : V} (he : SE c nm n e loc st (.tup [a, b, d]) st) (hi : i = (k : Int)) (hv : [a, b, d][k]? = some v) : SE c nm n (.idx e (.int i q) p) loc st v st := by
  subst hi; exact sE_idxT (k := k) he sE_int rfl hv (by first | decide | (simp; done))
theorem lst3 (P : PgOk c pg2) (gl : ("list" : Str) ∈ nm.gs) {e : E} {xs : List V} {p q : Ps} (he : SE c nm n e loc st (.tup xs) st) (hz : xs.length ≤ 1000000) : SE c nm n (.call .list "list" q [e] p) loc st (.list xs) st := sE_bltT (btList P gl) (sEs_cons he sEs_nil) (blt_listT hz)
noncomputable abbrev lowE : E := match sAt (sAt b5 1).bd 0 with | .assign _ _ _ (.comp e _ _ _ _ _ _) _ => e | _ => .none ⟨0, 0, 0, 0⟩
noncomputable abbrev lowS : Scope := match sAt (sAt b5 1).bd 0 with | .assign _ _ _ (.comp _ _ _ _ _ s _) _ => s | _ => ⟨.function, [], false, false, []⟩
theorem low_ev (P : PgOk c pg2) : ∀ (ls : List T) (st : List Inst), (∀ t ∈ ls, t.deep 1 = true) → Ts.size ls ≤ 50000 →
    ∃ (kids : List (Nat × T)) (ext : List Inst), kids.map (·.2) = ls ∧ CEv c (compNm nm5 lowS "x" []) (n + 2) lowE [] (Ts.v ls) st (kids.map fun x => V.obj x.1) (st ++ ext) ∧ ∀ x ∈ kids, Rep (st ++ ext) x.1 x.2 := by
  intro ls
  induction ls with
  | nil => intro st _ _; exact ⟨[], [], rfl, by rw [List.append_nil]; exact .nil, fun x hx => by cases hx⟩
  | cons t ls ih =>
    intro st hd hz
    obtain ⟨ks, vs, cs⟩ := t
    have hcs : cs = [] := by
      have := hd _ (.head _)
      cases cs with
      | nil => rfl
      | cons a l => simp [T.deep] at this
    subst hcs
    rw [Ts.size] at hz
    have hs : (T.nd ks vs []).size = 1 + ks.length + vs.length := by simp [T.size, Ts.size]
    obtain ⟨kids, ext, e1, ev, hr⟩ := ih (st ++ [⟨0, [.list ks, .list vs, .list []]⟩]) (fun t ht => hd t (.tail _ ht)) (by omega)
    rw [List.append_assoc] at ev hr
    refine ⟨(st.length, .nd ks vs []) :: kids, [⟨0, [.list ks, .list vs, .list []]⟩] ++ ext, by rw [List.map_cons, e1], ?_, ?_⟩
    · rw [Ts.v, T.v, List.map_cons]
      refine .cons ?_ ev
      exact sE_new (st₁ := st) (clsOk P rfl (by decide +kernel)) (sEs_cons (lst3 P (by decide +kernel) (idx3 (k := 0) (sE_loc rfl rfl (by decide +kernel)) rfl rfl) (by omega)) (sEs_cons (lst3 P (by decide +kernel) (idx3 (k := 1) (sE_loc rfl rfl (by decide +kernel)) rfl rfl) (by omega)) (sEs_cons (sE_list sEs_nil (by first | decide | (simp; done))) sEs_nil))) (node_new P n _ _ _).call
    · intro x hx
      cases hx with
      | head => exact .nd (kids := []) (get_last ..) fun x hx => by cases hx
      | tail _ q => exact hr x q
theorem kids_ev (P : PgOk c pg2) {tr : V} : ∀ (ls : List T) (st : List Inst) (acc : List (Nat × T)) (l2 l3 : LV), (∀ t ∈ ls, t.deep 2 = true) → Ts.size ls ≤ 50000 → acc.length + ls.length ≤ 50000 → (∀ x ∈ acc, Rep st x.1 x.2) →
    ∃ (kids : List (Nat × T)) (ext : List Inst) (l2' l3' : LV), kids.map (·.2) = ls ∧ FEv c nm5 (n + 2) 2 (sAt b5 1).bd (Ts.v ls) [.v tr, .own (acc.map fun x => V.obj x.1), l2, l3] st .next [.v tr, .own ((acc ++ kids).map fun x => V.obj x.1), l2', l3'] (st ++ ext) ∧ ∀ x ∈ acc ++ kids, Rep (st ++ ext) x.1 x.2 := by
  intro ls
  induction ls with
  | nil => intro st acc l2 l3 _ _ _ ha; exact ⟨[], [], l2, l3, rfl, by rw [List.append_nil, List.append_nil]; exact .nil, fun x hx => by rw [List.append_nil] at hx ⊢; exact ha x hx⟩
  | cons t ls ih =>
    intro st acc l2 l3 hd hz hal ha
    obtain ⟨ks, vs, cs⟩ := t
    have hcs : ∀ t ∈ cs, t.deep 1 = true := List.all_eq_true.mp (hd _ (.head _))
    rw [Ts.size] at hz
    simp only [List.length_cons] at hal
    have hs : (T.nd ks vs cs).size = 1 + ks.length + vs.length + Ts.size cs := by simp [T.size]
    have l4 := Ts.len_le cs
    obtain ⟨low, ext1, e1, ev1, hr1⟩ := low_ev (n := n) P cs st hcs (by omega)
    have hll : low.length = cs.length := by rw [← e1, List.length_map]
    obtain ⟨kids, ext2, l2', l3', e2, ev2, hr2⟩ := ih (st ++ ext1 ++ [⟨0, [.list ks, .list vs, .list (low.map fun x => V.obj x.1)]⟩]) (acc ++ [((st ++ ext1).length, .nd ks vs cs)]) (.v (T.nd ks vs cs).v) (.v (.list (low.map fun x => V.obj x.1))) (fun t ht => hd t (.tail _ ht)) (by omega) (by simp; omega) (by
      intro x hx
      rcases List.mem_append.mp hx with hx | hx
      · exact pre_rep (pre_rep (ha x hx))
      · cases hx with
        | head =>
          show Rep _ (st ++ ext1).length (.nd ks vs cs)
          rw [← e1]
          exact .nd (get_last ..) fun x hx => pre_rep (hr1 x hx)
        | tail _ q => cases q)
    refine ⟨((st ++ ext1).length, .nd ks vs cs) :: kids, ext1 ++ ([⟨0, [.list ks, .list vs, .list (low.map fun x => V.obj x.1)]⟩] ++ ext2), l2', l3', by rw [List.map_cons, e2], ?_, ?_⟩
    · have ea : acc ++ ((st ++ ext1).length, T.nd ks vs cs) :: kids = acc ++ [((st ++ ext1).length, T.nd ks vs cs)] ++ kids := by simp
      have eb : st ++ (ext1 ++ ([⟨0, [.list ks, .list vs, .list (low.map fun x => V.obj x.1)]⟩] ++ ext2)) = st ++ ext1 ++ [⟨0, [.list ks, .list vs, .list (low.map fun x => V.obj x.1)]⟩] ++ ext2 := by simp
      rw [ea, eb, Ts.v]
      refine .cons (loc₁ := [.v tr, .own ((acc ++ [((st ++ ext1).length, T.nd ks vs cs)]).map fun x => V.obj x.1), .v (T.nd ks vs cs).v, .v (.list (low.map fun x => V.obj x.1))]) (st₁ := st ++ ext1 ++ [⟨0, [.list ks, .list vs, .list (low.map fun x => V.obj x.1)]⟩]) ?_ ev2
      refine ss_assignC (st₁ := st) (st₂ := st ++ ext1) (nm' := compNm nm5 lowS "x" []) (cn := []) (xs := Ts.v cs) (ys := low.map fun x : Nat × T => V.obj x.1) rfl (by decide +kernel) rfl (by decide +kernel) (okComp_ok (by decide +kernel)) (fun j hj => by cases hj) (si_tup (xs := Ts.v cs) (idx3 (a := .tup ks) (b := .tup vs) (d := .tup (Ts.v cs)) (k := 2) (by rw [← T.v]; exact (sE_loc rfl rfl (by decide +kernel))) rfl rfl) (by rw [Ts.v_len]; omega)) ev1 ?_
      have em : (acc ++ [((st ++ ext1).length, T.nd ks vs cs)]).map (fun x => V.obj x.1) = (acc.map fun x => V.obj x.1) ++ [.obj (st ++ ext1).length] := by simp
      rw [em]
      refine ss_app (st₁ := st ++ ext1 ++ [⟨0, [.list ks, .list vs, .list (low.map fun x => V.obj x.1)]⟩]) (v := .obj (st ++ ext1).length) rfl rfl (by decide +kernel) ?_ rfl (by simp; omega) ss_nil
      exact sE_new (st₁ := st ++ ext1) (clsOk P rfl (by decide +kernel)) (sEs_cons (lst3 P (by decide +kernel) (idx3 (a := .tup ks) (b := .tup vs) (d := .tup (Ts.v cs)) (k := 0) (by rw [← T.v]; exact (sE_loc rfl rfl (by decide +kernel))) rfl rfl) (by omega)) (sEs_cons (lst3 P (by decide +kernel) (idx3 (a := .tup ks) (b := .tup vs) (d := .tup (Ts.v cs)) (k := 1) (by rw [← T.v]; exact (sE_loc rfl rfl (by decide +kernel))) rfl rfl) (by omega)) (sEs_cons (sE_loc rfl rfl (by decide +kernel)) sEs_nil))) (node_new P n _ _ _).call
    · intro x hx
      have eb : st ++ (ext1 ++ ([⟨0, [.list ks, .list vs, .list (low.map fun x => V.obj x.1)]⟩] ++ ext2)) = st ++ ext1 ++ [⟨0, [.list ks, .list vs, .list (low.map fun x => V.obj x.1)]⟩] ++ ext2 := by simp
      rw [eb]
      refine hr2 x ?_
      simpa using hx
theorem build_code (P : PgOk c pg2) (n : Nat) (tr : T) (hd : tr.deep 3 = true) (hz : tr.size ≤ 50000) : ∃ r ext, SCode c (n + 3) (addr2 5) [tr.v] st (.obj r) (st ++ ext) ∧ Rep (st ++ ext) r tr := by
  obtain ⟨ks, vs, cs⟩ := tr
  have hcs : ∀ t ∈ cs, t.deep 2 = true := List.all_eq_true.mp hd
  have hs : (T.nd ks vs cs).size = 1 + ks.length + vs.length + Ts.size cs := by simp [T.size]
  have l4 := Ts.len_le cs
  obtain ⟨kids, ext, l2, l3, e1, ev, hr⟩ := kids_ev (n := n) P (tr := (T.nd ks vs cs).v) cs st [] .unset .unset hcs (by omega) (by simp; omega) (fun x hx => by cases hx)
  rw [List.nil_append] at ev hr
  refine ⟨(st ++ ext).length, ext ++ [⟨0, [.list ks, .list vs, .list (kids.map fun x => V.obj x.1)]⟩], ?_, ?_⟩
  · rw [← List.append_assoc]
    refine fn_code (loc := [.v (T.nd ks vs cs).v, .v (.list (kids.map fun x => V.obj x.1)), l2, l3]) P (k := 5) (nm := nm5) (body := b5) (pad := [.unset, .unset, .unset]) (np := 1) (fl := .ret (.obj (st ++ ext).length)) rfl rfl ?_ (.ret _)
    refine ss_own (st₁ := st) (vs := []) rfl sEs_nil (by first | decide | (simp; done)) ?_
    refine ss_for (st₁ := st) (st₂ := st ++ ext) rfl (si_tup (xs := Ts.v cs) (idx3 (a := .tup ks) (b := .tup vs) (d := .tup (Ts.v cs)) (k := 2) (by rw [← T.v]; exact (sE_loc rfl rfl (by decide +kernel))) rfl rfl) (by rw [Ts.v_len]; omega)) ev ?_
    refine ss_freeze (x := "kids") rfl rfl ?_
    exact ss_return (sE_new (st₁ := st ++ ext) (clsOk P rfl (by decide +kernel)) (sEs_cons (lst3 P (by decide +kernel) (idx3 (a := .tup ks) (b := .tup vs) (d := .tup (Ts.v cs)) (k := 0) (by rw [← T.v]; exact (sE_loc rfl rfl (by decide +kernel))) rfl rfl) (by omega)) (sEs_cons (lst3 P (by decide +kernel) (idx3 (a := .tup ks) (b := .tup vs) (d := .tup (Ts.v cs)) (k := 1) (by rw [← T.v]; exact (sE_loc rfl rfl (by decide +kernel))) rfl rfl) (by omega)) (sEs_cons (sE_loc rfl rfl (by decide +kernel)) sEs_nil))) (node_new P n _ _ _).call)
  · rw [← List.append_assoc, ← e1]
    exact .nd (get_last ..) fun x hx => pre_rep (hr x hx)
end
end Mine

namespace Mine
open PySem PySem.W PySem.Calls PyProof.Rows
def fm (i : Int) (k : Nat) : Nat := (i.fmod (k : Int)).toNat
theorem fm_eq (i : Int) {k : Nat} (h : 0 < k) : ((fm i k : Nat) : Int) = i.fmod (k : Int) := Int.toNat_of_nonneg (Int.fmod_nonneg_of_pos i (by omega))
theorem fm_lt (i : Int) {k : Nat} (h : 0 < k) : fm i k < k := by
  have h1 := fm_eq i h
  have h2 := Int.fmod_lt_of_pos i (by omega : (0 : Int) < (k : Int))
  omega
def rowP (n : Nat) (f : Nat → Nat) : List Nat := (List.range n).map f
def grpP (ns : List Int) (h t : Nat) : List (List Nat) := match h with
  | 0 => [[fm (cell2 ns 5) (2 * t)]]
  | 1 => [rowP (1 + fm (cell2 ns 5) (6 - t)) fun j => t - 1 + fm (cell2 ns (8 + j)) (t + 1)]
  | _ => (List.range (1 + fm (cell2 ns 5) 2)).map fun g => rowP (2 + fm (cell2 ns (6 + g)) 2) fun j => 1 + fm (cell2 ns (8 + 3 * g + j)) 2
section
variable {c : Cn} {nm nm' : Nm} {n : Nat} {loc loc₁ loc₂ : List LV} {st st₁ st₂ : List Inst} {fl : Fl}
theorem eCell (P : PgOk c pg2) (hl : c.sns.length ≤ 63) (gl : ("_law_cell" : Str) ∈ nm.gs) {e1 e2 : E} {p q : Ps} {k : Nat} (h1 : SE c nm (n + 1) e1 loc st .scr st) (h2 : SE c nm (n + 1) e2 loc st (.int (k : Int)) st) : SE c nm (n + 1) (.call (.fn 0) "_law_cell" q [e1, e2] p) loc st (.int (cell2 c.sns k)) st :=
  sE_call (fn_ok P (k := 0) rfl gl) (sEs_cons h1 (sEs_cons h2 sEs_nil)) (cell_code P hl k n).call
theorem eMod {e1 e2 : E} {p : Ps} {i : Int} {k : Nat} (h : 0 < k) (h1 : SE c nm n e1 loc st (.int i) st) (h2 : SE c nm n e2 loc st (.int (k : Int)) st) : SE c nm n (.bin .mod e1 e2 p) loc st (.int (fm i k : Int)) st :=
  se_eq (sE_bin h1 h2 (bin_mod rfl rfl (by omega))) (by rw [fm_eq i h])
theorem eMul {e1 e2 : E} {p : Ps} {a b : Nat} (ha : a ≤ 1000) (h1 : SE c nm n e1 loc st (.int (a : Int)) st) (h2 : SE c nm n e2 loc st (.int (b : Int)) st) : SE c nm n (.bin .mul e1 e2 p) loc st (.int ((a * b : Nat) : Int)) st :=
  se_eq (sE_bin h1 h2 (bin_mul (i := (a : Int)) (j := (b : Int)) rfl rfl (.of_left (intBits_le_64 (by omega) (by omega))))) (by show V.int _ = V.int _; congr 1)
theorem rowP_v (n : Nat) (f : Nat → Nat) : (rng 0 1 n).map (fun y => match y with | .int j => V.int ((f j.toNat : Nat) : Int) | v => v) = (rowP n f).map fun m : Nat => V.int (m : Int) := by
  rw [rng0, rowP, List.map_map, List.map_map]
  apply List.map_congr_left
  intro j _
  show V.int ((f (((0 + j : Nat) : Int)).toNat : Nat) : Int) = V.int ((f j : Nat) : Int)
  rw [Int.toNat_natCast, Nat.zero_add]
noncomputable abbrev cE (e : E) : E := match e with | .comp x _ _ _ _ _ _ => x | e => e
noncomputable abbrev cS (e : E) : Scope := match e with | .comp _ _ _ _ _ s _ => s | _ => ⟨.function, [], false, false, []⟩
noncomputable abbrev g1E : E := match sAt (sAt b1 2).bd 0 with | .ret (.list [e] _) _ => e | _ => .none ⟨0, 0, 0, 0⟩
noncomputable abbrev g2E : E := match sAt (sAt b1 4).bd 1 with | .append _ _ _ _ e _ _ => e | _ => .none ⟨0, 0, 0, 0⟩
theorem grp_loop (P : PgOk c pg2) (hl : c.sns.length ≤ 63) {h t mny : V} : ∀ (m g : Nat) (acc : List V) (l5 l6 : LV), acc.length + m ≤ 1000 →
    ∃ l5' l6', FEv c nm1 (n + 1) 5 (sAt b1 4).bd ((List.range m).map fun j : Nat => V.int ((g + j : Nat) : Int)) [.v .scr, .v h, .v t, .v mny, .own acc, l5, l6] st .next [.v .scr, .v h, .v t, .v mny, .own (acc ++ (List.range m).map fun j => .list ((rowP (2 + fm (cell2 c.sns (6 + (g + j))) 2) fun i => 1 + fm (cell2 c.sns (8 + 3 * (g + j) + i)) 2).map fun m : Nat => V.int (m : Int))), l5', l6'] st := by
  intro m
  induction m with
  | zero => intro g acc l5 l6 _; exact ⟨l5, l6, by rw [List.range_zero, List.map_nil, List.map_nil, List.append_nil]; exact .nil⟩
  | succ m ih =>
    intro g acc l5 l6 hz
    obtain ⟨l5', l6', ev⟩ := ih (g + 1) (acc ++ [.list ((rowP (2 + fm (cell2 c.sns (6 + g)) 2) fun i => 1 + fm (cell2 c.sns (8 + 3 * g + i)) 2).map fun m : Nat => V.int (m : Int))]) (.v (.int (g : Int))) (.v (.int ((2 + fm (cell2 c.sns (6 + g)) 2 : Nat) : Int))) (by simp; omega)
    refine ⟨l5', l6', ?_⟩
    have hf := fm_lt (cell2 c.sns (6 + g)) (k := 2) (by first | decide | (simp; done))
    rw [rng_cast]
    have e1 : acc ++ (List.range (m + 1)).map (fun j => V.list ((rowP (2 + fm (cell2 c.sns (6 + (g + j))) 2) fun i => 1 + fm (cell2 c.sns (8 + 3 * (g + j) + i)) 2).map fun m : Nat => V.int (m : Int))) = acc ++ [.list ((rowP (2 + fm (cell2 c.sns (6 + g)) 2) fun i => 1 + fm (cell2 c.sns (8 + 3 * g + i)) 2).map fun m : Nat => V.int (m : Int))] ++ (List.range m).map (fun j => V.list ((rowP (2 + fm (cell2 c.sns (6 + (g + 1 + j))) 2) fun i => 1 + fm (cell2 c.sns (8 + 3 * (g + 1 + j) + i)) 2).map fun m : Nat => V.int (m : Int))) := by
      rw [List.range_succ_eq_map, List.map_cons, List.map_map, List.append_assoc]
      congr 2
      apply List.map_congr_left
      intro j _
      show V.list _ = V.list _
      have : g + (j + 1) = g + 1 + j := by omega
      rw [show Nat.succ j = j + 1 from rfl, this]
    rw [e1]
    refine .cons ?_ ev
    refine ss_assign (st₁ := st) (v := .int ((2 + fm (cell2 c.sns (6 + g)) 2 : Nat) : Int)) rfl (eAdd (eNat rfl) (eMod (by first | decide | (simp; done)) (eCell P hl (by decide +kernel) (sE_loc rfl rfl (by decide +kernel)) (eAdd (eNat rfl) (sE_loc rfl rfl (by decide +kernel)))) (eNat rfl))) rfl ?_
    refine ss_app (st₁ := st) (v := .list ((rowP (2 + fm (cell2 c.sns (6 + g)) 2) fun i => 1 + fm (cell2 c.sns (8 + 3 * g + i)) 2).map fun m : Nat => V.int (m : Int))) rfl rfl (by decide +kernel) ?_ rfl (by omega) ss_nil
    rw [← rowP_v]
    refine sE_comp (st₁ := st) (okComp_ok (by decide +kernel)) ?_ (si_range1 (y := .int ((2 + fm (cell2 c.sns (6 + g)) 2 : Nat) : Int)) (k := 2 + fm (cell2 c.sns (6 + g)) 2) (btRange P (by decide +kernel)) (sE_loc rfl rfl (by decide +kernel)) rfl (by omega)) (cev_map _ _ fun x hx => ?_)
    · intro j hj
      rcases List.mem_cons.mp hj with rfl | hj
      · exact ⟨_, rfl⟩
      · rcases List.mem_cons.mp hj with rfl | hj
        · exact ⟨_, rfl⟩
        · cases hj
    · rw [rng0] at hx
      obtain ⟨j, hj, rfl⟩ := List.mem_map.mp hx
      show SE c _ (n + 1) _ _ st (.int ((1 + fm (cell2 c.sns (8 + 3 * g + (((0 + j : Nat) : Int)).toNat)) 2 : Nat) : Int)) st
      rw [Int.toNat_natCast, Nat.zero_add]
      exact eAdd (eNat rfl) (eMod (by first | decide | (simp; done)) (eCell P hl (by decide +kernel) (sE_loc rfl rfl (by decide +kernel)) (eAdd (eAdd (eNat rfl) (eMul (by first | decide | (simp; done)) (eNat rfl) (sE_loc rfl rfl (by decide +kernel)))) (sE_loc rfl rfl (by decide +kernel)))) (eNat rfl))
theorem groups_code (P : PgOk c pg2) (hl : c.sns.length ≤ 63) (n h t : Nat) (ht : 2 ≤ t) (ht3 : t ≤ 3) : SCode c (n + 2) (addr2 1) [.scr, .int (h : Int), .int (t : Int)] st (gsV (grpP c.sns h t)) st := by
  have pre : ∀ fl loc', SS c nm1 (n + 1) (b1.drop 1) [.v .scr, .v (.int (h : Int)), .v (.int (t : Int)), .v (.int (cell2 c.sns 5)), .unset, .unset, .unset] st fl loc' st → SS c nm1 (n + 1) b1 [.v .scr, .v (.int (h : Int)), .v (.int (t : Int)), .unset, .unset, .unset, .unset] st fl loc' st := by
    intro fl loc' hh
    exact ss_assign (st₁ := st) (v := .int (cell2 c.sns 5)) rfl (eCell P hl (by decide +kernel) (sE_loc rfl rfl (by decide +kernel)) (eNat (k := 5) rfl)) rfl hh
  have c1 : SC c nm1 (n + 1) (sAt b1 1).cd [.v .scr, .v (.int (h : Int)), .v (.int (t : Int)), .v (.int (cell2 c.sns 5)), .unset, .unset, .unset] st ((h : Int) == 0) st := sC_cmp (sE_loc rfl rfl (by decide +kernel)) sE_int (cmp_eqi rfl rfl)
  have c2 : SC c nm1 (n + 1) (sAt b1 2).cd [.v .scr, .v (.int (h : Int)), .v (.int (t : Int)), .v (.int (cell2 c.sns 5)), .unset, .unset, .unset] st ((h : Int) == 1) st := sC_cmp (sE_loc rfl rfl (by decide +kernel)) sE_int (cmp_eqi rfl rfl)
  have done : ∀ v loc', SS c nm1 (n + 1) (b1.drop 1) [.v .scr, .v (.int (h : Int)), .v (.int (t : Int)), .v (.int (cell2 c.sns 5)), .unset, .unset, .unset] st (.ret v) loc' st → SCode c (n + 2) (addr2 1) [.scr, .int (h : Int), .int (t : Int)] st v st := fun v loc' hh =>
    fn_code P (k := 1) (nm := nm1) (body := b1) (pad := [.unset, .unset, .unset, .unset]) (np := 3) (fl := .ret v) rfl rfl (pre _ _ hh) (.ret _)
  match h with
  | 0 =>
    refine done _ _ (ss_if_tr c1 (ss_return ?_))
    show SE c nm1 (n + 1) _ _ st (.list [.list [.int (fm (cell2 c.sns 5) (2 * t) : Int)]]) st
    exact sE_list (sEs_cons (sE_list (sEs_cons (eMod (k := 2 * t) (by omega) (sE_loc rfl rfl (by decide +kernel)) (eMul (by first | decide | (simp; done)) (eNat rfl) (sE_loc rfl rfl (by decide +kernel)))) sEs_nil) (by first | decide | (simp; done))) sEs_nil) (by first | decide | (simp; done))
  | 1 =>
    have hf := fm_lt (cell2 c.sns 5) (k := 6 - t) (by omega)
    refine done _ _ (ss_if_f c1 ss_nil (ss_if_tr c2 (ss_return ?_)))
    show SE c nm1 (n + 1) _ _ st (.list [.list ((rowP (1 + fm (cell2 c.sns 5) (6 - t)) fun j => t - 1 + fm (cell2 c.sns (8 + j)) (t + 1)).map fun m : Nat => V.int (m : Int))]) st
    rw [← rowP_v]
    refine sE_list (sEs_cons (st₁ := st) (sE_comp (st₁ := st) (okComp_ok (by decide +kernel)) ?_ (si_range1 (y := .int ((1 + fm (cell2 c.sns 5) (6 - t) : Nat) : Int)) (k := 1 + fm (cell2 c.sns 5) (6 - t)) (btRange P (by decide +kernel)) (eAdd (eNat rfl) (eMod (by omega) (sE_loc rfl rfl (by decide +kernel)) (se_eq (sE_bin sE_int (sE_loc rfl rfl (by decide +kernel)) (bin_sub rfl rfl)) (by show V.int _ = V.int _; congr 1; omega)))) rfl (by omega)) (cev_map _ _ fun x hx => ?_)) sEs_nil) (by first | decide | (simp; done))
    · intro j hj
      rcases List.mem_cons.mp hj with rfl | hj
      · exact ⟨_, rfl⟩
      · rcases List.mem_cons.mp hj with rfl | hj
        · exact ⟨_, rfl⟩
        · cases hj
    · rw [rng0] at hx
      obtain ⟨j, hj, rfl⟩ := List.mem_map.mp hx
      show SE c _ (n + 1) _ _ st (.int ((t - 1 + fm (cell2 c.sns (8 + (((0 + j : Nat) : Int)).toNat)) (t + 1) : Nat) : Int)) st
      rw [Int.toNat_natCast, Nat.zero_add]
      exact eAdd (se_eq (sE_bin (sE_loc rfl rfl (by decide +kernel)) sE_int (bin_sub rfl rfl)) (by show V.int _ = V.int _; congr 1; omega)) (eMod (by omega) (eCell P hl (by decide +kernel) (sE_loc rfl rfl (by decide +kernel)) (eAdd (eNat rfl) (sE_loc rfl rfl (by decide +kernel)))) (eAdd (sE_loc rfl rfl (by decide +kernel)) (eNat rfl)))
  | h + 2 =>
    have hf := fm_lt (cell2 c.sns 5) (k := 2) (by first | decide | (simp; done))
    have c1' := sc_eq c1 (b' := false) (by rw [beq_eq_false_iff_ne]; omega)
    have c2' := sc_eq c2 (b' := false) (by rw [beq_eq_false_iff_ne]; omega)
    obtain ⟨l5, l6, ev⟩ := grp_loop (n := n) (st := st) P hl (h := .int ((h + 2 : Nat) : Int)) (t := .int (t : Int)) (mny := .int (cell2 c.sns 5)) (1 + fm (cell2 c.sns 5) 2) 0 [] .unset .unset (by simp; omega)
    rw [← rng0] at ev
    refine done _ [.v .scr, .v (.int ((h + 2 : Nat) : Int)), .v (.int (t : Int)), .v (.int (cell2 c.sns 5)), .v (gsV (grpP c.sns (h + 2) t)), l5, l6] (ss_if_f c1' ss_nil (ss_if_f c2' ss_nil ?_))
    refine ss_own (st₁ := st) (vs := []) rfl sEs_nil (by first | decide | (simp; done)) ?_
    refine ss_for (st₁ := st) (st₂ := st) rfl (si_range1 (y := .int ((1 + fm (cell2 c.sns 5) 2 : Nat) : Int)) (k := 1 + fm (cell2 c.sns 5) 2) (btRange P (by decide +kernel)) (eAdd (eNat rfl) (eMod (by first | decide | (simp; done)) (sE_loc rfl rfl (by decide +kernel)) (eNat rfl))) rfl (by omega)) ev ?_
    refine ss_freeze (x := "groups") rfl rfl ?_
    have e : V.list ([] ++ (List.range (1 + fm (cell2 c.sns 5) 2)).map fun j => .list ((rowP (2 + fm (cell2 c.sns (6 + (0 + j))) 2) fun i => 1 + fm (cell2 c.sns (8 + 3 * (0 + j) + i)) 2).map fun m : Nat => V.int (m : Int))) = gsV (grpP c.sns (h + 2) t) := by
      rw [List.nil_append, gsV, grpP, List.map_map]
      congr 1
      apply List.map_congr_left
      intro j _
      rw [Nat.zero_add]; rfl
      · exact fun h => by omega
      · exact fun h => by omega
    rw [← e]
    exact ss_return (sE_loc rfl rfl (by decide +kernel))
end
end Mine

namespace Mine
open PySem PySem.W PySem.Calls PyProof.Rows
noncomputable section
def klt (m : Nat) : V → Bool
  | .key i => Nat.ble (i + 1) m
  | _ => false
def keq (m : Nat) (e : Bool) : V → Bool
  | .key i => Nat.beq i m && e
  | _ => false
def veqT (a b : V) : Bool := same 4 a b
def upto (f : Nat → Bool) : Nat → Bool
  | 0 => true
  | n + 1 => f n && upto f n
def T.ks : T → List V | .nd k _ _ => k
def T.vs : T → List V | .nd _ k _ => k
def T.cs : T → List T | .nd _ _ k => k
def gotP (tot m : Nat) (e : Bool) : V := bif e && Nat.ble (m + 1) tot then .val m else .none
def tr1 (tr : T) : T := .nd tr.ks (tr.vs ++ [.int 0]) tr.cs
def tr2 (tr : T) : T := .nd [] [] [.nd [] [] [tr]]
def tr3 (tot : Nat) (tr : T) : T := .nd (tr.ks ++ [.key tot]) (tr.vs ++ [.int 0]) tr.cs
def rgt (c : Cn) (t tot : Nat) : T := .nd ((List.range (t - 1)).map fun j : Nat => .int (c.kv tot + 1 + (j : Int))) (List.replicate (t - 1) (.int 0)) []
def tr4 (c : Cn) (t tot : Nat) (tr : T) : T := .nd [.key tot] [.int 0] [tr, rgt c t tot]
def run5 (p : Nat) : List V := runP.take p ++ [.tup [.key (p - 1), .int 0]] ++ runP.drop (p + 1)
def chkA (c : Cn) (h t : Nat) (gs : List (List Nat)) (tr : T) (tot : Nat) : Bool :=
  tr.deep 3 && (tr.law && (tr.kk && (tr.kn && (Nat.ble tr.size 1000 && (Nat.ble tot 17 && (Nat.beq (totS gs) (tot + 1) &&
  (veqT (.list tr.prs) (.list (runP.take tot)) && (veqT (.list (.int (t : Int) :: tr.flat)) (.list (.int (t : Int) :: tr.flat)) && (Nat.beq tr.cnt tot && (tr.shp t true && (tr.kok (V.lt c) .none .none && (ieq tr.lvl (h : Int) && Nat.beq tr.hgt h))))))))))))
def chkL (tr : T) (tot : Nat) : Bool :=
  upto (fun m => veqT (lookP (klt m) (keq m true) 3 tr) (gotP tot m true) && veqT (lookP (klt m) (keq m false) 3 tr) (gotP tot m false)) (tot + 1)
def chk3 (c : Cn) (h t : Nat) (tr : T) (tot : Nat) : Bool :=
  bif Nat.beq h 0 && Nat.ble (tr.ks.length + 2) (2 * t) then (tr3 tot tr).shp t true && ((tr3 tot tr).kok (V.lt c) .none .none && (ieq (tr3 tot tr).lvl 0 && (Nat.beq (tr3 tot tr).cnt (tot + 1) && (tr3 tot tr).kn))) else !(tr3 tot tr).shp t true
def chk4 (c : Cn) (h t : Nat) (tr : T) (tot : Nat) : Bool :=
  tr.kok (V.lt c) .none (.key tot) && (bif Nat.ble (tr.ks.length + 2) t then !(tr4 c t tot tr).shp t true else
    (tr4 c t tot tr).shp t true && (Nat.beq (tr4 c t tot tr).cnt (tot + t) && ieq (tr4 c t tot tr).lvl (bif Nat.beq h 0 then 1 else -1)))
def chk5 (c : Cn) (h t : Nat) (gs : List (List Nat)) (tot : Nat) : Bool :=
  upto (fun q => (fun r : T => r.deep 3 && (Nat.ble r.size 1000 && (r.kn && (r.shp t true && (Nat.beq r.cnt tot && (ieq r.lvl (h : Int) && Bool.casesOn (Nat.ble tot (q + 1)) (!r.kok (V.lt c) .none .none) (r.kok (V.lt c) .none .none))))))) (bpP (run5 (q + 1)) h gs)) (tot + 1)
def chk (c : Cn) (h t : Nat) (gs : List (List Nat)) : Bool :=
  (fun tr tot => chkA c h t gs tr tot && (chkL tr tot && (!(tr1 tr).shp t true && (!(tr2 tr).shp t true && (chk3 c h t tr tot && (chk4 c h t tr tot && chk5 c h t gs tot)))))) (bpP runP h gs) (totP gs)
end
def lists (lo n : Nat) : Nat → List (List Nat)
  | 0 => [[]]
  | k + 1 => (lists lo n k).flatMap fun l => (List.range n).map fun x => (lo + x) :: l
def one2 : List (List Nat) := lists 1 2 2 ++ lists 1 2 3
def shapes (h t : Nat) : List (List (List Nat)) := match h with
  | 0 => (List.range (2 * t)).map fun m => [[m]]
  | 1 => (List.range (6 - t)).flatMap fun k => (lists (t - 1) (t + 1) (k + 1)).map fun g => [g]
  | _ => one2.map (fun g => [g]) ++ one2.flatMap fun g => one2.map fun g' => [g, g']
theorem mem_lists (lo n : Nat) : ∀ (l : List Nat), (∀ x ∈ l, lo ≤ x ∧ x < lo + n) → l ∈ lists lo n l.length := by
  intro l
  induction l with
  | nil => intro _; exact .head _
  | cons a l ih =>
    intro h
    refine List.mem_flatMap.mpr ⟨l, ih fun x hx => h x (.tail _ hx), List.mem_map.mpr ⟨a - lo, ?_, ?_⟩⟩
    · have := h a (.head _); rw [List.mem_range]; omega
    · have := h a (.head _)
      show (lo + (a - lo)) :: l = a :: l
      congr 1; omega
theorem mem_row (lo n : Nat) (m : Nat) (f : Nat → Nat) (h : ∀ j, lo ≤ f j ∧ f j < lo + n) : rowP m f ∈ lists lo n m := by
  have e : (rowP m f).length = m := by unfold rowP; simp
  have := mem_lists lo n (rowP m f) (fun x hx => by
    unfold rowP at hx
    obtain ⟨j, _, rfl⟩ := List.mem_map.mp hx
    exact h j)
  rw [e] at this
  exact this
theorem mem_one (a : Nat) (f : Nat → Nat) (ha : a = 2 ∨ a = 3) (h : ∀ j, 1 ≤ f j ∧ f j < 1 + 2) : rowP a f ∈ one2 := by
  rcases ha with rfl | rfl
  · exact List.mem_append_left _ (mem_row 1 2 2 f h)
  · exact List.mem_append_right _ (mem_row 1 2 3 f h)
theorem grp_mem (ns : List Int) (h t : Nat) (hh : h ≤ 2) (ht : t = 2 ∨ t = 3) : grpP ns h t ∈ shapes h t := by
  have ht' : 2 ≤ t ∧ t ≤ 3 := by omega
  match h with
  | 0 => exact List.mem_map.mpr ⟨_, List.mem_range.mpr (fm_lt _ (by omega)), rfl⟩
  | 1 =>
    have hf := fm_lt (cell2 ns 5) (k := 6 - t) (by omega)
    refine List.mem_flatMap.mpr ⟨fm (cell2 ns 5) (6 - t), List.mem_range.mpr hf, List.mem_map.mpr ⟨_, ?_, rfl⟩⟩
    rw [Nat.add_comm (fm (cell2 ns 5) (6 - t)) 1]
    refine mem_row (t - 1) (t + 1) _ _ fun j => ?_
    have := fm_lt (cell2 ns (8 + j)) (k := t + 1) (by omega)
    omega
  | h + 2 =>
    have hf := fm_lt (cell2 ns 5) (k := 2) (by decide)
    have row : ∀ g, rowP (2 + fm (cell2 ns (6 + g)) 2) (fun j => 1 + fm (cell2 ns (8 + 3 * g + j)) 2) ∈ one2 := fun g => by
      have h1 := fm_lt (cell2 ns (6 + g)) (k := 2) (by decide)
      refine mem_one _ _ (by omega) fun j => ?_
      have := fm_lt (cell2 ns (8 + 3 * g + j)) (k := 2) (by decide)
      omega
    show (List.range (1 + fm (cell2 ns 5) 2)).map _ ∈ one2.map (fun g => [g]) ++ one2.flatMap fun g => one2.map fun g' => [g, g']
    have : fm (cell2 ns 5) 2 = 0 ∨ fm (cell2 ns 5) 2 = 1 := by omega
    rcases this with q | q
    · rw [q]
      exact List.mem_append_left _ (List.mem_map.mpr ⟨_, row 0, rfl⟩)
    · rw [q]
      exact List.mem_append_right _ (List.mem_flatMap.mpr ⟨_, row 0, List.mem_map.mpr ⟨_, row 1, rfl⟩⟩)
theorem grp_pos (ns : List Int) (h t : Nat) : (∀ g ∈ grpP ns h t, 0 < g.length) ∧ 0 < (grpP ns h t).length := by
  match h with
  | 0 =>
    refine ⟨fun g hg => ?_, Nat.one_pos⟩
    cases hg with
    | head => exact Nat.one_pos
    | tail _ q => cases q
  | 1 =>
    refine ⟨fun g hg => ?_, Nat.one_pos⟩
    cases hg with
    | head => show 0 < (rowP _ _).length; unfold rowP; rw [List.length_map, List.length_range]; omega
    | tail _ q => cases q
  | h + 2 =>
    refine ⟨fun g hg => ?_, ?_⟩
    · obtain ⟨j, _, rfl⟩ := List.mem_map.mp hg
      unfold rowP; rw [List.length_map, List.length_range]; omega
    · show 0 < ((List.range _).map _).length
      rw [List.length_map, List.length_range]; omega
theorem upto_at {f : Nat → Bool} : ∀ {n : Nat}, upto f n = true → ∀ m, m < n → f m = true
  | 0, _, m, h => by omega
  | n + 1, hu, m, h => by
    rw [upto, Bool.and_eq_true] at hu
    rcases Nat.lt_or_ge m n with q | q
    · exact upto_at hu.2 m q
    · have : m = n := by omega
      subst this; exact hu.1
end Mine

namespace Mine
open PySem PySem.W PySem.Calls PyProof.Rows
theorem all_step {α : Type} {f : α → Bool} {l : List α} (k n : Nat) (h1 : ((l.drop k).take n).all f = true) (h2 : (l.drop (k + n)).all f = true) : (l.drop k).all f = true := by
  have e : l.drop k = (l.drop k).take n ++ l.drop (k + n) := by rw [← List.drop_drop, List.take_append_drop]
  rw [e, List.all_append, h1, h2]; rfl
theorem q02_0 (c : Cn) : (((shapes 0 2).drop 0).take 12).all (chk c 0 2) = true := by kernel_rfl
theorem chk02 (c : Cn) : (shapes 0 2).all (chk c 0 2) = true := by
  have e : ((shapes 0 2).drop 12).all (chk c 0 2) = true := by kernel_rfl
  replace e := all_step 0 12 (q02_0 c) e
  exact e
theorem q03_0 (c : Cn) : (((shapes 0 3).drop 0).take 12).all (chk c 0 3) = true := by kernel_rfl
theorem chk03 (c : Cn) : (shapes 0 3).all (chk c 0 3) = true := by
  have e : ((shapes 0 3).drop 12).all (chk c 0 3) = true := by kernel_rfl
  replace e := all_step 0 12 (q03_0 c) e
  exact e
theorem q12_0 (c : Cn) : (((shapes 1 2).drop 0).take 12).all (chk c 1 2) = true := by kernel_rfl
theorem q12_12 (c : Cn) : (((shapes 1 2).drop 12).take 12).all (chk c 1 2) = true := by kernel_rfl
theorem q12_24 (c : Cn) : (((shapes 1 2).drop 24).take 12).all (chk c 1 2) = true := by kernel_rfl
theorem q12_36 (c : Cn) : (((shapes 1 2).drop 36).take 12).all (chk c 1 2) = true := by kernel_rfl
theorem q12_48 (c : Cn) : (((shapes 1 2).drop 48).take 12).all (chk c 1 2) = true := by kernel_rfl
theorem q12_60 (c : Cn) : (((shapes 1 2).drop 60).take 12).all (chk c 1 2) = true := by kernel_rfl
theorem q12_72 (c : Cn) : (((shapes 1 2).drop 72).take 12).all (chk c 1 2) = true := by kernel_rfl
theorem q12_84 (c : Cn) : (((shapes 1 2).drop 84).take 12).all (chk c 1 2) = true := by kernel_rfl
theorem q12_96 (c : Cn) : (((shapes 1 2).drop 96).take 12).all (chk c 1 2) = true := by kernel_rfl
theorem q12_108 (c : Cn) : (((shapes 1 2).drop 108).take 12).all (chk c 1 2) = true := by kernel_rfl
theorem chk12 (c : Cn) : (shapes 1 2).all (chk c 1 2) = true := by
  have e : ((shapes 1 2).drop 120).all (chk c 1 2) = true := by kernel_rfl
  replace e := all_step 108 12 (q12_108 c) e
  replace e := all_step 96 12 (q12_96 c) e
  replace e := all_step 84 12 (q12_84 c) e
  replace e := all_step 72 12 (q12_72 c) e
  replace e := all_step 60 12 (q12_60 c) e
  replace e := all_step 48 12 (q12_48 c) e
  replace e := all_step 36 12 (q12_36 c) e
  replace e := all_step 24 12 (q12_24 c) e
  replace e := all_step 12 12 (q12_12 c) e
  replace e := all_step 0 12 (q12_0 c) e
  exact e
theorem q13_0 (c : Cn) : (((shapes 1 3).drop 0).take 12).all (chk c 1 3) = true := by kernel_rfl
theorem q13_12 (c : Cn) : (((shapes 1 3).drop 12).take 12).all (chk c 1 3) = true := by kernel_rfl
theorem q13_24 (c : Cn) : (((shapes 1 3).drop 24).take 12).all (chk c 1 3) = true := by kernel_rfl
theorem q13_36 (c : Cn) : (((shapes 1 3).drop 36).take 12).all (chk c 1 3) = true := by kernel_rfl
theorem q13_48 (c : Cn) : (((shapes 1 3).drop 48).take 12).all (chk c 1 3) = true := by kernel_rfl
theorem q13_60 (c : Cn) : (((shapes 1 3).drop 60).take 12).all (chk c 1 3) = true := by kernel_rfl
theorem q13_72 (c : Cn) : (((shapes 1 3).drop 72).take 12).all (chk c 1 3) = true := by kernel_rfl
theorem chk13 (c : Cn) : (shapes 1 3).all (chk c 1 3) = true := by
  have e : ((shapes 1 3).drop 84).all (chk c 1 3) = true := by kernel_rfl
  replace e := all_step 72 12 (q13_72 c) e
  replace e := all_step 60 12 (q13_60 c) e
  replace e := all_step 48 12 (q13_48 c) e
  replace e := all_step 36 12 (q13_36 c) e
  replace e := all_step 24 12 (q13_24 c) e
  replace e := all_step 12 12 (q13_12 c) e
  replace e := all_step 0 12 (q13_0 c) e
  exact e
theorem q22_0 (c : Cn) : (((shapes 2 2).drop 0).take 12).all (chk c 2 2) = true := by kernel_rfl
theorem q22_12 (c : Cn) : (((shapes 2 2).drop 12).take 12).all (chk c 2 2) = true := by kernel_rfl
theorem q22_24 (c : Cn) : (((shapes 2 2).drop 24).take 12).all (chk c 2 2) = true := by kernel_rfl
theorem q22_36 (c : Cn) : (((shapes 2 2).drop 36).take 12).all (chk c 2 2) = true := by kernel_rfl
theorem q22_48 (c : Cn) : (((shapes 2 2).drop 48).take 12).all (chk c 2 2) = true := by kernel_rfl
theorem q22_60 (c : Cn) : (((shapes 2 2).drop 60).take 12).all (chk c 2 2) = true := by kernel_rfl
theorem q22_72 (c : Cn) : (((shapes 2 2).drop 72).take 12).all (chk c 2 2) = true := by kernel_rfl
theorem q22_84 (c : Cn) : (((shapes 2 2).drop 84).take 12).all (chk c 2 2) = true := by kernel_rfl
theorem q22_96 (c : Cn) : (((shapes 2 2).drop 96).take 12).all (chk c 2 2) = true := by kernel_rfl
theorem q22_108 (c : Cn) : (((shapes 2 2).drop 108).take 12).all (chk c 2 2) = true := by kernel_rfl
theorem q22_120 (c : Cn) : (((shapes 2 2).drop 120).take 12).all (chk c 2 2) = true := by kernel_rfl
theorem q22_132 (c : Cn) : (((shapes 2 2).drop 132).take 12).all (chk c 2 2) = true := by kernel_rfl
theorem q22_144 (c : Cn) : (((shapes 2 2).drop 144).take 12).all (chk c 2 2) = true := by kernel_rfl
theorem chk22 (c : Cn) : (shapes 2 2).all (chk c 2 2) = true := by
  have e : ((shapes 2 2).drop 156).all (chk c 2 2) = true := by kernel_rfl
  replace e := all_step 144 12 (q22_144 c) e
  replace e := all_step 132 12 (q22_132 c) e
  replace e := all_step 120 12 (q22_120 c) e
  replace e := all_step 108 12 (q22_108 c) e
  replace e := all_step 96 12 (q22_96 c) e
  replace e := all_step 84 12 (q22_84 c) e
  replace e := all_step 72 12 (q22_72 c) e
  replace e := all_step 60 12 (q22_60 c) e
  replace e := all_step 48 12 (q22_48 c) e
  replace e := all_step 36 12 (q22_36 c) e
  replace e := all_step 24 12 (q22_24 c) e
  replace e := all_step 12 12 (q22_12 c) e
  replace e := all_step 0 12 (q22_0 c) e
  exact e
theorem chk_all (c : Cn) (ns : List Int) (h t : Nat) (hh : h ≤ 2) (ht : t = 2 ∨ t = 3) (h2 : h = 2 → t = 2) : chk c h t (grpP ns h t) = true := by
  have hm := grp_mem ns h t hh ht
  have : h = 0 ∨ h = 1 ∨ h = 2 := by omega
  rcases this with rfl | rfl | rfl
  · rcases ht with rfl | rfl
    · exact List.all_eq_true.mp (chk02 c) _ hm
    · exact List.all_eq_true.mp (chk03 c) _ hm
  · rcases ht with rfl | rfl
    · exact List.all_eq_true.mp (chk12 c) _ hm
    · exact List.all_eq_true.mp (chk13 c) _ hm
  · cases h2 rfl
    exact List.all_eq_true.mp (chk22 c) _ hm
end Mine

namespace Mine
open PySem PySem.W PySem.Calls PyProof.Rows
structure Fx (c : Cn) (h t : Nat) (gs : List (List Nat)) (tr : T) (tot : Nat) : Prop where
  deep : tr.deep 3 = true
  law : tr.law = true
  kk : tr.kk = true
  kn : tr.kn = true
  size : tr.size ≤ 1000
  tle : tot ≤ 17
  tsum : totS gs = tot + 1
  prs : veqT (.list tr.prs) (.list (runP.take tot)) = true
  flat : veqT (.list (.int (t : Int) :: tr.flat)) (.list (.int (t : Int) :: tr.flat)) = true
  cnt : tr.cnt = tot
  shp : tr.shp t true = true
  kok : tr.kok (V.lt c) .none .none = true
  lvl : tr.lvl = (h : Int)
  hgt : tr.hgt = h
  look : ∀ m, m ≤ tot → ∀ e, veqT (lookP (klt m) (keq m e) 3 tr) (gotP tot m e) = true
  s1 : (tr1 tr).shp t true = false
  s2 : (tr2 tr).shp t true = false
  c3 : chk3 c h t tr tot = true
  c4 : chk4 c h t tr tot = true
  c5 : chk5 c h t gs tot = true
theorem ieq_of {a b : Int} (h : ieq a b = true) : a = b := by rw [ieq_eq] at h; exact eq_of_beq h
theorem not_of {b : Bool} (h : (!b) = true) : b = false := by cases b <;> first | rfl | cases h
theorem fx_of {c : Cn} {h t : Nat} {gs : List (List Nat)} (q : chk c h t gs = true) : Fx c h t gs (bpP runP h gs) (totP gs) := by
  have q' : (chkA c h t gs (bpP runP h gs) (totP gs) && (chkL (bpP runP h gs) (totP gs) && (!(tr1 (bpP runP h gs)).shp t true && (!(tr2 (bpP runP h gs)).shp t true && (chk3 c h t (bpP runP h gs) (totP gs) && (chk4 c h t (bpP runP h gs) (totP gs) && chk5 c h t gs (totP gs))))))) = true := q
  generalize bpP runP h gs = tr at q' ⊢
  generalize totP gs = tot at q' ⊢
  unfold chkA chkL at q'
  simp only [Bool.and_eq_true] at q'
  obtain ⟨⟨a1, a2, a3, a4, a5, a6, a7, a8, a9, a10, a11, a12, a13, a14⟩, b, d1, d2, d3, d4, d5⟩ := q'
  refine ⟨a1, a2, a3, a4, Nat.le_of_ble_eq_true a5, Nat.le_of_ble_eq_true a6, Nat.eq_of_beq_eq_true a7, a8, a9, Nat.eq_of_beq_eq_true a10, a11, a12, ieq_of a13, Nat.eq_of_beq_eq_true a14, fun m hm e => ?_, not_of d1, not_of d2, d3, d4, d5⟩
  have := upto_at b m (by omega)
  rw [Bool.and_eq_true] at this
  cases e
  · exact this.2
  · exact this.1
/-- what the spoilt tree is asked -/
structure Vd (c : Cn) (t : Nat) (tr : T) (size wrong : Int) : Prop where
  sz : tr.size ≤ 50000
  ck : chkP c t size tr = (wrong == 0)
  sh : tr.shp t true = (wrong != 1)
  kn : tr.shp t true = true → tr.kn = true
  ky : wrong ≠ 1 → tr.kok (V.lt c) .none .none = (wrong != 2)
  lv : wrong = 3 → tr.lvl = -1
theorem runP_eq : runP = (List.range 18).map fun j => V.tup [.key j, .val j] := rfl
theorem runP_get {i : Nat} (h : i < 18) : runP[i]? = some (.tup [.key i, .val i]) := by
  rw [runP_eq, List.getElem?_map, List.getElem?_range h]; rfl
theorem runP_len : runP.length = 18 := rfl
theorem runP_pair : ∀ p ∈ runP, p.pair := by
  intro p hp
  rw [runP_eq] at hp
  obtain ⟨j, _, rfl⟩ := List.mem_map.mp hp
  exact ⟨_, _, rfl⟩
theorem T.eta (tr : T) : tr = .nd tr.ks tr.vs tr.cs := by cases tr; rfl
theorem chkP_of {c : Cn} {t : Nat} {tr : T} {size : Int} {lv : Int} (h1 : tr.shp t true = true) (h2 : tr.kok (V.lt c) .none .none = true) (h3 : tr.lvl = lv) (h4 : 0 ≤ lv) (h5 : (tr.cnt : Int) = size) : chkP c t size tr = true := by
  unfold chkP
  rw [h1, h2, h3, h5, decide_eq_false (by omega)]; simp
theorem chkP_shp {c : Cn} {t : Nat} {tr : T} {size : Int} (h1 : tr.shp t true = false) : chkP c t size tr = false := by
  unfold chkP; rw [h1]; rfl
theorem vd_bad {c : Cn} {t : Nat} {tr : T} {size : Int} (hz : tr.size ≤ 50000) (h1 : tr.shp t true = false) : Vd c t tr size 1 :=
  ⟨hz, chkP_shp h1, h1, fun q => (by rw [h1] at q; cases q), fun q => absurd rfl q, fun q => by cases q⟩
section
variable {c : Cn} {nm nm' : Nm} {n : Nat} {loc loc₁ loc₂ : List LV} {st st₁ st₂ : List Inst} {fl : Fl}
theorem ss_unpack {is : List (Nat × Str × Ps)} {k : Nat} {q p : Ps} {e : E} {vs : List V} {rest : List S} (hn : ∀ y ∈ is, nm.ns[y.1]? = some y.2.1) (he : SE c nm n e loc st (.tup vs) st₁) (hlen : vs.length = is.length) (hc : e.nocomp = true) (ht : ∀ es k p, e ≠ .tup es k p) (hr : SS c nm n rest (setMany (is.map (·.1)) vs loc) st₁ fl loc₂ st₂) : SS c nm n (.unpack is k q e p :: rest) loc st fl loc₂ st₂ :=
  ss_cons (x := .unpack is k q e p) rfl (sx_unpack hn he hlen hc ht) hr
theorem eBuild (P : PgOk c pg2) (gl : ("_law_build" : Str) ∈ nm.gs) {e : E} {p q : Ps} {tr : T} (h1 : SE c nm (n + 3) e loc st tr.v st) (hd : tr.deep 3 = true) (hz : tr.size ≤ 50000) : ∃ r ext, SE c nm (n + 3) (.call (.fn 5) "_law_build" q [e] p) loc st (.obj r) (st ++ ext) ∧ Rep (st ++ ext) r tr := by
  obtain ⟨r, ext, h, hr⟩ := build_code (c := c) (st := st) P n tr hd hz
  exact ⟨r, ext, sE_call (fn_ok P (k := 5) rfl gl) (sEs_cons h1 sEs_nil) h.call, hr⟩
theorem eNode (P : PgOk c pg2) (gl : ("Node" : Str) ∈ nm.gs) {es : List E} {p q : Ps} {a b d : V} (h : SEs c nm (n + 2) es loc st [a, b, d] st₁) : SE c nm (n + 2) (.call (.cls 0) "Node" q es p) loc st (.obj st₁.length) (st₁ ++ [⟨0, [a, b, d]⟩]) :=
  sE_new (clsOk P rfl gl) h (node_new P n a b d).call
theorem spoilt_code (P : PgOk c pg2) (hl : c.sns.length ≤ 63) (n : Nat) {h t tot : Nat} {gs : List (List Nat)} {tr : T} (F : Fx c h t gs tr tot) (ht : 2 ≤ t ∧ t ≤ 3) (hg : ∀ g ∈ gs, 0 < g.length) (h0 : 0 < gs.length) :
    ∃ r ext tr' size wrong, SCode c (n + 5) (addr2 8) [.scr, .int (t : Int), .list runP, .int (h : Int), gsV gs, tr.v, .int (tot : Int)] st (.tup [.obj r, .int size, .int wrong]) (st ++ ext) ∧ Rep (st ++ ext) r tr' ∧ Vd c t tr' size wrong := by
  have htr := tr.eta
  generalize hks : tr.ks = ks at htr
  generalize hvs : tr.vs = vs at htr
  generalize hcs : tr.cs = cs at htr
  have hsz : 1 + ks.length + vs.length + Ts.size cs ≤ 1000 := by have := F.size; rw [htr] at this; simpa [T.size] using this
  have htv : tr.v = .tup [.tup ks, .tup vs, .tup (Ts.v cs)] := by rw [htr, T.v]
  have hd : ∀ a b, (T.nd a b cs).deep 3 = true := fun a b => by have := F.deep; rw [htr] at this; exact this
  have htot := F.tle
  have hk := fm_lt (cell2 c.sns 3) (k := 6) (by first | decide | (simp; done))
  generalize hkd : fm (cell2 c.sns 3) 6 = kd at hk
  generalize hL : [LV.v .scr, .v (.int (t : Int)), .v (.list runP), .v (.int (h : Int)), .v (gsV gs), .v tr.v, .v (.int (tot : Int)), .v (.int (kd : Int)), .v (.int (cell2 c.sns 4)), .v (.tup ks), .v (.tup vs), .v (.tup (Ts.v cs)), .v (.key tot), .unset, .unset, .unset, .unset, .unset] = L
  have go : ∀ v loc' st', SS c nm8 (n + 4) (b8.drop 4) L st (.ret v) loc' st' → SCode c (n + 5) (addr2 8) [.scr, .int (t : Int), .list runP, .int (h : Int), gsV gs, tr.v, .int (tot : Int)] st v st' := by
    intro v loc' st' hh
    refine fn_code (loc := loc') P (k := 8) (nm := nm8) (body := b8) (pad := [.unset, .unset, .unset, .unset, .unset, .unset, .unset, .unset, .unset, .unset, .unset]) (np := 7) (fl := .ret v) rfl rfl ?_ (.ret _)
    refine ss_assign (st₁ := st) (v := .int (kd : Int)) rfl (by rw [← hkd]; exact eMod (by first | decide | (simp; done)) (eCell P hl (by decide +kernel) (sE_loc rfl rfl (by decide +kernel)) (eNat (k := 3) rfl)) (eNat rfl)) rfl ?_
    refine ss_assign (st₁ := st) (v := .int (cell2 c.sns 4)) rfl (eCell P hl (by decide +kernel) (sE_loc rfl rfl (by decide +kernel)) (eNat (k := 4) rfl)) rfl ?_
    refine ss_unpack (st₁ := st) (vs := [.tup ks, .tup vs, .tup (Ts.v cs)]) ?_ (by rw [← htv]; exact (sE_loc rfl rfl (by decide +kernel))) rfl rfl (fun _ _ _ q => by cases q) ?_
    · intro y hy
      cases hy with
      | head => rfl
      | tail _ hy =>
        cases hy with
        | head => rfl
        | tail _ hy =>
          cases hy with
          | head => rfl
          | tail _ hy => cases hy
    refine ss_assign (st₁ := st) (v := .key tot) rfl (sE_idxT (k := 0) (xs := [.key tot, .val tot]) (y := .int 0) (sE_idx (k := tot) (y := .int (tot : Int)) (sE_loc rfl rfl (by decide +kernel)) (sE_loc rfl rfl (by decide +kernel)) rfl (runP_get (by omega)) (by first | decide | (simp; done))) sE_int rfl rfl (by first | decide | (simp; done))) rfl ?_
    rw [← hL] at hh
    exact hh
  have cK : ∀ (k : Nat) {p q r : Ps}, SC c nm8 (n + 4) (.cmp .eq (.loc 7 "kind" p) (.int (k : Int) q) r) L st ((kd : Int) == (k : Int)) st := fun k {p q r} => by subst hL; exact sC_cmp (sE_loc rfl rfl (by decide +kernel)) sE_int (cmp_eqi rfl rfl)
  have no : ∀ (k : Nat), kd ≠ k → ∀ {p q r : Ps}, SC c nm8 (n + 4) (.cmp .eq (.loc 7 "kind" p) (.int (k : Int) q) r) L st false st := fun k hne {p q r} => sc_eq (cK k) (by rw [beq_eq_false_iff_ne]; omega)
  have yes : ∀ (k : Nat), kd = k → ∀ {p q r : Ps}, SC c nm8 (n + 4) (.cmp .eq (.loc 7 "kind" p) (.int (k : Int) q) r) L st true st := fun k he {p q r} => sc_eq (cK k) (by rw [he]; simp)
  have cases6 : kd = 0 ∨ kd = 1 ∨ kd = 2 ∨ kd = 3 ∨ kd = 4 ∨ kd = 5 := by omega
  rcases cases6 with q | q | q | q | q | q
  · -- the size alone
    have hfm := fm_lt (cell2 c.sns 4) (k := tot + 2) (by omega)
    generalize hs : fm (cell2 c.sns 4) (tot + 2) = sz at hfm
    have c1 : SC c nm8 (n + 4) (sAt (sAt b8 4).bd 1).cd (L.set 13 (.v (.int (sz : Int)))) st ((sz : Int) == (tot : Int)) st := by subst hL; exact sC_cmp (sE_loc rfl rfl (by decide +kernel)) (sE_loc rfl rfl (by decide +kernel)) (cmp_eqi rfl rfl)
    have a1 : SE c nm8 (n + 4) (.bin .mod (.loc 8 "place" ⟨277, 15, 277, 20⟩) (.bin .add (.loc 6 "total" ⟨277, 24, 277, 29⟩) (.int 2 ⟨277, 32, 277, 33⟩) ⟨277, 24, 277, 33⟩) ⟨277, 15, 277, 34⟩) L st (.int (sz : Int)) st := by
      subst hL; rw [← hs]; exact eMod (k := tot + 2) (by omega) (sE_loc rfl rfl (by decide +kernel)) (eAdd (sE_loc rfl rfl (by decide +kernel)) (eNat rfl))
    by_cases hst : sz = tot
    · obtain ⟨r, ext, hb, hr⟩ := eBuild (c := c) (nm := nm8) (n := n + 1) (loc := L.set 13 (.v (.int (sz : Int)))) (st := st) P (by decide +kernel) (e := .loc 5 "tree" ⟨279, 31, 279, 35⟩) (q := ⟨279, 20, 279, 30⟩) (p := ⟨279, 20, 279, 36⟩) (tr := tr) (by subst hL; exact (sE_loc rfl rfl (by decide +kernel))) F.deep (by have := F.size; omega)
      refine ⟨r, ext, tr, (sz : Int), 0, go _ _ _ (ss_if_tr (yes 0 q) (ss_assign (st₁ := st) rfl a1 rfl (ss_if_tr (sc_eq c1 (b' := true) (by rw [hst]; simp)) (ss_return (sE_tup (sEs_cons hb (sEs_cons ?_ (sEs_cons sE_int sEs_nil))) (by first | decide | (simp; done))))))), hr, ?_⟩
      · subst hL; exact (sE_loc rfl rfl (by decide +kernel))
      · refine ⟨by have := F.size; omega, ?_, F.shp, fun _ => F.kn, fun _ => F.kok, fun q => by cases q⟩
        exact chkP_of F.shp F.kok F.lvl (by omega) (by rw [F.cnt, hst])
    · obtain ⟨r, ext, hb, hr⟩ := eBuild (c := c) (nm := nm8) (n := n + 1) (loc := L.set 13 (.v (.int (sz : Int)))) (st := st) P (by decide +kernel) (e := .loc 5 "tree" ⟨280, 27, 280, 31⟩) (q := ⟨280, 16, 280, 26⟩) (p := ⟨280, 16, 280, 32⟩) (tr := tr) (by subst hL; exact (sE_loc rfl rfl (by decide +kernel))) F.deep (by have := F.size; omega)
      refine ⟨r, ext, tr, (sz : Int), 4, go _ _ _ (ss_if_tr (yes 0 q) (ss_assign (st₁ := st) rfl a1 rfl (ss_if_f (sc_eq c1 (b' := false) (by rw [beq_eq_false_iff_ne]; omega)) ss_nil (ss_return (sE_tup (sEs_cons hb (sEs_cons ?_ (sEs_cons sE_int sEs_nil))) (by first | decide | (simp; done))))))), hr, ?_⟩
      · subst hL; exact (sE_loc rfl rfl (by decide +kernel))
      · refine ⟨by have := F.size; omega, ?_, F.shp, fun _ => F.kn, fun _ => F.kok, fun q => by cases q⟩
        unfold chkP
        have : ((tr.cnt : Int) == (sz : Int)) = false := by rw [F.cnt, beq_eq_false_iff_ne]; omega
        rw [this]; simp
  · -- a value too many
    have hv : SE c nm8 (n + 4) (.tup [(.loc 9 "keys" ⟨282, 28, 282, 32⟩), (.bin .add (.loc 10 "values" ⟨282, 34, 282, 40⟩) (.tup [(.int 0 ⟨282, 44, 282, 45⟩)] 0 ⟨282, 43, 282, 47⟩) ⟨282, 34, 282, 47⟩), (.loc 11 "kids" ⟨282, 49, 282, 53⟩)] 0 ⟨282, 27, 282, 54⟩) L st (T.nd ks (vs ++ [.int 0]) cs).v st := by
      subst hL; rw [T.v]
      exact sE_tup (sEs_cons (sE_loc rfl rfl (by decide +kernel)) (sEs_cons (sE_bin (sE_loc rfl rfl (by decide +kernel)) (sE_tup (sEs_cons sE_int sEs_nil) (by first | decide | (simp; done))) (bin_catT (by simp; omega))) (sEs_cons (sE_loc rfl rfl (by decide +kernel)) sEs_nil))) (by first | decide | (simp; done))
    obtain ⟨r, ext, hb, hr⟩ := eBuild (n := n + 1) P (by decide +kernel) (q := ⟨282, 16, 282, 26⟩) (p := ⟨282, 16, 282, 55⟩) hv (hd _ _) (by simp [T.size]; omega)
    refine ⟨r, ext, _, (tot : Int), 1, go _ _ _ (ss_if_f (no 0 (by omega)) ss_nil (ss_if_tr (yes 1 q) (ss_return (sE_tup (sEs_cons hb (sEs_cons ?_ (sEs_cons sE_int sEs_nil))) (by first | decide | (simp; done)))))), hr, ?_⟩
    · subst hL; exact (sE_loc rfl rfl (by decide +kernel))
    · refine vd_bad (by simp [T.size]; omega) ?_
      have := F.s1; unfold tr1 at this; rw [hks, hvs, hcs] at this; exact this
  · -- two keyless nodes above
    obtain ⟨r, ext, hb, hr⟩ := eBuild (c := c) (nm := nm8) (n := n + 1) (loc := L) (st := st) P (by decide +kernel) (e := .loc 5 "tree" ⟨284, 55, 284, 59⟩) (q := ⟨284, 44, 284, 54⟩) (p := ⟨284, 44, 284, 60⟩) (tr := tr) (by subst hL; exact (sE_loc rfl rfl (by decide +kernel))) F.deep (by have := F.size; omega)
    have i1 := eNode (n := n + 2) (nm := nm8) (loc := L) P (by decide +kernel) (q := ⟨284, 30, 284, 34⟩) (p := ⟨284, 30, 284, 62⟩) (es := [(.list [] ⟨284, 35, 284, 37⟩), (.list [] ⟨284, 39, 284, 41⟩), (.list [(.call (.fn 5) "_law_build" ⟨284, 44, 284, 54⟩ [(.loc 5 "tree" ⟨284, 55, 284, 59⟩)] ⟨284, 44, 284, 60⟩)] ⟨284, 43, 284, 61⟩)]) (st := st) (st₁ := st ++ ext) (sEs_cons (sE_list sEs_nil (by first | decide | (simp; done))) (sEs_cons (sE_list sEs_nil (by first | decide | (simp; done))) (sEs_cons (sE_list (sEs_cons hb sEs_nil) (by first | decide | (simp; done))) sEs_nil)))
    have i2 := eNode (n := n + 2) (nm := nm8) (loc := L) P (by decide +kernel) (q := ⟨284, 16, 284, 20⟩) (p := ⟨284, 16, 284, 64⟩) (es := [(.list [] ⟨284, 21, 284, 23⟩), (.list [] ⟨284, 25, 284, 27⟩), (.list [(.call (.cls 0) "Node" ⟨284, 30, 284, 34⟩ [(.list [] ⟨284, 35, 284, 37⟩), (.list [] ⟨284, 39, 284, 41⟩), (.list [(.call (.fn 5) "_law_build" ⟨284, 44, 284, 54⟩ [(.loc 5 "tree" ⟨284, 55, 284, 59⟩)] ⟨284, 44, 284, 60⟩)] ⟨284, 43, 284, 61⟩)] ⟨284, 30, 284, 62⟩)] ⟨284, 29, 284, 63⟩)]) (st := st) (sEs_cons (sE_list sEs_nil (by first | decide | (simp; done))) (sEs_cons (sE_list sEs_nil (by first | decide | (simp; done))) (sEs_cons (sE_list (sEs_cons i1 sEs_nil) (by first | decide | (simp; done))) sEs_nil)))
    refine ⟨(st ++ ext ++ [(⟨0, [.list [], .list [], .list [.obj r]]⟩ : Inst)]).length, ext ++ [(⟨0, [.list [], .list [], .list [.obj r]]⟩ : Inst), (⟨0, [.list [], .list [], .list [.obj (st ++ ext).length]]⟩ : Inst)], tr2 tr, (tot : Int), 1, go _ _ _ (ss_if_f (no 0 (by omega)) ss_nil (ss_if_f (no 1 (by omega)) ss_nil (ss_if_tr (yes 2 q) (ss_return (sE_tup (sEs_cons (v := .obj (st ++ ext ++ [(⟨0, [.list [], .list [], .list [.obj r]]⟩ : Inst)]).length) (st₁ := st ++ (ext ++ [(⟨0, [.list [], .list [], .list [.obj r]]⟩ : Inst), (⟨0, [.list [], .list [], .list [.obj (st ++ ext).length]]⟩ : Inst)])) ?_ (sEs_cons ?_ (sEs_cons sE_int sEs_nil))) (by first | decide | (simp; done))))))), ?_, ?_⟩
    · have e : st ++ (ext ++ [⟨0, [.list [], .list [], .list [.obj r]]⟩, ⟨0, [.list [], .list [], .list [.obj (st ++ ext).length]]⟩]) = st ++ ext ++ [⟨0, [.list [], .list [], .list [.obj r]]⟩] ++ [(⟨0, [.list [], .list [], .list [.obj (st ++ ext).length]]⟩ : Inst)] := by simp
      rw [e]; exact i2
    · subst hL; exact (sE_loc rfl rfl (by decide +kernel))
    · have e : st ++ (ext ++ [⟨0, [.list [], .list [], .list [.obj r]]⟩, ⟨0, [.list [], .list [], .list [.obj (st ++ ext).length]]⟩]) = st ++ ext ++ [⟨0, [.list [], .list [], .list [.obj r]]⟩] ++ [(⟨0, [.list [], .list [], .list [.obj (st ++ ext).length]]⟩ : Inst)] := by simp
      rw [e]
      refine .nd (kids := [((st ++ ext).length, .nd [] [] [tr])]) (get_last ..) fun x hx => ?_
      cases hx with
      | tail _ z => cases z
      | head =>
        refine pre_rep (.nd (kids := [(r, tr)]) (get_last ..) fun x hx => ?_)
        cases hx with
        | tail _ z => cases z
        | head => exact pre_rep hr
    · refine vd_bad (by have := F.size; simp [tr2, T.size, Ts.size]; omega) F.s2
  · -- a key too many
    have hv : SE c nm8 (n + 4) (.tup [(.bin .add (.loc 9 "keys" ⟨286, 27, 286, 31⟩) (.tup [(.loc 12 "far" ⟨286, 35, 286, 38⟩)] 0 ⟨286, 34, 286, 40⟩) ⟨286, 27, 286, 40⟩), (.bin .add (.loc 10 "values" ⟨286, 42, 286, 48⟩) (.tup [(.int 0 ⟨286, 52, 286, 53⟩)] 0 ⟨286, 51, 286, 55⟩) ⟨286, 42, 286, 55⟩), (.loc 11 "kids" ⟨286, 57, 286, 61⟩)] 0 ⟨286, 26, 286, 62⟩) L st (T.nd (ks ++ [.key tot]) (vs ++ [.int 0]) cs).v st := by
      subst hL; rw [T.v]
      exact sE_tup (sEs_cons (sE_bin (sE_loc rfl rfl (by decide +kernel)) (sE_tup (sEs_cons (sE_loc rfl rfl (by decide +kernel)) sEs_nil) (by first | decide | (simp; done))) (bin_catT (by simp; omega))) (sEs_cons (sE_bin (sE_loc rfl rfl (by decide +kernel)) (sE_tup (sEs_cons sE_int sEs_nil) (by first | decide | (simp; done))) (bin_catT (by simp; omega))) (sEs_cons (sE_loc rfl rfl (by decide +kernel)) sEs_nil))) (by first | decide | (simp; done))
    have h3 := F.c3
    unfold chk3 tr3 at h3
    rw [hks, hvs, hcs] at h3
    obtain ⟨r, ext, hb, hr⟩ := eBuild (n := n + 1) P (by decide +kernel) (q := ⟨286, 15, 286, 25⟩) (p := ⟨286, 15, 286, 63⟩) hv (hd _ _) (by simp [T.size]; omega)
    have cc : SC c nm8 (n + 4) (sAt (sAt b8 7).bd 1).cd (L.set 14 (.v (.obj r))) (st ++ ext) (Nat.beq h 0 && Nat.ble (ks.length + 2) (2 * t)) (st ++ ext) := by
      subst hL
      refine sc_and2 (sc_eq (sC_cmp (sE_loc rfl rfl (by decide +kernel)) sE_int (cmp_eqi rfl rfl)) ?_) fun _ => sc_eq (sC_cmp (sE_bin (eLenT P (by decide +kernel) (sE_loc rfl rfl (by decide +kernel)) (by omega)) sE_int (bin_add rfl rfl)) (sE_bin sE_int (sE_loc rfl rfl (by decide +kernel)) (bin_mul rfl rfl (.of_left (intBits_le_64 (by first | decide | (simp; done)) (by first | decide | (simp; done)))))) (cmp_lt rfl rfl)) ?_
      · rw [Bool.eq_iff_iff, Nat.beq_eq, beq_iff_eq]; omega
      · rw [Bool.eq_iff_iff, Nat.ble_eq, decide_eq_true_eq]; omega
    have szl : SE c nm8 (n + 4) (.bin .add (.loc 6 "total" ⟨288, 26, 288, 31⟩) (.int 1 ⟨288, 34, 288, 35⟩) ⟨288, 26, 288, 35⟩) (L.set 14 (.v (.obj r))) (st ++ ext) (.int ((tot + 1 : Nat) : Int)) (st ++ ext) := by subst hL; exact eAdd (sE_loc rfl rfl (by decide +kernel)) (eNat rfl)
    have szl' : SE c nm8 (n + 4) (.bin .add (.loc 6 "total" ⟨289, 22, 289, 27⟩) (.int 1 ⟨289, 30, 289, 31⟩) ⟨289, 22, 289, 31⟩) (L.set 14 (.v (.obj r))) (st ++ ext) (.int ((tot + 1 : Nat) : Int)) (st ++ ext) := by subst hL; exact eAdd (sE_loc rfl rfl (by decide +kernel)) (eNat rfl)
    have rt : ∀ {p : Ps}, SE c nm8 (n + 4) (.loc 14 "root" p) (L.set 14 (.v (.obj r))) (st ++ ext) (.obj r) (st ++ ext) := by subst hL; exact (sE_loc rfl rfl (by decide +kernel))
    cases hb3 : (Nat.beq h 0 && Nat.ble (ks.length + 2) (2 * t)) with
    | true =>
      rw [hb3] at cc h3
      rw [cond_true] at h3
      simp only [Bool.and_eq_true] at h3
      obtain ⟨g1, g2, g3, g4, g5⟩ := h3
      exact ⟨r, ext, _, ((tot + 1 : Nat) : Int), 0, go _ _ _ (ss_if_f (no 0 (by omega)) ss_nil (ss_if_f (no 1 (by omega)) ss_nil (ss_if_f (no 2 (by omega)) ss_nil (ss_if_tr (yes 3 q) (ss_assign rfl hb rfl (ss_if_tr cc (ss_return (sE_tup (sEs_cons rt (sEs_cons szl (sEs_cons sE_int sEs_nil))) (by first | decide | (simp; done)))))))))), hr,
        ⟨by simp [T.size]; omega, chkP_of g1 g2 (ieq_of g3) (by omega) (by rw [Nat.eq_of_beq_eq_true g4]), g1, fun _ => g5, fun _ => g2, fun q => by cases q⟩⟩
    | false =>
      rw [hb3] at cc h3
      rw [cond_false] at h3
      exact ⟨r, ext, _, ((tot + 1 : Nat) : Int), 1, go _ _ _ (ss_if_f (no 0 (by omega)) ss_nil (ss_if_f (no 1 (by omega)) ss_nil (ss_if_f (no 2 (by omega)) ss_nil (ss_if_tr (yes 3 q) (ss_assign rfl hb rfl (ss_if_f cc ss_nil (ss_return (sE_tup (sEs_cons rt (sEs_cons szl' (sEs_cons sE_int sEs_nil))) (by first | decide | (simp; done)))))))))), hr,
        vd_bad (by simp [T.size]; omega) (not_of h3)⟩
  · -- a leaf beside
    generalize hR : ((List.range (t - 1)).map fun j : Nat => V.int (c.kv tot + 1 + (j : Int))) = R
    have hRl : R.length = t - 1 := by rw [← hR]; simp
    have hcomp : SE c nm8 (n + 4) (match sAt (sAt b8 8).bd 0 with | .assign _ _ _ (.call _ _ _ (e :: _) _) _ => e | _ => .none ⟨0, 0, 0, 0⟩) L st (.list R) st := by
      have e : R = (rng 0 1 (t - 1)).map fun y => match y with | .int j => V.int (c.kv tot + 1 + j) | v => v := by
        rw [← hR, rng0, List.map_map]
        apply List.map_congr_left
        intro j _
        show V.int _ = V.int (c.kv tot + 1 + ((0 + j : Nat) : Int))
        rw [Nat.zero_add]
      rw [e]
      subst hL
      refine sE_comp (st₁ := st) (okComp_ok (by decide +kernel)) ?_ (si_range1 (y := .int ((t - 1 : Nat) : Int)) (k := t - 1) (btRange P (by decide +kernel)) (se_eq (sE_bin (sE_loc rfl rfl (by decide +kernel)) sE_int (bin_sub rfl rfl)) (by show V.int _ = V.int _; congr 1; omega)) rfl (by omega)) (cev_map _ _ fun x hx => ?_)
      · intro j hj
        rcases List.mem_cons.mp hj with rfl | hj
        · exact ⟨_, rfl⟩
        · cases hj
      · rw [rng0] at hx
        obtain ⟨j, hj, rfl⟩ := List.mem_map.mp hx
        exact sE_bin (sE_bin (sE_loc rfl rfl (by decide +kernel)) sE_int (bin_add (i := c.kv tot) rfl rfl)) (sE_loc rfl rfl (by decide +kernel)) (bin_add rfl rfl)
    have hzero : SE c nm8 (n + 4) (.bin .mul (.list [(.int 0 ⟨291, 59, 291, 60⟩)] ⟨291, 58, 291, 61⟩) (.bin .sub (.loc 1 "t" ⟨291, 65, 291, 66⟩) (.int 1 ⟨291, 69, 291, 70⟩) ⟨291, 65, 291, 70⟩) ⟨291, 58, 291, 71⟩) L st (.list (List.replicate (t - 1) (.int 0))) st := by
      subst hL
      refine se_eq (sE_bin (x := .list [.int 0]) (y := .int ((t - 1 : Nat) : Int)) (sE_list (sEs_cons sE_int sEs_nil) (by first | decide | (simp; done))) (se_eq (sE_bin (sE_loc rfl rfl (by decide +kernel)) sE_int (bin_sub rfl rfl)) (by show V.int _ = V.int _; congr 1; omega)) (bin_rep (k := t - 1) rfl (by simp; omega) (by omega))) ?_
      rw [List.flatten_replicate_singleton]
    have hright := eNode (n := n + 2) (nm := nm8) (loc := L) P (by decide +kernel) (q := ⟨291, 16, 291, 20⟩) (p := ⟨291, 16, 291, 76⟩) (st := st) (st₁ := st) (sEs_cons hcomp (sEs_cons hzero (sEs_cons (sE_list (p := ⟨291, 73, 291, 75⟩) sEs_nil (by first | decide | (simp; done))) sEs_nil)))
    generalize hst1 : st ++ [(⟨0, [.list R, .list (List.replicate (t - 1) (.int 0)), .list []]⟩ : Inst)] = st1 at hright
    obtain ⟨r, ext, hb, hr⟩ := eBuild (c := c) (nm := nm8) (n := n + 1) (loc := L.set 15 (.v (.obj st.length))) (st := st1) P (by decide +kernel) (e := .loc 5 "tree" ⟨292, 44, 292, 48⟩) (q := ⟨292, 33, 292, 43⟩) (p := ⟨292, 33, 292, 49⟩) (tr := tr) (by subst hL; exact (sE_loc rfl rfl (by decide +kernel))) F.deep (by have := F.size; omega)
    have hroot := eNode (n := n + 2) (nm := nm8) (loc := L.set 15 (.v (.obj st.length))) P (by decide +kernel) (q := ⟨292, 15, 292, 19⟩) (p := ⟨292, 15, 292, 58⟩) (es := [(.list [(.loc 12 "far" ⟨292, 21, 292, 24⟩)] ⟨292, 20, 292, 25⟩), (.list [(.int 0 ⟨292, 28, 292, 29⟩)] ⟨292, 27, 292, 30⟩), (.list [(.call (.fn 5) "_law_build" ⟨292, 33, 292, 43⟩ [(.loc 5 "tree" ⟨292, 44, 292, 48⟩)] ⟨292, 33, 292, 49⟩), (.loc 15 "right" ⟨292, 51, 292, 56⟩)] ⟨292, 32, 292, 57⟩)]) (st := st1) (st₁ := st1 ++ ext) (a := .list [.key tot]) (b := .list [.int 0]) (d := .list [.obj r, .obj st.length])
      (sEs_cons (st₁ := st1) (sE_list (st₁ := st1) (sEs_cons (st₁ := st1) (by subst hL; exact (sE_loc rfl rfl (by decide +kernel))) sEs_nil) (by first | decide | (simp; done))) (sEs_cons (st₁ := st1) (sE_list (sEs_cons sE_int sEs_nil) (by first | decide | (simp; done))) (sEs_cons (st₁ := st1 ++ ext) (sE_list (sEs_cons hb (sEs_cons (st₁ := st1 ++ ext) (by subst hL; exact (sE_loc rfl rfl (by decide +kernel))) sEs_nil)) (by first | decide | (simp; done))) sEs_nil)))
    generalize hst2 : st1 ++ ext ++ [(⟨0, [.list [.key tot], .list [.int 0], .list [.obj r, .obj st.length]]⟩ : Inst)] = st2 at hroot
    have hst : st2 = st ++ ([(⟨0, [.list R, .list (List.replicate (t - 1) (.int 0)), .list []]⟩ : Inst)] ++ (ext ++ [(⟨0, [.list [.key tot], .list [.int 0], .list [.obj r, .obj st.length]]⟩ : Inst)])) := by rw [← hst2, ← hst1]; simp
    have hrep : Rep st2 (st1 ++ ext).length (tr4 c t tot tr) := by
      unfold tr4 rgt
      rw [hR, ← hst2]
      refine .nd (kids := [(r, tr), (st.length, .nd R (List.replicate (t - 1) (.int 0)) [])]) (get_last ..) fun x hx => ?_
      cases hx with
      | head => exact pre_rep hr
      | tail _ z =>
        cases z with
        | head =>
          refine pre_rep (pre_rep ?_)
          rw [← hst1]
          exact .nd (kids := []) (get_last ..) fun x hx => by cases hx
        | tail _ z => cases z
    have hrsz : (rgt c t tot).size ≤ 10 := by unfold rgt; simp [T.size, Ts.size]; omega
    have hsz4 : (tr4 c t tot tr).size ≤ 50000 := by have := F.size; unfold tr4; simp [T.size, Ts.size]; omega
    generalize hLL : (L.set 15 (.v (.obj st.length))).set 14 (.v (.obj (st1 ++ ext).length)) = L2
    have pre4 : ∀ v loc', SS c nm8 (n + 4) ((sAt b8 8).bd.drop 2) L2 st2 (.ret v) loc' st2 → SS c nm8 (n + 4) (b8.drop 4) L st (.ret v) loc' st2 := by
      intro v loc' hh
      refine ss_if_f (no 0 (by omega)) ss_nil (ss_if_f (no 1 (by omega)) ss_nil (ss_if_f (no 2 (by omega)) ss_nil (ss_if_f (no 3 (by omega)) ss_nil (ss_if_tr (yes 4 q) ?_))))
      refine ss_assign (st₁ := st1) rfl hright rfl ?_
      refine ss_assign (st₁ := st2) rfl hroot rfl ?_
      rw [hLL]
      exact hh
    have rt : ∀ {p : Ps}, SE c nm8 (n + 4) (.loc 14 "root" p) L2 st2 (.obj (st1 ++ ext).length) st2 := by subst hLL; subst hL; exact (sE_loc rfl rfl (by decide +kernel))
    have szl : ∀ {p1 p2 p3 : Ps}, SE c nm8 (n + 4) (.bin .add (.loc 6 "total" p1) (.loc 1 "t" p2) p3) L2 st2 (.int ((tot + t : Nat) : Int)) st2 := by subst hLL; subst hL; exact eAdd (sE_loc rfl rfl (by decide +kernel)) (sE_loc rfl rfl (by decide +kernel))
    have cc1 : SC c nm8 (n + 4) (sAt (sAt b8 8).bd 2).cd L2 st2 (Nat.ble (ks.length + 2) t) st2 := by
      subst hLL; subst hL
      refine sc_eq (sC_cmp (eLenT P (by decide +kernel) (sE_loc rfl rfl (by decide +kernel)) (by omega)) (sE_bin (sE_loc rfl rfl (by decide +kernel)) sE_int (bin_sub rfl rfl)) (cmp_lt rfl rfl)) ?_
      rw [Bool.eq_iff_iff, Nat.ble_eq, decide_eq_true_eq]; omega
    have cc2 : SC c nm8 (n + 4) (sAt (sAt b8 8).bd 3).cd L2 st2 (decide ((0 : Int) < (h : Int))) st2 := by
      subst hLL; subst hL
      exact sC_cmp (sE_loc rfl rfl (by decide +kernel)) sE_int (cmp_gt rfl rfl)
    have h4 := F.c4
    unfold chk4 at h4
    rw [hks, Bool.and_eq_true] at h4
    obtain ⟨hkt, h4⟩ := h4
    cases hb4 : Nat.ble (ks.length + 2) t with
    | true =>
      rw [hb4] at cc1 h4
      rw [cond_true] at h4
      refine ⟨_, _, tr4 c t tot tr, ((tot + t : Nat) : Int), 1, go _ _ _ (by rw [← hst]; exact pre4 _ _ (ss_if_tr cc1 (ss_return (sE_tup (sEs_cons rt (sEs_cons szl (sEs_cons sE_int sEs_nil))) (by first | decide | (simp; done)))))), by rw [← hst]; exact hrep, vd_bad hsz4 (not_of h4)⟩
    | false =>
      rw [hb4] at cc1 h4
      rw [cond_false] at h4
      simp only [Bool.and_eq_true] at h4
      obtain ⟨g1, g2, g3⟩ := h4
      have g2' := Nat.eq_of_beq_eq_true g2
      have g3' := ieq_of g3
      have hkok : (tr4 c t tot tr).kok (V.lt c) .none .none = true := by
        have hr1 : (rgt c t tot).kok (V.lt c) (.key tot) .none = true := by
          unfold rgt
          rw [T.kok, Ts.kok, Bool.and_true]
          have : t = 2 ∨ t = 3 := by omega
          have a1 : V.lt c (.key tot) (.int (c.kv tot + 1 + ((0 : Nat) : Int))) = true := decide_eq_true (by show c.kv tot < c.kv tot + 1 + ((0 : Nat) : Int); omega)
          have a2 : V.lt c (.key tot) (.int (c.kv tot + 1 + ((1 : Nat) : Int))) = true := decide_eq_true (by show c.kv tot < c.kv tot + 1 + ((1 : Nat) : Int); omega)
          have a3 : V.lt c (.int (c.kv tot + 1 + ((0 : Nat) : Int))) (.int (c.kv tot + 1 + ((1 : Nat) : Int))) = true := decide_eq_true (by show c.kv tot + 1 + ((0 : Nat) : Int) < c.kv tot + 1 + ((1 : Nat) : Int); omega)
          rcases this with rfl | rfl
          · show rowOk (V.lt c) (.key tot) .none none [.int (c.kv tot + 1 + ((0 : Nat) : Int))] = true
            simp only [rowOk, pvOk, a1]; rfl
          · show rowOk (V.lt c) (.key tot) .none none [.int (c.kv tot + 1 + ((0 : Nat) : Int)), .int (c.kv tot + 1 + ((1 : Nat) : Int))] = true
            simp only [rowOk, pvOk, a1, a2, a3]; rfl
        unfold tr4
        rw [T.kok, Ts.kok, Ts.kok, Ts.kok, hkt, hr1]; rfl
      have hkn : (tr4 c t tot tr).kn = true := by
        have hr1 : (rgt c t tot).kn = true := by
          unfold rgt
          rw [T.kn, Ts.kn]
          simp [V.isNum]
        unfold tr4
        rw [T.kn]
        simp [Ts.kn, hr1, F.kn, V.isNum]
      by_cases hh : 0 < h
      · rw [decide_eq_true (by omega)] at cc2
        have hb0 : Nat.beq h 0 = false := by
          cases qq : Nat.beq h 0 with
          | false => rfl
          | true => have := Nat.eq_of_beq_eq_true qq; omega
        rw [hb0, cond_false] at g3'
        refine ⟨_, _, tr4 c t tot tr, ((tot + t : Nat) : Int), 3, go _ _ _ (by rw [← hst]; exact pre4 _ _ (ss_if_f cc1 ss_nil (ss_if_tr cc2 (ss_return (sE_tup (sEs_cons rt (sEs_cons szl (sEs_cons sE_int sEs_nil))) (by first | decide | (simp; done))))))), by rw [← hst]; exact hrep, ⟨hsz4, ?_, g1, fun _ => hkn, fun _ => hkok, fun _ => g3'⟩⟩
        unfold chkP
        rw [g3', decide_eq_true (by first | decide | (simp; done))]; simp
      · rw [decide_eq_false (by omega)] at cc2
        have hh0 : h = 0 := by omega
        subst hh0
        have g3'' : (tr4 c t tot tr).lvl = 1 := g3'
        refine ⟨_, _, tr4 c t tot tr, ((tot + t : Nat) : Int), 0, go _ _ _ (by rw [← hst]; exact pre4 _ _ (ss_if_f cc1 ss_nil (ss_if_f cc2 ss_nil (ss_return (sE_tup (sEs_cons rt (sEs_cons szl (sEs_cons sE_int sEs_nil))) (by first | decide | (simp; done))))))), by rw [← hst]; exact hrep, ⟨hsz4, ?_, g1, fun _ => hkn, fun _ => hkok, fun q => by cases q⟩⟩
        exact chkP_of g1 hkok g3'' (by first | decide | (simp; done)) (by rw [g2'])
  · -- a key twice
    have hfm := fm_lt (cell2 c.sns 4) (k := tot + 1) (by omega)
    generalize hs : fm (cell2 c.sns 4) (tot + 1) = w at hfm
    have h5 := upto_at F.c5 w hfm
    have h5' : ((bpP (run5 (w + 1)) h gs).deep 3 && (Nat.ble (bpP (run5 (w + 1)) h gs).size 1000 && ((bpP (run5 (w + 1)) h gs).kn && ((bpP (run5 (w + 1)) h gs).shp t true && (Nat.beq (bpP (run5 (w + 1)) h gs).cnt tot && (ieq (bpP (run5 (w + 1)) h gs).lvl (h : Int) && Bool.casesOn (Nat.ble tot (w + 1)) (!(bpP (run5 (w + 1)) h gs).kok (V.lt c) .none .none) ((bpP (run5 (w + 1)) h gs).kok (V.lt c) .none .none))))))) = true := h5
    simp only [Bool.and_eq_true] at h5'
    obtain ⟨g1, g2, g3, g4, g5, g6, g7⟩ := h5'
    have hrun5 : ∀ p ∈ run5 (w + 1), p.pair := by
      intro p hp
      unfold run5 at hp
      rcases List.mem_append.mp hp with hp | hp
      · rcases List.mem_append.mp hp with hp | hp
        · exact runP_pair p (List.mem_of_mem_take hp)
        · cases hp with
          | head => exact ⟨_, _, rfl⟩
          | tail _ z => cases z
      · exact runP_pair p (List.mem_of_mem_drop hp)
    have hrl : 18 ≤ (run5 (w + 1)).length ∧ (run5 (w + 1)).length ≤ 100 := by
      unfold run5
      rw [List.length_append, List.length_append, List.length_take, List.length_drop, runP_len]
      simp; omega
    have ap : SE c nm8 (n + 4) (.bin .add (.int 1 ⟨298, 8, 298, 9⟩) (.bin .mod (.loc 8 "place" ⟨298, 12, 298, 17⟩) (.bin .add (.loc 6 "total" ⟨298, 21, 298, 26⟩) (.int 1 ⟨298, 29, 298, 30⟩) ⟨298, 21, 298, 30⟩) ⟨298, 12, 298, 31⟩) ⟨298, 8, 298, 31⟩) L st (.int ((w + 1 : Nat) : Int)) st := by
      subst hL
      rw [Nat.add_comm w 1, ← hs]
      exact eAdd (eNat rfl) (eMod (k := tot + 1) (by omega) (sE_loc rfl rfl (by decide +kernel)) (eAdd (sE_loc rfl rfl (by decide +kernel)) (eNat rfl)))
    have at' : SE c nm8 (n + 4) (match sAt b8 10 with | .assign _ _ _ e _ => e | _ => .none ⟨0, 0, 0, 0⟩) (L.set 16 (.v (.int ((w + 1 : Nat) : Int)))) st (.list (run5 (w + 1))) st := by
      subst hL
      unfold run5
      have e1 : runP.take (w + 1) = vpick runP none (some ((w + 1 : Nat) : Int)) := (pick_to _ _).symm
      have e2 : runP.drop (w + 1 + 1) = vpick runP (some ((w + 1 + 1 : Nat) : Int)) none := (pick_from _ _).symm
      rw [e1, e2]
      have ln := runP_len
      have z1 : (vpick runP none (some ((w + 1 : Nat) : Int))).length ≤ 18 := by rw [pick_to, List.length_take]; omega
      have z2 : (vpick runP (some ((w + 1 + 1 : Nat) : Int)) none).length ≤ 18 := by rw [pick_from, List.length_drop]; omega
      refine sE_bin (sE_bin (sE_slice (st₁ := st) (st₂ := st) (sE_loc rfl rfl (by decide +kernel)) sEo_none (sEo_some (sE_loc rfl rfl (by decide +kernel)) rfl) (by first | decide | (simp; done))) (sE_list (sEs_cons (sE_tup (sEs_cons (v := .key (w + 1 - 1)) (sE_idxT (k := 0) (xs := [.key (w + 1 - 1), .val (w + 1 - 1)]) (y := .int 0) (sE_idx (k := w + 1 - 1) (y := .int (((w + 1 : Nat) : Int) - 1)) (sE_loc rfl rfl (by decide +kernel)) (sE_bin (sE_loc rfl rfl (by decide +kernel)) sE_int (bin_sub rfl rfl)) ?_ (runP_get (by omega)) (by first | decide | (simp; done))) sE_int rfl rfl (by first | decide | (simp; done))) (sEs_cons sE_int sEs_nil)) (by first | decide | (simp; done))) sEs_nil) (by first | decide | (simp; done))) (bin_cat (by rw [List.length_singleton]; omega))) (sE_slice (st₁ := st) (st₂ := st) (sE_loc rfl rfl (by decide +kernel)) (sEo_some (eAdd (sE_loc rfl rfl (by decide +kernel)) (eNat rfl)) rfl) sEo_none (by first | decide | (simp; done))) (bin_cat (by rw [List.length_append, List.length_singleton]; exact Nat.le_trans (Nat.add_le_add (Nat.add_le_add_right z1 1) z2) (by decide)))
      show some (((w + 1 : Nat) : Int) - 1) = some ((w + 1 - 1 : Nat) : Int)
      congr 1; omega
    have hz5 := Nat.le_of_ble_eq_true g2
    have hbl : SE c nm8 (n + 4) (.call (.fn 4) "_law_blueprint" ⟨300, 22, 300, 36⟩ [(.loc 17 "twice" ⟨300, 37, 300, 42⟩), (.loc 3 "height" ⟨300, 44, 300, 50⟩), (.loc 4 "groups" ⟨300, 52, 300, 58⟩)] ⟨300, 22, 300, 59⟩) ((L.set 16 (.v (.int ((w + 1 : Nat) : Int)))).set 17 (.v (.list (run5 (w + 1))))) st (bpP (run5 (w + 1)) h gs).v st := by
      subst hL
      exact sE_call (fn_ok P (k := 4) rfl (by decide +kernel)) (sEs_cons (sE_loc rfl rfl (by decide +kernel)) (sEs_cons (sE_loc rfl rfl (by decide +kernel)) (sEs_cons (sE_loc rfl rfl (by decide +kernel)) sEs_nil))) (blue_code P (n + 1) hrun5 (by omega) h gs hg h0 (by rw [F.tsum]; omega)).call
    obtain ⟨r, ext, hb, hr⟩ := eBuild (n := n + 1) P (by decide +kernel) (q := ⟨300, 11, 300, 21⟩) (p := ⟨300, 11, 300, 60⟩) hbl g1 (by omega)
    generalize hLL : (((L.set 16 (.v (.int ((w + 1 : Nat) : Int)))).set 17 (.v (.list (run5 (w + 1))))).set 14 (.v (.obj r))) = L2
    have pre5 : ∀ v loc', SS c nm8 (n + 4) (b8.drop 12) L2 (st ++ ext) (.ret v) loc' (st ++ ext) → SS c nm8 (n + 4) (b8.drop 4) L st (.ret v) loc' (st ++ ext) := by
      intro v loc' hh
      refine ss_if_f (no 0 (by omega)) ss_nil (ss_if_f (no 1 (by omega)) ss_nil (ss_if_f (no 2 (by omega)) ss_nil (ss_if_f (no 3 (by omega)) ss_nil (ss_if_f (no 4 (by omega)) ss_nil ?_))))
      refine ss_assign (st₁ := st) rfl ap rfl ?_
      refine ss_assign (st₁ := st) rfl at' rfl ?_
      refine ss_assign (st₁ := st ++ ext) rfl hb rfl ?_
      rw [hLL]
      exact hh
    have rt : ∀ {p : Ps}, SE c nm8 (n + 4) (.loc 14 "root" p) L2 (st ++ ext) (.obj r) (st ++ ext) := by subst hLL; subst hL; exact (sE_loc rfl rfl (by decide +kernel))
    have szl : ∀ {p : Ps}, SE c nm8 (n + 4) (.loc 6 "total" p) L2 (st ++ ext) (.int (tot : Int)) (st ++ ext) := by subst hLL; subst hL; exact (sE_loc rfl rfl (by decide +kernel))
    have cc : SC c nm8 (n + 4) (sAt b8 12).cd L2 (st ++ ext) (!Nat.ble tot (w + 1)) (st ++ ext) := by
      subst hLL; subst hL
      refine sc_eq (sC_cmp (sE_loc rfl rfl (by decide +kernel)) (sE_loc rfl rfl (by decide +kernel)) (cmp_lt rfl rfl)) ?_
      cases hq : Nat.ble tot (w + 1) with
      | true => have := Nat.le_of_ble_eq_true hq; exact decide_eq_false (by omega)
      | false =>
        refine decide_eq_true ?_
        rcases Nat.lt_or_ge (w + 1) tot with z | z
        · omega
        · rw [Nat.ble_eq_true_of_le z] at hq; cases hq
    have hcnt := Nat.eq_of_beq_eq_true g5
    cases hb5 : Nat.ble tot (w + 1) with
    | true =>
      rw [hb5] at cc g7
      exact ⟨r, ext, _, (tot : Int), 0, go _ _ _ (pre5 _ _ (ss_if_f cc ss_nil (ss_return (sE_tup (sEs_cons rt (sEs_cons szl (sEs_cons sE_int sEs_nil))) (by first | decide | (simp; done)))))), hr,
        ⟨by omega, chkP_of g4 g7 (ieq_of g6) (by omega) (by rw [hcnt]), g4, fun _ => g3, fun _ => g7, fun q => by cases q⟩⟩
    | false =>
      rw [hb5] at cc g7
      have g7' := not_of g7
      refine ⟨r, ext, _, (tot : Int), 2, go _ _ _ (pre5 _ _ (ss_if_tr cc (ss_return (sE_tup (sEs_cons rt (sEs_cons szl (sEs_cons sE_int sEs_nil))) (by first | decide | (simp; done)))))), hr,
        ⟨by omega, ?_, g4, fun _ => g3, fun _ => g7', fun q => by cases q⟩⟩
      unfold chkP
      rw [g7']; simp
end
end Mine

namespace Mine
open PySem PySem.W PySem.Calls PyProof.Rows
/-- the keys and values of the run -/
def kv2 (ns : List Int) : Nat → Int
  | 0 => cell2 ns 2
  | i + 1 => kv2 ns i + 1 + (cell2 ns (5 + i)).fmod 2
def vv2 (ns : List Int) (i : Nat) : Int := cell2 ns (5 + i)
theorem kv2_step (ns : List Int) (i : Nat) : kv2 ns i < kv2 ns (i + 1) := by
  show _ < kv2 ns i + 1 + (cell2 ns (5 + i)).fmod 2
  have := Int.fmod_nonneg_of_pos (cell2 ns (5 + i)) (by decide : (0 : Int) < 2)
  omega
theorem kv2_lt (ns : List Int) : ∀ i j, i < j → kv2 ns i < kv2 ns j := by
  intro i j h
  induction h with
  | refl => exact kv2_step ns i
  | step _ ih => exact Int.lt_trans ih (kv2_step ns _)
def pairsF (m i : Nat) : List V := (List.range m).map fun j => .tup [.key (i + j), .val (i + j)]
theorem pairsF_succ (m i : Nat) : pairsF (m + 1) i = .tup [.key i, .val i] :: pairsF m (i + 1) := by
  unfold pairsF
  rw [List.range_succ_eq_map, List.map_cons, List.map_map]
  congr 1
  apply List.map_congr_left
  intro j _
  show V.tup _ = V.tup _
  have : i + (j + 1) = i + 1 + j := by omega
  rw [show Nat.succ j = j + 1 from rfl, this]
theorem runP_F : runP = pairsF 18 0 := rfl
theorem take_F (tot : Nat) (h : tot ≤ 18) : runP.take tot = pairsF tot 0 := by
  rw [runP_F]
  unfold pairsF
  rw [← List.map_take, List.take_range, Nat.min_eq_left h]
/-- the dict -/
def dfun (c : Cn) : Nat → Int → Option V
  | 0 => fun _ => none
  | j + 1 => fun x => if x = c.kv j then some (.val j) else dfun c j x
def asksP (c : Cn) : Nat → List V
  | 0 => [.int (c.kv 0 - 1), .key 0]
  | j + 1 => asksP c j ++ [.key j] ++ [.int (c.kv j + 1)]
theorem asksP_len (c : Cn) (j : Nat) : (asksP c j).length = 2 + 2 * j := by
  induction j with
  | zero => rfl
  | succ j ih => rw [asksP, List.length_append, List.length_append, ih]; simp; omega
/-- where an int lies among the keys -/
structure At (c : Cn) (x : Int) (m : Nat) (e : Bool) : Prop where
  lt : ∀ j, decide (c.kv j < x) = Nat.ble (j + 1) m
  eq : ∀ j, (c.kv j == x) = (Nat.beq j m && e)
theorem dfun_at {c : Cn} {x : Int} {m : Nat} {e : Bool} (h : At c x m e) : ∀ tot, dfun c tot x = bif e && Nat.ble (m + 1) tot then some (.val m) else none := by
  intro tot
  induction tot with
  | zero => rw [dfun]; cases e <;> rfl
  | succ j ih =>
    show (if x = c.kv j then some (V.val j) else dfun c j x) = _
    have hq := h.eq j
    by_cases hj : j = m
    · subst hj
      have : Nat.beq j j = true := Nat.beq_refl j
      rw [this, Bool.true_and] at hq
      have hb : Nat.ble (j + 1) (j + 1) = true := Nat.ble_eq_true_of_le (Nat.le_refl _)
      have hb' : Nat.ble (j + 1) j = false := by
        cases q : Nat.ble (j + 1) j with
        | false => rfl
        | true => have := Nat.le_of_ble_eq_true q; omega
      rw [hb, Bool.and_true]
      cases e with
      | true => rw [if_pos (eq_of_beq hq).symm]; rfl
      | false =>
        have : ¬ x = c.kv j := fun z => by rw [z] at hq; simp at hq
        rw [if_neg this, ih]; rfl
    · have hb : Nat.beq j m = false := by
        cases q : Nat.beq j m with
        | false => rfl
        | true => exact absurd (Nat.eq_of_beq_eq_true q) hj
      rw [hb, Bool.false_and] at hq
      have : ¬ x = c.kv j := fun z => by rw [z] at hq; simp at hq
      rw [if_neg this, ih]
      have hbb : Nat.ble (m + 1) (j + 1) = Nat.ble (m + 1) j := by
        rw [Bool.eq_iff_iff, Nat.ble_eq, Nat.ble_eq]; omega
      rw [hbb]
theorem at_key (c : Cn) (i : Nat) : At c (c.kv i) i true :=
  ⟨fun j => by rw [Bool.eq_iff_iff, decide_eq_true_eq, Nat.ble_eq, kv_lt_iff]; exact Iff.rfl, fun j => by rw [kv_inj c, Bool.and_true]⟩
theorem at_pred (c : Cn) : At c (c.kv 0 - 1) 0 false := by
  have h0 : ∀ j, c.kv 0 ≤ c.kv j := fun j => by
    cases j with
    | zero => exact Int.le_refl _
    | succ j => exact Int.le_of_lt (c.kv_lt 0 _ (Nat.succ_pos j))
  refine ⟨fun j => ?_, fun j => ?_⟩
  · rw [decide_eq_false (by have := h0 j; omega)]; rfl
  · rw [Bool.and_false, beq_eq_false_iff_ne]; have := h0 j; omega
theorem at_succ (c : Cn) (i : Nat) : At c (c.kv i + 1) (i + 1) (c.kv (i + 1) == c.kv i + 1) := by
  have hs := c.kv_lt i (i + 1) (Nat.lt_succ_self i)
  refine ⟨fun j => ?_, fun j => ?_⟩
  · rw [Bool.eq_iff_iff, decide_eq_true_eq, Nat.ble_eq]
    constructor
    · intro h
      have : ¬ i < j := fun q => by have := c.kv_lt i j q; omega
      omega
    · intro h
      have : j < i ∨ j = i := by omega
      rcases this with q | q
      · have := c.kv_lt j i q; omega
      · subst q; omega
  · by_cases hj : j = i + 1
    · subst hj
      have : Nat.beq (i + 1) (i + 1) = true := Nat.beq_refl _
      rw [this, Bool.true_and]
    · have hb : Nat.beq j (i + 1) = false := by
        cases q : Nat.beq j (i + 1) with
        | false => rfl
        | true => exact absurd (Nat.eq_of_beq_eq_true q) hj
      rw [hb, Bool.false_and, beq_eq_false_iff_ne]
      intro he
      rcases Nat.lt_trichotomy j (i + 1) with q | q | q
      · have : j < i ∨ j = i := by omega
        rcases this with z | z
        · have := c.kv_lt j i z; omega
        · subst z; omega
      · exact hj q
      · have := c.kv_lt (i + 1) j q; omega
theorem asks_at (c : Cn) : ∀ tot, ∀ x ∈ asksP c tot, ∃ i m e, x.iv c = some i ∧ m ≤ tot ∧ At c i m e := by
  intro tot
  induction tot with
  | zero =>
    intro x hx
    cases hx with
    | head => exact ⟨_, 0, false, rfl, Nat.le_refl _, at_pred c⟩
    | tail _ hx =>
      cases hx with
      | head => exact ⟨_, 0, true, rfl, Nat.le_refl _, at_key c 0⟩
      | tail _ hx => cases hx
  | succ j ih =>
    intro x hx
    rcases List.mem_append.mp hx with hx | hx
    · rcases List.mem_append.mp hx with hx | hx
      · obtain ⟨i, m, e, a, b, d⟩ := ih x hx
        exact ⟨i, m, e, a, by omega, d⟩
      · cases hx with
        | head => exact ⟨_, j, true, rfl, by omega, at_key c j⟩
        | tail _ hx => cases hx
    · cases hx with
      | head => exact ⟨_, j + 1, _, rfl, Nat.le_refl _, at_succ c j⟩
      | tail _ hx => cases hx
section
variable {c : Cn} {nm nm' : Nm} {n : Nat} {loc loc₁ loc₂ : List LV} {st st₁ st₂ : List Inst} {fl : Fl}
theorem cmp_neV {a b : V} (h : veqT a b = true) : CmpOk c n .ne a b false := by
  obtain ⟨rfl, d, e⟩ := same_eq (c := c) 4 a b h
  exact cmp_dat d d (by omega) (by omega) (.inr ⟨rfl, by rw [SeqAt.eqv_refl _ (V.lay a)]; rfl⟩)
theorem cmp_neB {a b : Bool} : CmpOk c n .ne (.bool a) (.bool b) (!(a == b)) := by
  refine cmp_dat rfl rfl (Nat.zero_le _) (Nat.zero_le _) (.inr ⟨rfl, ?_⟩)
  cases a <;> cases b <;> rfl
theorem cmp_eqB {a b : Bool} (h : a = b) : CmpOk c n .ne (.bool a) (.bool b) false := by
  subst h
  have := cmp_neB (c := c) (n := n) (a := a) (b := a)
  rw [show (!(a == a)) = false by cases a <;> rfl] at this
  exact this
theorem cmp_nen {a b : Int} (h : a = b) : CmpOk c n .ne (.int a) (.int b) false := by
  subst h
  have := cmp_nei (c := c) (n := n) (a := .int a) (b := .int a) rfl rfl
  rw [show (a != a) = false by simp] at this
  exact this
theorem sc_or3 {a b d : C} {p : Ps} (ha : SC c nm n a loc st false st) (hb : SC c nm n b loc st false st) (hd : SC c nm n d loc st false st) : SC c nm n (.or [a, b, d] p) loc st false st := sC_or (sOr_f ha (sOr_f hb (sOr_f hd sOr_nil)))
theorem sc_or2f {a b : C} {p : Ps} (ha : SC c nm n a loc st false st) (hb : SC c nm n b loc st false st) : SC c nm n (.or [a, b] p) loc st false st := sC_or (sOr_f ha (sOr_f hb sOr_nil))
theorem mCall2 (P : PgOk c pg2) {cl f kf : Nat} {x : Str} (hm : pg2.mth cl f = some kf) (hn : pg2.mname f = some x) {o : E} {es : List E} {q p : Ps} {k : Nat} {i : Inst} {vs : List V} {v : V} (ho : SE c nm n o loc st (.obj k) st) (hi : st[k]? = some i) (hcl : i.cls = cl) (hs : SEs c nm n es loc st vs st₁) (hc : SCode c n (addr2 kf) (.obj k :: vs) st₁ v st₂) (hoc : o.nocall = true) (hz : es.length < 29) (hline : (q.endLine == p.line) = true) :
    SE c nm n (.meth o f x q es p) loc st v st₂ := by
  subst hcl
  obtain ⟨x', h1, h2⟩ := P.mth _ _ _ hm
  rw [hn] at h1; cases h1
  exact sE_meth ho hi h2 hs hc.call hoc hz hline
theorem ss_expr {e : E} {p : Ps} {v : V} {rest : List S} (he : SE c nm n e loc st v st₁) (hc : e.nocomp = true) (hr : SS c nm n rest loc st₁ fl loc₂ st₂) : SS c nm n (.expr e p :: rest) loc st fl loc₂ st₂ :=
  ss_cons (x := .expr e p) rfl (sx_expr he hc) hr

/-- the run -/
theorem run_loop (P : PgOk c pg2) (hl : c.sns.length ≤ 63) (hkv : c.kv = kv2 c.sns) (hvv : c.vv = vv2 c.sns) {h t b : V} {tl : List LV} : ∀ (m i : Nat) (xs : List V) (l6 l7 : LV), i + m ≤ 18 → xs.length = i →
    ∃ k5 l6' l7', FEv c nm9 (n + 1) 6 (sAt b9 6).bd ((List.range m).map fun j : Nat => V.int ((i + j : Nat) : Int)) (.v .scr :: .v h :: .v t :: .v b :: .own xs :: .v (.key i) :: l6 :: l7 :: tl) st .next (.v .scr :: .v h :: .v t :: .v b :: .own (xs ++ pairsF m i) :: k5 :: l6' :: l7' :: tl) st := by
  intro m
  induction m with
  | zero => intro i xs l6 l7 _ _; exact ⟨_, l6, l7, by unfold pairsF; rw [List.range_zero, List.map_nil, List.map_nil, List.append_nil]; exact .nil⟩
  | succ m ih =>
    intro i xs l6 l7 h1 h2
    obtain ⟨k5, l6', l7', ev⟩ := ih (i + 1) (xs ++ [.tup [.key i, .val i]]) (.v (.int (i : Int))) (.v (.val i)) (by omega) (by simp [h2])
    refine ⟨k5, l6', l7', ?_⟩
    rw [rng_cast, pairsF_succ]
    have e1 : xs ++ V.tup [.key i, .val i] :: pairsF m (i + 1) = xs ++ [.tup [.key i, .val i]] ++ pairsF m (i + 1) := by simp
    rw [e1]
    refine .cons ?_ ev
    refine ss_assign (st₁ := st) (v := .val i) rfl (se_val (k := cell2 c.sns (5 + i)) (eCell P hl (by decide +kernel) (sE_loc rfl rfl (by decide +kernel)) (eAdd (eNat rfl) (sE_loc rfl rfl (by decide +kernel)))) (by rw [hvv]; rfl)) rfl ?_
    refine ss_app (st₁ := st) (v := .tup [.key i, .val i]) rfl rfl (by decide +kernel) (sE_tup (sEs_cons (sE_loc rfl rfl (by decide +kernel)) (sEs_cons (sE_loc rfl rfl (by decide +kernel)) sEs_nil)) (by first | decide | (simp; done))) rfl (by omega) ?_
    refine ss_assign (st₁ := st) (v := .key (i + 1)) rfl (se_key (k := c.kv i + 1 + (c.vv i).fmod 2) (sE_bin (sE_bin (sE_loc rfl rfl (by decide +kernel)) sE_int (bin_add (i := c.kv i) rfl rfl)) (sE_bin (sE_loc rfl rfl (by decide +kernel)) sE_int (bin_mod (i := c.vv i) rfl rfl (by first | decide | (simp; done)))) (bin_add rfl rfl)) ?_) rfl ss_nil
    rw [hkv, hvv]; rfl
/-- the dict and the asks -/
theorem ask_loop {pre : List LV} (hp : pre.length = 14) {tl : List LV} : ∀ (m i : Nat) (l16 : LV), i + m ≤ 18 →
    ∃ l16', FEv c nm9 n 16 (sAt b9 21).bd (pairsF m i) (pre ++ .dct (dfun c i) i :: .own (asksP c i) :: l16 :: tl) st .next (pre ++ .dct (dfun c (i + m)) (i + m) :: .own (asksP c (i + m)) :: l16' :: tl) st := by
  obtain ⟨a0, a1, a2, a3, a4, a5, a6, a7, a8, a9, a10, a11, a12, a13, rfl⟩ : ∃ a0 a1 a2 a3 a4 a5 a6 a7 a8 a9 a10 a11 a12 a13, pre = [a0, a1, a2, a3, a4, a5, a6, a7, a8, a9, a10, a11, a12, a13] := by
    match pre, hp with
    | [a0, a1, a2, a3, a4, a5, a6, a7, a8, a9, a10, a11, a12, a13], _ => exact ⟨a0, a1, a2, a3, a4, a5, a6, a7, a8, a9, a10, a11, a12, a13, rfl⟩
  intro m
  induction m with
  | zero => intro i l16 _; exact ⟨l16, .nil⟩
  | succ m ih =>
    intro i l16 h1
    obtain ⟨l16', ev⟩ := ih (i + 1) (.v (.tup [.key i, .val i])) (by omega)
    refine ⟨l16', ?_⟩
    rw [pairsF_succ]
    have e : i + (m + 1) = i + 1 + m := by omega
    rw [e]
    refine .cons ?_ ev
    have p0 : ∀ {lv : LV} {ls : LV} {p q r : Ps}, SE c nm9 n (.idx (.loc 16 "pair" p) (.int 0 q) r) ([a0, a1, a2, a3, a4, a5, a6, a7, a8, a9, a10, a11, a12, a13] ++ lv :: ls :: .v (.tup [.key i, .val i]) :: tl) st (.key i) st := sE_idxT (k := 0) (sE_loc rfl rfl (by decide +kernel)) sE_int rfl rfl (by first | decide | (simp; done))
    refine ss_cons (st₁ := st) (loc₁ := [a0, a1, a2, a3, a4, a5, a6, a7, a8, a9, a10, a11, a12, a13] ++ .dct (dfun c (i + 1)) (i + 1) :: .own (asksP c i) :: .v (.tup [.key i, .val i]) :: tl) rfl (sx_dictS (i := 14) (x := "known") (f := dfun c i) (m := i) (k := .key i) (v := .val i) (ik := c.kv i) (st₁ := st) rfl rfl (by decide +kernel) (sE_idxT (k := 1) (sE_loc rfl rfl (by decide +kernel)) sE_int rfl rfl (by first | decide | (simp; done))) p0 rfl (by omega) rfl) ?_
    refine ss_app (st₁ := st) (v := .key i) rfl rfl (by decide +kernel) p0 rfl (by rw [asksP_len]; omega) ?_
    refine ss_app (st₁ := st) (v := .int (c.kv i + 1)) rfl rfl (by decide +kernel) (sE_bin (x := .key i) p0 sE_int (bin_add (i := c.kv i) rfl rfl)) rfl (by rw [List.length_append, asksP_len]; simp; omega) ?_
    exact ss_nil
theorem near_loop {loc0 : List LV} (x : V) : ∀ (xs : List V) (l17 : LV), (∀ x ∈ xs, SC c nm9 n (sAt (sAt b9 23).bd 0).cd (loc0.set 17 (.v x)) st false st) → 17 < loc0.length →
    ∃ l17', FEv c nm9 n 17 (sAt b9 23).bd xs (loc0.set 17 l17) st .next (loc0.set 17 l17') st := by
  intro xs
  induction xs with
  | nil => intro l17 _ _; exact ⟨l17, .nil⟩
  | cons y xs ih =>
    intro l17 h hz
    obtain ⟨l17', ev⟩ := ih (.v y) (fun x hx => h x (.tail _ hx)) hz
    refine ⟨l17', .cons ?_ ev⟩
    rw [List.set_set]
    exact ss_if_f (h y (.head _)) ss_nil ss_nil
end
end Mine

namespace Mine
open PySem PySem.W PySem.Calls PyProof.Rows
section
variable {c : Cn} {nm nm' : Nm} {n : Nat} {loc loc₁ loc₂ : List LV} {st st₁ st₂ : List Inst} {fl : Fl}
def U9 : List LV := [.unset, .unset, .unset, .unset, .unset, .unset, .unset, .unset, .unset]
/-- up to `laid` -/
theorem front2 (P : PgOk c pg2) (hl : c.sns.length ≤ 63) (hkv : c.kv = kv2 c.sns) (hvv : c.vv = vv2 c.sns) {h t tot : Nat} {gs : List (List Nat)} {tr : T} (hh : h = fm (cell2 c.sns 0) 3) (ht : t = if h < 2 then 2 + fm (cell2 c.sns 1) 2 else 2) (hgs : gs = grpP c.sns h t) (htr : tr = bpP runP h gs) (F : Fx c h t gs tr tot)
    (k : ∀ k5 l6 l7, ∃ loc' st', SS c nm9 (n + 5) (b9.drop 13) (.v .scr :: .v (.int (h : Int)) :: .v (.int (t : Int)) :: .v (.key 0) :: .v (.list runP) :: k5 :: l6 :: l7 :: .v (gsV gs) :: .v (.int (tot : Int)) :: .v tr.v :: .v (.list (runP.take tot)) :: .v (.list (.int (t : Int) :: tr.flat)) :: U9) st (.ret (.bool true)) loc' st') :
    ∃ loc' st', SS c nm9 (n + 5) b9 (locInit nm9 [.scr]) st (.ret (.bool true)) loc' st' := by
  have hh3 : h ≤ 2 := by have := fm_lt (cell2 c.sns 0) (k := 3) (by first | decide | (simp; done)); omega
  have ht3 : 2 ≤ t ∧ t ≤ 3 := by
    have := fm_lt (cell2 c.sns 1) (k := 2) (by first | decide | (simp; done))
    split at ht <;> omega
  obtain ⟨hg1, hg2⟩ := grp_pos c.sns h t
  rw [← hgs] at hg1 hg2
  have htot := F.tle
  have hsz := F.size
  obtain ⟨k5, l6, l7, ev⟩ := run_loop (c := c) (st := st) (n := n + 4) P hl hkv hvv (h := .int (h : Int)) (t := .int (t : Int)) (b := .key 0) (tl := .unset :: .unset :: .unset :: .unset :: .unset :: U9) 18 0 [] .unset .unset (by omega) rfl
  rw [← rng0, List.nil_append, ← runP_F] at ev
  obtain ⟨loc', st', hk⟩ := k k5 l6 l7
  refine ⟨loc', st', ?_⟩
  have rest : SS c nm9 (n + 5) (b9.drop 3) (.v .scr :: .v (.int (h : Int)) :: .v (.int (t : Int)) :: .unset :: .unset :: .unset :: .unset :: .unset :: .unset :: .unset :: .unset :: .unset :: .unset :: U9) st (.ret (.bool true)) loc' st' := by
    refine ss_assign (st₁ := st) (v := .key 0) rfl (se_key (k := cell2 c.sns 2) (eCell P hl (by decide +kernel) (sE_loc rfl rfl (by decide +kernel)) (eNat (k := 2) rfl)) (by rw [hkv]; rfl)) rfl ?_
    refine ss_own (st₁ := st) (vs := []) rfl sEs_nil (by first | decide | (simp; done)) ?_
    refine ss_assign (st₁ := st) (v := .key 0) rfl (sE_loc rfl rfl (by decide +kernel)) rfl ?_
    refine ss_for (st₁ := st) (st₂ := st) (xs := rng 0 1 18) rfl (si_range1 (y := .int ((18 : Nat) : Int)) (k := 18) (btRange P (by decide +kernel)) (eNat rfl) rfl (by first | decide | (simp; done))) ev ?_
    refine ss_assign (st₁ := st) (v := gsV gs) rfl (sE_call (fn_ok P (k := 1) rfl (by decide +kernel)) (sEs_cons (sE_loc rfl rfl (by decide +kernel)) (sEs_cons (sE_loc rfl rfl (by decide +kernel)) (sEs_cons (sE_loc rfl rfl (by decide +kernel)) sEs_nil))) ?_) rfl ?_
    · rw [hgs]; exact ((groups_code P hl (n + 3) h t ht3.1 ht3.2)).call
    refine ss_assign (st₁ := st) (v := .int (tot : Int)) rfl ?_ rfl ?_
    · have hnum : vnums c (gs.map fun g => V.int ((nsum g + g.length : Nat) : Int)) = some ((gs.map fun g => nsum g + g.length).map fun m : Nat => (m : Int)) := by
        have := nums_ints c (gs.map fun g => nsum g + g.length)
        rw [List.map_map] at this
        exact this
      refine se_eq (sE_bin (x := .int ((totS gs : Nat) : Int)) (se_eq (sE_bltF (btSum P (by decide +kernel)) (sEs_cons (v := .list (gs.map fun g => V.int ((nsum g + g.length : Nat) : Int))) ?_ sEs_nil) (blt_sum hnum)) (by rw [sum_ints]; rfl)) sE_int (bin_sub rfl rfl)) (by show V.int _ = V.int _; congr 1; rw [F.tsum]; omega)
      have hgl : gs.length ≤ 1000 := by
        have hq : ∀ l : List (List Nat), (∀ g ∈ l, 0 < g.length) → l.length ≤ totS l := by
          intro l
          induction l with
          | nil => intro _; exact Nat.zero_le _
          | cons a l ih => intro q; have := q a (.head _); have := ih fun g hg => q g (.tail _ hg); show l.length + 1 ≤ nsum a + a.length + totS l; omega
        have := hq gs hg1
        rw [F.tsum] at this; omega
      have hgm : ∀ g ∈ gs, g.length ≤ 1000 := by
        have hq : ∀ l : List (List Nat), ∀ g ∈ l, g.length ≤ totS l := by
          intro l
          induction l with
          | nil => intro g hg; cases hg
          | cons a l ih =>
            intro g hg
            show g.length ≤ nsum a + a.length + totS l
            cases hg with
            | head => omega
            | tail _ q => have := ih g q; omega
        intro g hg
        have := hq gs g hg
        rw [F.tsum] at this; omega
      have hcev : ∀ (l : List (List Nat)), (∀ g ∈ l, g.length ≤ 1000) → CEv c (compNm nm9 (cS (match sAt b9 8 with | .assign _ _ _ (.bin _ (.call _ _ _ (e :: _) _) _ _) _ => e | _ => .none ⟨0, 0, 0, 0⟩)) "g" []) (n + 5) (cE (match sAt b9 8 with | .assign _ _ _ (.bin _ (.call _ _ _ (e :: _) _) _ _) _ => e | _ => .none ⟨0, 0, 0, 0⟩)) [] (l.map fun g => V.list (g.map fun m : Nat => .int (m : Int))) st (l.map fun g => V.int ((nsum g + g.length : Nat) : Int)) st := by
        intro l
        induction l with
        | nil => intro _; exact .nil
        | cons g l ih =>
          intro hq
          refine .cons ?_ (ih fun g hg => hq g (.tail _ hg))
          have := hq g (.head _)
          refine se_eq (sE_bin (sE_bltF (btSum P (by decide +kernel)) (sEs_cons (sE_loc rfl rfl (by decide +kernel)) sEs_nil) (blt_sum (nums_ints c g))) (eLen P (by decide +kernel) (sE_loc rfl rfl (by decide +kernel)) (by simp; omega)) (bin_add rfl rfl)) ?_
          rw [sum_ints, List.length_map]; rfl
      exact sE_comp (st₁ := st) (okComp_ok (by decide +kernel)) (fun j hj => by cases hj) (si_list (xs := gs.map fun g : List Nat => V.list (g.map fun m : Nat => V.int (m : Int))) (sE_loc rfl rfl (by decide +kernel)) (by simp; omega)) (hcev gs hgm)
    refine ss_freeze (x := "run") rfl rfl ?_
    refine ss_assign (st₁ := st) (v := tr.v) rfl (sE_call (fn_ok P (k := 4) rfl (by decide +kernel)) (sEs_cons (sE_loc rfl rfl (by decide +kernel)) (sEs_cons (sE_loc rfl rfl (by decide +kernel)) (sEs_cons (sE_loc rfl rfl (by decide +kernel)) sEs_nil))) ?_) rfl ?_
    · rw [htr]; exact (blue_code P (n + 2) runP_pair (by first | decide | (simp; done)) h gs hg1 hg2 (by rw [F.tsum, runP_len]; omega)).call
    refine ss_assign (st₁ := st) (v := .list (runP.take tot)) rfl ?_ rfl ?_
    · rw [← pick_to]
      exact sE_slice (st₁ := st) (st₂ := st) (sE_loc rfl rfl (by decide +kernel)) sEo_none (sEo_some (sE_loc rfl rfl (by decide +kernel)) rfl) (by first | decide | (simp; done))
    refine ss_assign (st₁ := st) (v := .list (.int (t : Int) :: tr.flat)) rfl ?_ rfl ?_
    · have hfl := T.flat_len tr
      exact sE_bin (sE_list (sEs_cons (sE_loc rfl rfl (by decide +kernel)) sEs_nil) (by first | decide | (simp; done))) (sE_call (fn_ok P (k := 7) rfl (by decide +kernel)) (sEs_cons (sE_loc rfl rfl (by decide +kernel)) sEs_nil) (lflat_code P (n + 3) tr F.deep (by omega)).call) (bin_cat (xs := [.int (t : Int)]) (by simp; omega))
    exact hk
  refine ss_assign (st₁ := st) (v := .int (h : Int)) rfl (by rw [hh]; exact eMod (by first | decide | (simp; done)) (eCell P hl (by decide +kernel) (sE_loc rfl rfl (by decide +kernel)) (eNat (k := 0) rfl)) (eNat rfl)) rfl ?_
  refine ss_assign (st₁ := st) (v := .int 2) rfl sE_int rfl ?_
  have cc : SC c nm9 (n + 5) (sAt b9 2).cd (.v .scr :: .v (.int (h : Int)) :: .v (.int 2) :: .unset :: .unset :: .unset :: .unset :: .unset :: .unset :: .unset :: .unset :: .unset :: .unset :: U9) st (decide ((h : Int) < 2)) st := sC_cmp (sE_loc rfl rfl (by decide +kernel)) sE_int (cmp_lt rfl rfl)
  by_cases hh2 : h < 2
  · rw [if_pos hh2] at ht
    refine ss_if_t (sc_eq cc (decide_eq_true (by omega))) (ss_assign (st₁ := st) (v := .int (t : Int)) rfl (by rw [ht]; exact eAdd (eNat rfl) (eMod (by first | decide | (simp; done)) (eCell P hl (by decide +kernel) (sE_loc rfl rfl (by decide +kernel)) (eNat (k := 1) rfl)) (eNat rfl))) rfl ss_nil) rest
  · rw [if_neg hh2] at ht
    rw [ht] at rest
    exact ss_if_f (sc_eq cc (decide_eq_false (by omega))) ss_nil rest
/-- from the spoilt tree on -/
theorem tail2 (P : PgOk c pg2) (hl : c.sns.length ≤ 63) {h t tot : Nat} {gs : List (List Nat)} {tr : T} (F : Fx c h t gs tr tot) (ht : 2 ≤ t ∧ t ≤ 3) (hg1 : ∀ g ∈ gs, 0 < g.length) (hg2 : 0 < gs.length) (b3 k5 l6 l7 l11 l12 l13 l14 l15 l16 l17 : LV) :
    ∃ loc' st', SS c nm9 (n + 5) (b9.drop 25) [.v .scr, .v (.int (h : Int)), .v (.int (t : Int)), b3, .v (.list runP), k5, l6, l7, .v (gsV gs), .v (.int (tot : Int)), .v tr.v, l11, l12, l13, l14, l15, l16, l17, .unset, .unset, .unset, .unset] st (.ret (.bool true)) loc' st' := by
  obtain ⟨r, ext, tr', size, wrong, hsp, hrep, vd⟩ := spoilt_code (c := c) (st := st) P hl n F ht hg1 hg2
  generalize hst4 : st ++ ext = st4 at hsp hrep
  have hnew := canopy_new (st := st4) P n (.int (t : Int))
  generalize hst5 : st4 ++ [(⟨1, [.int (t : Int), .obj (st4.length + 1), .int 0]⟩ : Inst), ⟨0, [.list [], .list [], .list []]⟩] = st5 at hnew
  have ho5 : st5[st4.length]? = some ⟨1, [.int (t : Int), .obj (st4.length + 1), .int 0]⟩ := by rw [← hst5]; exact get_last ..
  have hrep5 : Rep st5 r tr' := by rw [← hst5]; exact pre_rep hrep
  have hlt := (List.getElem?_eq_some_iff.mp ho5).1
  have had := adopt_code (st := st5) P (n + 4) (r := .obj r) (s := .int size) ho5
  generalize hst6 : st5.set st4.length ⟨1, [.int (t : Int), .obj r, .int size]⟩ = st6 at had
  have ho6 : st6[st4.length]? = some ⟨1, [.int (t : Int), .obj r, .int size]⟩ := by rw [← hst6]; exact List.getElem?_set_self hlt
  have hrep6 : Rep st6 r tr' := hrep5.mono fun k i e hc => by
    rw [← hst6]
    by_cases hk : k = st4.length
    · subst hk; rw [ho5] at e; cases e; cases hc
    · rw [List.getElem?_set_ne (Ne.symm hk)]; exact e
  generalize hL : [LV.v .scr, .v (.int (h : Int)), .v (.int (t : Int)), b3, .v (.list runP), k5, l6, l7, .v (gsV gs), .v (.int (tot : Int)), .v tr.v, l11, l12, l13, l14, l15, l16, l17, .v (.obj r), .v (.int size), .v (.int wrong), .v (.obj st4.length)] = L
  have ht10 : t ≤ 10 := by omega
  have c28 : SC c nm9 (n + 5) (sAt b9 28).cd L st6 false st6 := by
    subst hL
    exact sC_cmp (mCall P (cl := 1) (kf := 22) rfl rfl (sE_loc rfl rfl (by decide +kernel)) ho6 rfl sEs_nil ((check_code P n ho6 hrep6 ht10 vd.kn vd.sz).mono (by omega)) rfl (by first | decide | (simp; done)) rfl) (sE_cmp (sE_loc rfl rfl (by decide +kernel)) sE_int (cmp_eqi rfl rfl)) (cmp_eqB vd.ck)
  have c29 : SC c nm9 (n + 5) (sAt b9 29).cd L st6 false st6 := by
    subst hL
    exact sC_cmp (mCall P (cl := 1) (kf := 19) rfl rfl (sE_loc rfl rfl (by decide +kernel)) ho6 rfl (sEs_cons (sE_loc rfl rfl (by decide +kernel)) (sEs_cons sE_bool sEs_nil)) ((shape_code P n ho6 hrep6 ht10 vd.sz).mono (by omega)) rfl (by first | decide | (simp; done)) rfl) (sE_cmp (sE_loc rfl rfl (by decide +kernel)) sE_int (cmp_nei rfl rfl)) (cmp_eqB vd.sh)
  have c30 : SC c nm9 (n + 5) (sAt b9 30).cd L st6 false st6 := by
    subst hL
    refine sc_eq (sc_and2 (x := wrong != 1) (y := false) (sC_cmp (sE_loc rfl rfl (by decide +kernel)) sE_int (cmp_nei rfl rfl)) fun hw => ?_) (by simp)
    have hw' : wrong ≠ 1 := by simpa using hw
    exact sC_cmp (mCall P (cl := 1) (kf := 20) rfl rfl (sE_loc rfl rfl (by decide +kernel)) ho6 rfl (sEs_cons (sE_loc rfl rfl (by decide +kernel)) (sEs_cons sE_none (sEs_cons sE_none sEs_nil))) ((keys_code P n hrep6 (vd.kn (by rw [vd.sh]; exact hw)) vd.sz).mono (by omega)) rfl (by first | decide | (simp; done)) rfl) (sE_cmp (sE_loc rfl rfl (by decide +kernel)) sE_int (cmp_nei rfl rfl)) (cmp_eqB (vd.ky hw'))
  have c31 : SC c nm9 (n + 5) (sAt b9 31).cd L st6 false st6 := by
    subst hL
    refine sc_eq (sc_and2 (x := wrong == 3) (y := false) (sC_cmp (sE_loc rfl rfl (by decide +kernel)) sE_int (cmp_eqi rfl rfl)) fun hw => ?_) (by simp)
    have hw' : wrong = 3 := by simpa using hw
    exact sC_cmp (mCall P (cl := 1) (kf := 21) rfl rfl (sE_loc rfl rfl (by decide +kernel)) ho6 rfl (sEs_cons (sE_loc rfl rfl (by decide +kernel)) sEs_nil) ((level_code P n hrep6 vd.sz).mono (by omega)) rfl (by first | decide | (simp; done)) rfl) sE_neg (cmp_nen (vd.lv hw'))
  refine ⟨L, st6, ?_⟩
  refine ss_unpack (st₁ := st4) (vs := [.obj r, .int size, .int wrong]) ?_ (sE_call (fn_ok P (k := 8) rfl (by decide +kernel)) (sEs_cons (sE_loc rfl rfl (by decide +kernel)) (sEs_cons (sE_loc rfl rfl (by decide +kernel)) (sEs_cons (sE_loc rfl rfl (by decide +kernel)) (sEs_cons (sE_loc rfl rfl (by decide +kernel)) (sEs_cons (sE_loc rfl rfl (by decide +kernel)) (sEs_cons (sE_loc rfl rfl (by decide +kernel)) (sEs_cons (sE_loc rfl rfl (by decide +kernel)) sEs_nil))))))) hsp.call) rfl rfl (fun _ _ _ q => by cases q) ?_
  · intro y hy
    cases hy with
    | head => rfl
    | tail _ hy =>
      cases hy with
      | head => rfl
      | tail _ hy =>
        cases hy with
        | head => rfl
        | tail _ hy => cases hy
  refine ss_assign (st₁ := st5) (v := .obj st4.length) rfl (sE_new (clsOk P (k := 1) rfl (by decide +kernel)) (sEs_cons (sE_loc rfl rfl (by decide +kernel)) sEs_nil) (hnew.mono (by omega)).call) rfl ?_
  refine ss_expr (st₁ := st6) (v := .none) (mCall2 P (cl := 1) (kf := 14) rfl rfl (sE_loc rfl rfl (by decide +kernel)) ho5 rfl (sEs_cons (sE_loc rfl rfl (by decide +kernel)) (sEs_cons (sE_loc rfl rfl (by decide +kernel)) sEs_nil)) had rfl (by first | decide | (simp; done)) rfl) rfl ?_
  subst hL
  exact ss_if_f c28 ss_nil (ss_if_f c29 ss_nil (ss_if_f c30 ss_nil (ss_if_f c31 ss_nil (ss_return sE_bool))))
theorem law2 (P : PgOk c pg2) (hl : c.sns.length ≤ 63) (hkv : c.kv = kv2 c.sns) (hvv : c.vv = vv2 c.sns) (h3 : ∃ o, c.hb.get? 3 = some o) {d : FnD} (hf : FnAt c (addr2 9) d nm9 1 b9) (n : Nat) : ∃ st', SCode c (n + 6) (addr2 9) [.scr] [] (.bool true) st' := by
  generalize hh : fm (cell2 c.sns 0) 3 = h
  generalize ht : (if h < 2 then 2 + fm (cell2 c.sns 1) 2 else 2) = t
  have hh3 : h ≤ 2 := by have := fm_lt (cell2 c.sns 0) (k := 3) (by first | decide | (simp; done)); omega
  have ht3 : 2 ≤ t ∧ t ≤ 3 := by
    have := fm_lt (cell2 c.sns 1) (k := 2) (by first | decide | (simp; done))
    split at ht <;> omega
  have h2t : h = 2 → t = 2 := fun q => by rw [q, if_neg (by first | decide | (simp; done))] at ht; exact ht.symm
  generalize hgs : grpP c.sns h t = gs
  obtain ⟨hg1, hg2⟩ := grp_pos c.sns h t
  rw [hgs] at hg1 hg2
  have F := fx_of (hgs ▸ chk_all c c.sns h t hh3 (by omega) h2t)
  generalize htr : bpP runP h gs = tr at F
  generalize htot : totP gs = tot at F
  have hsz := F.size
  have hfl := T.flat_len tr
  have ht17 := F.tle
  -- the first map
  have hnew := canopy_new (st := []) P n (.int (t : Int))
  have hm1 : ([(⟨1, [.int (t : Int), .obj 1, .int 0]⟩ : Inst), ⟨0, [.list [], .list [], .list []]⟩] : List Inst)[0]? = some ⟨1, [.int (t : Int), .obj 1, .int 0]⟩ := rfl
  generalize hst1 : ([(⟨1, [.int (t : Int), .obj 1, .int 0]⟩ : Inst), ⟨0, [.list [], .list [], .list []]⟩] : List Inst) = st1 at hm1
  have hrep1 : Rep st1 1 (.nd [] [] []) := by rw [← hst1]; exact .nd (kids := []) rfl fun x hx => by cases hx
  replace hnew : SCode c (n + 4) (c.cls 1) [.int (t : Int)] [] (.obj 0) st1 := by rw [← hst1]; exact hnew
  obtain ⟨r, ext, hbd, hrep2⟩ := build_code (c := c) (st := st1) P (n + 2) tr F.deep (by omega)
  have hm2 : (st1 ++ ext)[0]? = some ⟨1, [.int (t : Int), .obj 1, .int 0]⟩ := by rw [← hst1]; rfl
  have had := adopt_code (st := st1 ++ ext) P (n + 4) (r := .obj r) (s := .int (tot : Int)) hm2
  have hlt := (List.getElem?_eq_some_iff.mp hm2).1
  generalize hst3 : (st1 ++ ext).set 0 ⟨1, [.int (t : Int), .obj r, .int (tot : Int)]⟩ = st3 at had
  have hm3 : st3[0]? = some ⟨1, [.int (t : Int), .obj r, .int (tot : Int)]⟩ := by rw [← hst3]; exact List.getElem?_set_self hlt
  have hrep3 : Rep st3 r tr := hrep2.mono fun k i e hc => by
    rw [← hst3]
    by_cases hk : k = 0
    · subst hk; rw [hm2] at e; cases e; cases hc
    · rw [List.getElem?_set_ne (Ne.symm hk)]; exact e
  have goAll : ∀ k5 l6 l7, ∃ loc' st', SS c nm9 (n + 5) (b9.drop 13) (.v .scr :: .v (.int (h : Int)) :: .v (.int (t : Int)) :: .v (.key 0) :: .v (.list runP) :: k5 :: l6 :: l7 :: .v (gsV gs) :: .v (.int (tot : Int)) :: .v tr.v :: .v (.list (runP.take tot)) :: .v (.list (.int (t : Int) :: tr.flat)) :: U9) [] (.ret (.bool true)) loc' st' := by
    intro k5 l6 l7
    generalize hL : ([LV.v .scr, .v (.int (h : Int)), .v (.int (t : Int)), .v (.key 0), .v (.list runP), k5, l6, l7, .v (gsV gs), .v (.int (tot : Int)), .v tr.v, .v (.list (runP.take tot)), .v (.list (.int (t : Int) :: tr.flat)), .v (.obj 0)] : List LV) = pre
    have hpl : pre.length = 14 := by rw [← hL]; rfl
    -- the empty map
    have c14 : SC c nm9 (n + 5) (sAt b9 14).cd (pre ++ [.unset, .unset, .unset, .unset, .unset, .unset, .unset, .unset]) st1 false st1 := by
      subst hL
      refine sc_or2f (sC_cmp (mCall P (cl := 1) (kf := 25) rfl rfl (sE_loc rfl rfl (by decide +kernel)) hm1 rfl sEs_nil ((flat_code P n hm1 hrep1 (by first | decide | (simp; done)) (by first | decide | (simp; done))).mono (by omega)) rfl (by first | decide | (simp; done)) rfl) (sE_list (sEs_cons (sE_loc rfl rfl (by decide +kernel)) (sEs_cons sE_int (sEs_cons sE_int sEs_nil))) (by first | decide | (simp; done))) ?_) (sC_cmp (mCall P (cl := 1) (kf := 22) rfl rfl (sE_loc rfl rfl (by decide +kernel)) hm1 rfl sEs_nil ((check_code P n hm1 hrep1 (by omega) (fun _ => rfl) (by first | decide | (simp; done))).mono (by omega)) rfl (by first | decide | (simp; done)) rfl) sE_bool (cmp_is_bool (.inr ⟨rfl, ?_⟩)))
      · have : t = 2 ∨ t = 3 := by omega
        rcases this with rfl | rfl
        · exact cmp_neV rfl
        · exact cmp_neV rfl
      · have : t = 2 ∨ t = 3 := by omega
        rcases this with rfl | rfl
        · rfl
        · rfl
    generalize hU8 : ([.unset, .unset, .unset, .unset, .unset, .unset, .unset, .unset] : List LV) = U8 at c14
    have flat3 : ∀ {tl : List LV} {p q r : Ps}, (q.endLine == r.line) = true → SE c nm9 (n + 5) (.meth (.loc 13 "m" p) 13 "flat" q [] r) (pre ++ tl) st3 (.list (.int (t : Int) :: tr.flat)) st3 := fun {tl p q r} hq => by
      subst hL; exact mCall P (cl := 1) (kf := 25) rfl rfl (sE_loc rfl rfl (by decide +kernel)) hm3 rfl sEs_nil ((flat_code P n hm3 hrep3 (by omega) (by omega)).mono (by omega)) rfl (by first | decide | (simp; done)) hq
    have pairs3 : ∀ {tl : List LV} {p q r : Ps}, (q.endLine == r.line) = true → SE c nm9 (n + 5) (.meth (.loc 13 "m" p) 6 "pairs" q [] r) (pre ++ tl) st3 (.list tr.prs) st3 := fun {tl p q r} hq => by
      subst hL; exact mCall P (cl := 1) (kf := 18) rfl rfl (sE_loc rfl rfl (by decide +kernel)) hm3 rfl sEs_nil ((pairs_code P n hm3 hrep3 F.law (by omega)).mono (by omega)) rfl (by first | decide | (simp; done)) hq
    have laid3 : ∀ {tl : List LV} {p : Ps}, SE c nm9 (n + 5) (.loc 12 "laid" p) (pre ++ tl) st3 (.list (.int (t : Int) :: tr.flat)) st3 := fun {tl p} => by subst hL; exact (sE_loc rfl rfl (by decide +kernel))
    have want3 : ∀ {tl : List LV} {p : Ps}, SE c nm9 (n + 5) (.loc 11 "want" p) (pre ++ tl) st3 (.list (runP.take tot)) st3 := fun {tl p} => by subst hL; exact (sE_loc rfl rfl (by decide +kernel))
    have tot3 : ∀ {tl : List LV} {p : Ps}, SE c nm9 (n + 5) (.loc 9 "total" p) (pre ++ tl) st3 (.int (tot : Int)) st3 := fun {tl p} => by subst hL; exact (sE_loc rfl rfl (by decide +kernel))
    have c16 : SC c nm9 (n + 5) (sAt b9 16).cd (pre ++ U8) st3 false st3 := sc_or2f (sC_cmp (flat3 rfl) laid3 (cmp_neV F.flat)) (sC_cmp (pairs3 rfl) want3 (cmp_neV F.prs))
    have c17 : SC c nm9 (n + 5) (sAt b9 17).cd (pre ++ U8) st3 false st3 := by
      refine sc_or2f (sC_cmp (st₁ := st3) (x := .int (tr.cnt : Int)) ?_ tot3 (cmp_nen (by rw [F.cnt]))) (sC_cmp (st₁ := st3) (x := .bool (chkP c t (tot : Int) tr)) ?_ sE_bool (cmp_is_bool (.inr ⟨rfl, ?_⟩)))
      · subst hL; exact mCall P (cl := 1) (kf := 23) rfl rfl (sE_loc rfl rfl (by decide +kernel)) hm3 rfl (sEs_cons (aRoot P (sE_loc rfl rfl (by decide +kernel)) hm3 rfl) sEs_nil) ((count_code P n hrep3 (by omega)).mono (by omega)) rfl (by first | decide | (simp; done)) rfl
      · subst hL; exact mCall P (cl := 1) (kf := 22) rfl rfl (sE_loc rfl rfl (by decide +kernel)) hm3 rfl sEs_nil ((check_code P n hm3 hrep3 (by omega) (fun _ => F.kn) (by omega)).mono (by omega)) rfl (by first | decide | (simp; done)) rfl
      · rw [chkP_of F.shp F.kok F.lvl (by omega) (by rw [F.cnt])]; rfl
    have c18 : SC c nm9 (n + 5) (sAt b9 18).cd (pre ++ U8) st3 false st3 := by
      refine sc_or2f (sC_cmp (st₁ := st3) (x := .int tr.lvl) (y := .int (h : Int)) ?_ ?_ (cmp_nen F.lvl)) (sC_cmp (st₁ := st3) (x := .int (tr.hgt : Int)) (y := .int (h : Int)) ?_ ?_ (cmp_nen (by rw [F.hgt])))
      · subst hL; exact mCall P (cl := 1) (kf := 21) rfl rfl (sE_loc rfl rfl (by decide +kernel)) hm3 rfl (sEs_cons (aRoot P (sE_loc rfl rfl (by decide +kernel)) hm3 rfl) sEs_nil) ((level_code P n hrep3 (by omega)).mono (by omega)) rfl (by first | decide | (simp; done)) rfl
      · subst hL; exact (sE_loc rfl rfl (by decide +kernel))
      · subst hL; exact mCall P (cl := 1) (kf := 16) rfl rfl (sE_loc rfl rfl (by decide +kernel)) hm3 rfl sEs_nil ((height_code P n hm3 hrep3 (by omega)).mono (by omega)) rfl (by first | decide | (simp; done)) rfl
      · subst hL; exact (sE_loc rfl rfl (by decide +kernel))
    -- the asks
    obtain ⟨l16, evA⟩ := ask_loop (c := c) (st := st3) (n := n + 5) hpl (tl := [.unset, .unset, .unset, .unset, .unset]) tot 0 .unset (by omega)
    rw [Nat.zero_add, ← take_F tot (by omega)] at evA
    have cN : ∀ x ∈ asksP c tot, SC c nm9 (n + 5) (sAt (sAt b9 23).bd 0).cd ((pre ++ [.dct (dfun c tot) tot, .v (.list (asksP c tot)), l16, .unset, .unset, .unset, .unset, .unset]).set 17 (.v x)) st3 false st3 := by
      intro x hx
      obtain ⟨i, m, e, hi, hm, ha⟩ := asks_at c tot x hx
      have hgot : (dfun c tot i).getD .none = gotP tot m e := by
        rw [dfun_at ha]; unfold gotP
        cases (e && Nat.ble (m + 1) tot) <;> rfl
      have hlk := F.look m hm e
      have elt : ∀ j k, CmpOk c k .lt (.key j) x (klt m (.key j)) := fun j k => by
        have := cmp_lt (c := c) (n := k) (a := .key j) (b := x) (i := c.kv j) rfl hi
        rw [ha.lt j] at this; exact this
      have eeq : ∀ j k, CmpOk c k .eq (.key j) x (keq m e (.key j)) := fun j k => by
        have := cmp_eqi (c := c) (n := k) (a := .key j) (b := x) (i := c.kv j) rfl hi
        rw [ha.eq j] at this; exact this
      rw [← hgot] at hlk
      subst hL
      exact sC_cmp (mCall P (cl := 1) (kf := 15) rfl rfl (sE_loc rfl rfl (by decide +kernel)) hm3 rfl (sEs_cons (sE_loc rfl rfl (by decide +kernel)) sEs_nil) ((look_code P n (f := 3) hm3 elt eeq hrep3 F.law F.kk F.deep (by omega)).mono (by omega)) rfl (by first | decide | (simp; done)) rfl) (sE_get (i := 14) (x := "known") rfl rfl (by decide +kernel) (sE_loc rfl rfl (by decide +kernel)) hi rfl) (cmp_neV hlk)
    obtain ⟨l17, evN⟩ := near_loop (c := c) (st := st3) (n := n + 5) (loc0 := pre ++ [.dct (dfun c tot) tot, .v (.list (asksP c tot)), l16, .unset, .unset, .unset, .unset, .unset]) .none (asksP c tot) .unset cN (by rw [List.length_append, hpl]; simp)
    have c24 : SC c nm9 (n + 5) (sAt b9 24).cd (pre ++ [.dct (dfun c tot) tot, .v (.list (asksP c tot)), l16, l17, .unset, .unset, .unset, .unset]) st3 false st3 := by
      refine sc_or3 (sC_cmp (flat3 rfl) laid3 (cmp_neV F.flat)) (sC_cmp (pairs3 rfl) want3 (cmp_neV F.prs)) (sC_cmp (st₁ := st3) (x := .int (tot : Int)) ?_ tot3 (cmp_nen rfl))
      subst hL; exact aSize P (sE_loc rfl rfl (by decide +kernel)) hm3 rfl
    obtain ⟨loc', st', ev⟩ := tail2 (c := c) (st := st3) (n := n) P hl F ht3 hg1 hg2 (.v (.key 0)) k5 l6 l7 (.v (.list (runP.take tot))) (.v (.list (.int (t : Int) :: tr.flat))) (.v (.obj 0)) (.dct (dfun c tot) tot) (.v (.list (asksP c tot))) l16 l17
    refine ⟨loc', st', ?_⟩
    refine ss_assign (st₁ := st1) (v := .obj 0) rfl (sE_new (clsOk P (k := 1) rfl (by decide +kernel)) (sEs_cons (sE_loc rfl rfl (by decide +kernel)) sEs_nil) (hnew.mono (by omega)).call) rfl ?_
    have eL : ((.v .scr :: .v (.int (h : Int)) :: .v (.int (t : Int)) :: .v (.key 0) :: .v (.list runP) :: k5 :: l6 :: l7 :: .v (gsV gs) :: .v (.int (tot : Int)) :: .v tr.v :: .v (.list (runP.take tot)) :: .v (.list (.int (t : Int) :: tr.flat)) :: U9 : List LV).set 13 (.v (.obj 0))) = pre ++ U8 := by rw [← hL, ← hU8]; rfl
    rw [eL]
    refine ss_if_f c14 ss_nil ?_
    refine ss_expr (st₁ := st3) (v := .none) (mCall2 P (cl := 1) (kf := 14) (k := 0) (vs := [.obj r, .int (tot : Int)]) (st₁ := st1 ++ ext) rfl rfl ?_ hm1 rfl (sEs_cons (st₁ := st1 ++ ext) (sE_call (fn_ok P (k := 5) rfl (by decide +kernel)) (sEs_cons (v := tr.v) (st₁ := st1) ?_ sEs_nil) hbd.call) (sEs_cons (st₁ := st1 ++ ext) ?_ sEs_nil)) had rfl (by first | decide | (simp; done)) rfl) rfl ?_
    · subst hL; exact (sE_loc rfl rfl (by decide +kernel))
    · subst hL; exact (sE_loc rfl rfl (by decide +kernel))
    · subst hL; exact (sE_loc rfl rfl (by decide +kernel))
    refine ss_if_f c16 ss_nil (ss_if_f c17 ss_nil (ss_if_f c18 ss_nil ?_))
    refine ss_cons (loc₁ := pre ++ [.dct (dfun c 0) 0, .unset, .unset, .unset, .unset, .unset, .unset, .unset]) (st₁ := st3) rfl ?_ ?_
    · have := sx_dict0 (c := c) (nm := nm9) (n := n + 5) (loc := pre ++ U8) (st := st3) (i := 14) (x := "known") (q := ⟨331, 4, 331, 9⟩) (dp := ⟨331, 12, 331, 14⟩) (p := ⟨331, 4, 331, 14⟩) rfl h3
      rw [← hL, ← hU8] at this ⊢
      exact this
    refine ss_own (st₁ := st3) (vs := asksP c 0) rfl (sEs_cons (st₁ := st3) (v := .int (c.kv 0 - 1)) (sE_bin (x := .key 0) (y := .int 1) (st₁ := st3) ?_ sE_int (bin_sub (i := c.kv 0) rfl rfl)) (sEs_cons (st₁ := st3) (v := .key 0) ?_ sEs_nil)) (by rw [asksP_len]; omega) ?_
    · subst hL; exact (sE_loc rfl rfl (by decide +kernel))
    · subst hL; exact (sE_loc rfl rfl (by decide +kernel))
    have eA : (pre ++ [LV.dct (dfun c 0) 0, .unset, .unset, .unset, .unset, .unset, .unset, .unset]).set 15 (.own (asksP c 0)) = pre ++ .dct (dfun c 0) 0 :: .own (asksP c 0) :: .unset :: [.unset, .unset, .unset, .unset, .unset] := by rw [← hL]; rfl
    rw [eA]
    refine ss_for (st₁ := st3) (st₂ := st3) (xs := runP.take tot) rfl (si_list want3 (by rw [List.length_take]; omega)) evA ?_
    refine ss_freeze (xs := asksP c tot) (x := "asks") rfl (by rw [← hL]; rfl) ?_
    have eB : (pre ++ .dct (dfun c tot) tot :: .own (asksP c tot) :: l16 :: [.unset, .unset, .unset, .unset, .unset]).set 15 (.v (.list (asksP c tot))) = (pre ++ [.dct (dfun c tot) tot, .v (.list (asksP c tot)), l16, .unset, .unset, .unset, .unset, .unset]).set 17 .unset := by rw [← hL]; rfl
    rw [eB]
    refine ss_for (st₁ := st3) (st₂ := st3) (xs := asksP c tot) rfl (si_list (by subst hL; exact (sE_loc rfl rfl (by decide +kernel))) (by rw [asksP_len]; omega)) evN ?_
    have eC : (pre ++ [.dct (dfun c tot) tot, .v (.list (asksP c tot)), l16, .unset, .unset, .unset, .unset, .unset]).set 17 l17 = pre ++ [.dct (dfun c tot) tot, .v (.list (asksP c tot)), l16, l17, .unset, .unset, .unset, .unset] := by rw [← hL]; rfl
    rw [eC]
    refine ss_if_f c24 ss_nil ?_
    subst hL
    exact ev
  obtain ⟨loc', st', hs⟩ := front2 (c := c) (st := []) (n := n) P hl hkv hvv hh.symm ht.symm hgs.symm htr.symm F goAll
  exact ⟨st', sCode_fn hf rfl hs (.ret _)⟩
end
end Mine

set_option maxHeartbeats 8000000
namespace Mine
open PySem PySem.W PyProof.Rows
noncomputable def K2 (P : Params) : Frag := [
  (3, ({ cls := PySem.Value.type "dict", data := PySem.Data.dict #[{ hash := PySem.PyData.keyHash P (PySem.Str.ofString "__name__"), key := PySem.Value.str (PySem.Str.ofString "__name__") 165, val := PySem.Value.str (PySem.Str.ofString "law_pd_canopyofobjects_2_02") 535 }, { hash := PySem.PyData.keyHash P (PySem.Str.ofString "__doc__"), key := PySem.Value.str (PySem.Str.ofString "__doc__") 166, val := PySem.Value.none }, { hash := PySem.PyData.keyHash P (PySem.Str.ofString "__package__"), key := PySem.Value.str (PySem.Str.ofString "__package__") 167, val := PySem.Value.none }, { hash := PySem.PyData.keyHash P (PySem.Str.ofString "__loader__"), key := PySem.Value.str (PySem.Str.ofString "__loader__") 168, val := PySem.Value.builtin "__main__.__loader__#opaque" }, { hash := PySem.PyData.keyHash P (PySem.Str.ofString "__spec__"), key := PySem.Value.str (PySem.Str.ofString "__spec__") 169, val := PySem.Value.none }, { hash := PySem.PyData.keyHash P (PySem.Str.ofString "__annotations__"), key := PySem.Value.str (PySem.Str.ofString "__annotations__") 170, val := PySem.Value.ref 6 }, { hash := PySem.PyData.keyHash P (PySem.Str.ofString "__builtins__"), key := PySem.Value.str (PySem.Str.ofString "__builtins__") 171, val := PySem.Value.ref 4 }, { hash := PySem.PyData.keyHash P (PySem.Str.ofString "__file__"), key := PySem.Value.str (PySem.Str.ofString "__file__") 173, val := PySem.Value.str (PySem.Str.ofString "/claim/cut.py") 172 }, { hash := PySem.PyData.keyHash P (PySem.Str.ofString "__cached__"), key := PySem.Value.str (PySem.Str.ofString "__cached__") 174, val := PySem.Value.none }, { hash := PySem.PyData.keyHash P (PySem.Str.ofString "_wall"), key := PySem.Value.str (PySem.Str.ofString "_wall") 193, val := PySem.Value.ref 21 }, { hash := PySem.PyData.keyHash P (PySem.Str.ofString "Node"), key := PySem.Value.str (PySem.Str.ofString "Node") 256, val := PySem.Value.ref 59 }, { hash := PySem.PyData.keyHash P (PySem.Str.ofString "Canopy"), key := PySem.Value.str (PySem.Str.ofString "Canopy") 534, val := PySem.Value.ref 255 }, { hash := PySem.PyData.keyHash P (PySem.Str.ofString "_law_cell"), key := PySem.Value.str (PySem.Str.ofString "_law_cell") 544, val := PySem.Value.ref 266 }, { hash := PySem.PyData.keyHash P (PySem.Str.ofString "_law_groups"), key := PySem.Value.str (PySem.Str.ofString "_law_groups") 550, val := PySem.Value.ref 271 }, { hash := PySem.PyData.keyHash P (PySem.Str.ofString "_law_node"), key := PySem.Value.str (PySem.Str.ofString "_law_node") 556, val := PySem.Value.ref 276 }, { hash := PySem.PyData.keyHash P (PySem.Str.ofString "_law_branch"), key := PySem.Value.str (PySem.Str.ofString "_law_branch") 568, val := PySem.Value.ref 283 }, { hash := PySem.PyData.keyHash P (PySem.Str.ofString "_law_blueprint"), key := PySem.Value.str (PySem.Str.ofString "_law_blueprint") 581, val := PySem.Value.ref 290 }, { hash := PySem.PyData.keyHash P (PySem.Str.ofString "_law_build"), key := PySem.Value.str (PySem.Str.ofString "_law_build") 587, val := PySem.Value.ref 295 }, { hash := PySem.PyData.keyHash P (PySem.Str.ofString "_law_head"), key := PySem.Value.str (PySem.Str.ofString "_law_head") 594, val := PySem.Value.ref 302 }, { hash := PySem.PyData.keyHash P (PySem.Str.ofString "_law_flat"), key := PySem.Value.str (PySem.Str.ofString "_law_flat") 604, val := PySem.Value.ref 309 }, { hash := PySem.PyData.keyHash P (PySem.Str.ofString "_law_spoilt"), key := PySem.Value.str (PySem.Str.ofString "_law_spoilt") 610, val := PySem.Value.ref 314 }, { hash := PySem.PyData.keyHash P (PySem.Str.ofString "law"), key := PySem.Value.str (PySem.Str.ofString "law") 616, val := PySem.Value.ref 319 }] 22 } : PySem.Obj)),
  (58, ({ cls := PySem.Value.type "dict", data := PySem.Data.dict #[{ hash := PySem.PyData.keyHash P (PySem.Str.ofString "__module__"), key := PySem.Value.str (PySem.Str.ofString "__module__") 203, val := PySem.Value.str (PySem.Str.ofString "canopy.core") 194 }, { hash := PySem.PyData.keyHash P (PySem.Str.ofString "__firstlineno__"), key := PySem.Value.str (PySem.Str.ofString "__firstlineno__") 207, val := PySem.Value.int 5 206 }, { hash := PySem.PyData.keyHash P (PySem.Str.ofString "__init__"), key := PySem.Value.str (PySem.Str.ofString "__init__") 217, val := PySem.Value.ref 35 }, { hash := PySem.PyData.keyHash P (PySem.Str.ofString "is_leaf"), key := PySem.Value.str (PySem.Str.ofString "is_leaf") 224, val := PySem.Value.ref 42 }, { hash := PySem.PyData.keyHash P (PySem.Str.ofString "slot"), key := PySem.Value.str (PySem.Str.ofString "slot") 235, val := PySem.Value.ref 49 }, { hash := PySem.PyData.keyHash P (PySem.Str.ofString "lay"), key := PySem.Value.str (PySem.Str.ofString "lay") 245, val := PySem.Value.ref 56 }, { hash := PySem.PyData.keyHash P (PySem.Str.ofString "__static_attributes__"), key := PySem.Value.str (PySem.Str.ofString "__static_attributes__") 249, val := PySem.Value.ref 57 }, { hash := PySem.PyData.keyHash P (PySem.Str.ofString "__dict__"), key := PySem.Value.str (PySem.Str.ofString "__dict__") 251, val := PySem.Value.ref 60 }, { hash := PySem.PyData.keyHash P (PySem.Str.ofString "__weakref__"), key := PySem.Value.str (PySem.Str.ofString "__weakref__") 253, val := PySem.Value.ref 61 }, { hash := PySem.PyData.keyHash P (PySem.Str.ofString "__doc__"), key := PySem.Value.str (PySem.Str.ofString "__doc__") 254, val := PySem.Value.none }] 4 } : PySem.Obj)),
  (59, ({ cls := PySem.Value.type "type", data := PySem.Data.cls { name := PySem.Str.ofString "Node", bases := [PySem.Value.type "object"], mro := [PySem.Value.ref 59, PySem.Value.type "object"], ns := 58, qualname := PySem.Str.ofString "Node" }, slots := #[Option.none, Option.none, Option.some (PySem.Value.str (PySem.Str.ofString "Node") 196), Option.some (PySem.Value.str (PySem.Str.ofString "Node") 204), Option.some (PySem.Value.builtin "object.__new__"), Option.some (PySem.Value.bool Bool.true)] } : PySem.Obj)),
  (254, ({ cls := PySem.Value.type "dict", data := PySem.Data.dict #[{ hash := PySem.PyData.keyHash P (PySem.Str.ofString "__module__"), key := PySem.Value.str (PySem.Str.ofString "__module__") 264, val := PySem.Value.str (PySem.Str.ofString "canopy.core") 194 }, { hash := PySem.PyData.keyHash P (PySem.Str.ofString "__firstlineno__"), key := PySem.Value.str (PySem.Str.ofString "__firstlineno__") 268, val := PySem.Value.int 28 267 }, { hash := PySem.PyData.keyHash P (PySem.Str.ofString "__init__"), key := PySem.Value.str (PySem.Str.ofString "__init__") 276, val := PySem.Value.ref 77 }, { hash := PySem.PyData.keyHash P (PySem.Str.ofString "adopt"), key := PySem.Value.str (PySem.Str.ofString "adopt") 285, val := PySem.Value.ref 84 }, { hash := PySem.PyData.keyHash P (PySem.Str.ofString "lookup"), key := PySem.Value.str (PySem.Str.ofString "lookup") 295, val := PySem.Value.ref 91 }, { hash := PySem.PyData.keyHash P (PySem.Str.ofString "height"), key := PySem.Value.str (PySem.Str.ofString "height") 304, val := PySem.Value.ref 98 }, { hash := PySem.PyData.keyHash P (PySem.Str.ofString "split_child"), key := PySem.Value.str (PySem.Str.ofString "split_child") 313, val := PySem.Value.ref 105 }, { hash := PySem.PyData.keyHash P (PySem.Str.ofString "put"), key := PySem.Value.str (PySem.Str.ofString "put") 322, val := PySem.Value.ref 112 }, { hash := PySem.PyData.keyHash P (PySem.Str.ofString "merge_children"), key := PySem.Value.str (PySem.Str.ofString "merge_children") 331, val := PySem.Value.ref 119 }, { hash := PySem.PyData.keyHash P (PySem.Str.ofString "borrow_from_left"), key := PySem.Value.str (PySem.Str.ofString "borrow_from_left") 340, val := PySem.Value.ref 126 }, { hash := PySem.PyData.keyHash P (PySem.Str.ofString "borrow_from_right"), key := PySem.Value.str (PySem.Str.ofString "borrow_from_right") 349, val := PySem.Value.ref 133 }, { hash := PySem.PyData.keyHash P (PySem.Str.ofString "fill_child"), key := PySem.Value.str (PySem.Str.ofString "fill_child") 358, val := PySem.Value.ref 140 }, { hash := PySem.PyData.keyHash P (PySem.Str.ofString "least_below"), key := PySem.Value.str (PySem.Str.ofString "least_below") 366, val := PySem.Value.ref 147 }, { hash := PySem.PyData.keyHash P (PySem.Str.ofString "greatest_below"), key := PySem.Value.str (PySem.Str.ofString "greatest_below") 374, val := PySem.Value.ref 154 }, { hash := PySem.PyData.keyHash P (PySem.Str.ofString "delete"), key := PySem.Value.str (PySem.Str.ofString "delete") 382, val := PySem.Value.ref 161 }, { hash := PySem.PyData.keyHash P (PySem.Str.ofString "pairs_below"), key := PySem.Value.str (PySem.Str.ofString "pairs_below") 396, val := PySem.Value.ref 168 }, { hash := PySem.PyData.keyHash P (PySem.Str.ofString "pairs"), key := PySem.Value.str (PySem.Str.ofString "pairs") 403, val := PySem.Value.ref 175 }, { hash := PySem.PyData.keyHash P (PySem.Str.ofString "shape_ok"), key := PySem.Value.str (PySem.Str.ofString "shape_ok") 418, val := PySem.Value.ref 182 }, { hash := PySem.PyData.keyHash P (PySem.Str.ofString "keys_ok"), key := PySem.Value.str (PySem.Str.ofString "keys_ok") 436, val := PySem.Value.ref 189 }, { hash := PySem.PyData.keyHash P (PySem.Str.ofString "leaf_level"), key := PySem.Value.str (PySem.Str.ofString "leaf_level") 449, val := PySem.Value.ref 196 }, { hash := PySem.PyData.keyHash P (PySem.Str.ofString "check"), key := PySem.Value.str (PySem.Str.ofString "check") 456, val := PySem.Value.ref 203 }, { hash := PySem.PyData.keyHash P (PySem.Str.ofString "range_below"), key := PySem.Value.str (PySem.Str.ofString "range_below") 466, val := PySem.Value.ref 210 }, { hash := PySem.PyData.keyHash P (PySem.Str.ofString "count_below"), key := PySem.Value.str (PySem.Str.ofString "count_below") 478, val := PySem.Value.ref 217 }, { hash := PySem.PyData.keyHash P (PySem.Str.ofString "rank_of"), key := PySem.Value.str (PySem.Str.ofString "rank_of") 486, val := PySem.Value.ref 224 }, { hash := PySem.PyData.keyHash P (PySem.Str.ofString "select_key"), key := PySem.Value.str (PySem.Str.ofString "select_key") 494, val := PySem.Value.ref 231 }, { hash := PySem.PyData.keyHash P (PySem.Str.ofString "next_key"), key := PySem.Value.str (PySem.Str.ofString "next_key") 502, val := PySem.Value.ref 238 }, { hash := PySem.PyData.keyHash P (PySem.Str.ofString "flat_below"), key := PySem.Value.str (PySem.Str.ofString "flat_below") 516, val := PySem.Value.ref 245 }, { hash := PySem.PyData.keyHash P (PySem.Str.ofString "flat"), key := PySem.Value.str (PySem.Str.ofString "flat") 523, val := PySem.Value.ref 252 }, { hash := PySem.PyData.keyHash P (PySem.Str.ofString "__static_attributes__"), key := PySem.Value.str (PySem.Str.ofString "__static_attributes__") 527, val := PySem.Value.ref 253 }, { hash := PySem.PyData.keyHash P (PySem.Str.ofString "__dict__"), key := PySem.Value.str (PySem.Str.ofString "__dict__") 529, val := PySem.Value.ref 256 }, { hash := PySem.PyData.keyHash P (PySem.Str.ofString "__weakref__"), key := PySem.Value.str (PySem.Str.ofString "__weakref__") 531, val := PySem.Value.ref 257 }, { hash := PySem.PyData.keyHash P (PySem.Str.ofString "__doc__"), key := PySem.Value.str (PySem.Str.ofString "__doc__") 532, val := PySem.Value.none }] 4 } : PySem.Obj)),
  (255, ({ cls := PySem.Value.type "type", data := PySem.Data.cls { name := PySem.Str.ofString "Canopy", bases := [PySem.Value.type "object"], mro := [PySem.Value.ref 255, PySem.Value.type "object"], ns := 254, qualname := PySem.Str.ofString "Canopy" }, slots := #[Option.none, Option.none, Option.some (PySem.Value.str (PySem.Str.ofString "Canopy") 257), Option.some (PySem.Value.str (PySem.Str.ofString "Canopy") 265), Option.some (PySem.Value.builtin "object.__new__"), Option.some (PySem.Value.bool Bool.true)] } : PySem.Obj)),
  (266, ({ cls := PySem.Value.type "function", data := PySem.Data.func { name := PySem.Str.ofString "_law_cell", qualname := PySem.Str.ofString "_law_cell", params := { posonlyargs := [], args := [{ arg := PySem.Str.ofString "script", annotation := Option.none, pos := { line := 218, col := 14, endLine := 218, endCol := 20 } }, { arg := PySem.Str.ofString "at", annotation := Option.none, pos := { line := 218, col := 22, endLine := 218, endCol := 24 } }], vararg := Option.none, kwonlyargs := [], kw_defaults := [], kwarg := Option.none, defaults := [] }, body := PySem.FuncBody.stmts (Ss.py b0), scope := { kind := PySem.ScopeKind.function, names := [(PySem.Str.ofString "script", PySem.NameKind.local), (PySem.Str.ofString "at", PySem.NameKind.local), (PySem.Str.ofString "len", PySem.NameKind.globalImplicit)], isGenerator := Bool.false, isCoroutine := Bool.false }, globals := 3, closure := [], defaults := PySem.Value.none, kwdefaults := PySem.Value.none, pyModule := PySem.Value.str (PySem.Str.ofString "law_pd_canopyofobjects_2_02") 535, code := PySem.Value.ref 265 } } : PySem.Obj)),
  (265, ({ cls := PySem.Value.type "code", data := PySem.Data.fields #[PySem.Value.str (PySem.Str.ofString "_law_cell") 537, PySem.Value.str (PySem.Str.ofString "_law_cell") 538, PySem.Value.str (PySem.Str.ofString "/claim/cut.py") 539, PySem.Value.int 218 0, PySem.Value.int 2 0, PySem.Value.int 0 0, PySem.Value.int 0 0, PySem.Value.int 3 0, PySem.Value.ref 260, PySem.Value.bool Bool.true, PySem.Value.int 181 0, PySem.Value.ref 261, PySem.Value.none, PySem.Value.ref 262, PySem.Value.ref 263, PySem.Value.ref 264, PySem.Value.int 542 0, PySem.Value.int 218 0, PySem.Value.str (PySem.Str.ofString "/claim/cut.py") 543] } : PySem.Obj)),
  (271, ({ cls := PySem.Value.type "function", data := PySem.Data.func { name := PySem.Str.ofString "_law_groups", qualname := PySem.Str.ofString "_law_groups", params := { posonlyargs := [], args := [{ arg := PySem.Str.ofString "script", annotation := Option.none, pos := { line := 222, col := 16, endLine := 222, endCol := 22 } }, { arg := PySem.Str.ofString "height", annotation := Option.none, pos := { line := 222, col := 24, endLine := 222, endCol := 30 } }, { arg := PySem.Str.ofString "t", annotation := Option.none, pos := { line := 222, col := 32, endLine := 222, endCol := 33 } }], vararg := Option.none, kwonlyargs := [], kw_defaults := [], kwarg := Option.none, defaults := [] }, body := PySem.FuncBody.stmts (Ss.py b1), scope := { kind := PySem.ScopeKind.function, names := [(PySem.Str.ofString "script", PySem.NameKind.cell), (PySem.Str.ofString "height", PySem.NameKind.local), (PySem.Str.ofString "t", PySem.NameKind.cell), (PySem.Str.ofString "many", PySem.NameKind.local), (PySem.Str.ofString "groups", PySem.NameKind.local), (PySem.Str.ofString "g", PySem.NameKind.cell), (PySem.Str.ofString "leaves", PySem.NameKind.local), (PySem.Str.ofString "_law_cell", PySem.NameKind.globalImplicit), (PySem.Str.ofString "range", PySem.NameKind.globalImplicit)], isGenerator := Bool.false, isCoroutine := Bool.false, more := [(PySem.Str.ofString "fast", PySem.Const.str (PySem.Str.ofString "script")), (PySem.Str.ofString "fast", PySem.Const.str (PySem.Str.ofString "height")), (PySem.Str.ofString "fast", PySem.Const.str (PySem.Str.ofString "t")), (PySem.Str.ofString "fast", PySem.Const.str (PySem.Str.ofString "many")), (PySem.Str.ofString "fast", PySem.Const.str (PySem.Str.ofString "j")), (PySem.Str.ofString "fast", PySem.Const.str (PySem.Str.ofString "groups")), (PySem.Str.ofString "fast", PySem.Const.str (PySem.Str.ofString "g")), (PySem.Str.ofString "fast", PySem.Const.str (PySem.Str.ofString "leaves"))] }, globals := 3, closure := [], defaults := PySem.Value.none, kwdefaults := PySem.Value.none, pyModule := PySem.Value.str (PySem.Str.ofString "law_pd_canopyofobjects_2_02") 535, code := PySem.Value.ref 270 } } : PySem.Obj)),
  (270, ({ cls := PySem.Value.type "code", data := PySem.Data.fields #[PySem.Value.str (PySem.Str.ofString "_law_groups") 545, PySem.Value.str (PySem.Str.ofString "_law_groups") 546, PySem.Value.str (PySem.Str.ofString "/claim/cut.py") 547, PySem.Value.int 222 0, PySem.Value.int 3 0, PySem.Value.int 0 0, PySem.Value.int 0 0, PySem.Value.int 3 0, PySem.Value.ref 267, PySem.Value.bool Bool.true, PySem.Value.int 181 0, PySem.Value.ref 268, PySem.Value.none, PySem.Value.none, PySem.Value.none, PySem.Value.ref 269, PySem.Value.int 548 0, PySem.Value.int 222 0, PySem.Value.str (PySem.Str.ofString "/claim/cut.py") 549] } : PySem.Obj)),
  (276, ({ cls := PySem.Value.type "function", data := PySem.Data.func { name := PySem.Str.ofString "_law_node", qualname := PySem.Str.ofString "_law_node", params := { posonlyargs := [], args := [{ arg := PySem.Str.ofString "part", annotation := Option.none, pos := { line := 233, col := 14, endLine := 233, endCol := 18 } }, { arg := PySem.Str.ofString "kids", annotation := Option.none, pos := { line := 233, col := 20, endLine := 233, endCol := 24 } }], vararg := Option.none, kwonlyargs := [], kw_defaults := [], kwarg := Option.none, defaults := [] }, body := PySem.FuncBody.stmts (Ss.py b2), scope := { kind := PySem.ScopeKind.function, names := [(PySem.Str.ofString "part", PySem.NameKind.local), (PySem.Str.ofString "kids", PySem.NameKind.local), (PySem.Str.ofString "tuple", PySem.NameKind.globalImplicit)], isGenerator := Bool.false, isCoroutine := Bool.false, more := [(PySem.Str.ofString "fast", PySem.Const.str (PySem.Str.ofString "part")), (PySem.Str.ofString "fast", PySem.Const.str (PySem.Str.ofString "kids")), (PySem.Str.ofString "fast", PySem.Const.str (PySem.Str.ofString "p"))] }, globals := 3, closure := [], defaults := PySem.Value.none, kwdefaults := PySem.Value.none, pyModule := PySem.Value.str (PySem.Str.ofString "law_pd_canopyofobjects_2_02") 535, code := PySem.Value.ref 275 } } : PySem.Obj)),
  (275, ({ cls := PySem.Value.type "code", data := PySem.Data.fields #[PySem.Value.str (PySem.Str.ofString "_law_node") 551, PySem.Value.str (PySem.Str.ofString "_law_node") 552, PySem.Value.str (PySem.Str.ofString "/claim/cut.py") 553, PySem.Value.int 233 0, PySem.Value.int 2 0, PySem.Value.int 0 0, PySem.Value.int 0 0, PySem.Value.int 3 0, PySem.Value.ref 272, PySem.Value.bool Bool.true, PySem.Value.int 181 0, PySem.Value.ref 273, PySem.Value.none, PySem.Value.none, PySem.Value.none, PySem.Value.ref 274, PySem.Value.int 554 0, PySem.Value.int 233 0, PySem.Value.str (PySem.Str.ofString "/claim/cut.py") 555] } : PySem.Obj)),
  (283, ({ cls := PySem.Value.type "function", data := PySem.Data.func { name := PySem.Str.ofString "_law_branch", qualname := PySem.Str.ofString "_law_branch", params := { posonlyargs := [], args := [{ arg := PySem.Str.ofString "run", annotation := Option.none, pos := { line := 235, col := 16, endLine := 235, endCol := 19 } }, { arg := PySem.Str.ofString "at", annotation := Option.none, pos := { line := 235, col := 21, endLine := 235, endCol := 23 } }, { arg := PySem.Str.ofString "sizes", annotation := Option.none, pos := { line := 235, col := 25, endLine := 235, endCol := 30 } }], vararg := Option.none, kwonlyargs := [], kw_defaults := [], kwarg := Option.none, defaults := [] }, body := PySem.FuncBody.stmts (Ss.py b3), scope := { kind := PySem.ScopeKind.function, names := [(PySem.Str.ofString "run", PySem.NameKind.local), (PySem.Str.ofString "at", PySem.NameKind.local), (PySem.Str.ofString "sizes", PySem.NameKind.local), (PySem.Str.ofString "kids", PySem.NameKind.local), (PySem.Str.ofString "seps", PySem.NameKind.local), (PySem.Str.ofString "n", PySem.NameKind.local), (PySem.Str.ofString "_law_node", PySem.NameKind.globalImplicit)], isGenerator := Bool.false, isCoroutine := Bool.false }, globals := 3, closure := [], defaults := PySem.Value.none, kwdefaults := PySem.Value.none, pyModule := PySem.Value.str (PySem.Str.ofString "law_pd_canopyofobjects_2_02") 535, code := PySem.Value.ref 282 } } : PySem.Obj)),
  (282, ({ cls := PySem.Value.type "code", data := PySem.Data.fields #[PySem.Value.str (PySem.Str.ofString "_law_branch") 557, PySem.Value.str (PySem.Str.ofString "_law_branch") 558, PySem.Value.str (PySem.Str.ofString "/claim/cut.py") 559, PySem.Value.int 235 0, PySem.Value.int 3 0, PySem.Value.int 0 0, PySem.Value.int 0 0, PySem.Value.int 3 0, PySem.Value.ref 277, PySem.Value.bool Bool.true, PySem.Value.int 181 0, PySem.Value.ref 278, PySem.Value.none, PySem.Value.ref 279, PySem.Value.ref 280, PySem.Value.ref 281, PySem.Value.int 566 0, PySem.Value.int 235 0, PySem.Value.str (PySem.Str.ofString "/claim/cut.py") 567] } : PySem.Obj)),
  (290, ({ cls := PySem.Value.type "function", data := PySem.Data.func { name := PySem.Str.ofString "_law_blueprint", qualname := PySem.Str.ofString "_law_blueprint", params := { posonlyargs := [], args := [{ arg := PySem.Str.ofString "run", annotation := Option.none, pos := { line := 243, col := 19, endLine := 243, endCol := 22 } }, { arg := PySem.Str.ofString "height", annotation := Option.none, pos := { line := 243, col := 24, endLine := 243, endCol := 30 } }, { arg := PySem.Str.ofString "groups", annotation := Option.none, pos := { line := 243, col := 32, endLine := 243, endCol := 38 } }], vararg := Option.none, kwonlyargs := [], kw_defaults := [], kwarg := Option.none, defaults := [] }, body := PySem.FuncBody.stmts (Ss.py b4), scope := { kind := PySem.ScopeKind.function, names := [(PySem.Str.ofString "run", PySem.NameKind.local), (PySem.Str.ofString "height", PySem.NameKind.local), (PySem.Str.ofString "groups", PySem.NameKind.local), (PySem.Str.ofString "kids", PySem.NameKind.local), (PySem.Str.ofString "seps", PySem.NameKind.local), (PySem.Str.ofString "at", PySem.NameKind.local), (PySem.Str.ofString "sizes", PySem.NameKind.local), (PySem.Str.ofString "_law_node", PySem.NameKind.globalImplicit), (PySem.Str.ofString "_law_branch", PySem.NameKind.globalImplicit), (PySem.Str.ofString "sum", PySem.NameKind.globalImplicit), (PySem.Str.ofString "len", PySem.NameKind.globalImplicit)], isGenerator := Bool.false, isCoroutine := Bool.false }, globals := 3, closure := [], defaults := PySem.Value.none, kwdefaults := PySem.Value.none, pyModule := PySem.Value.str (PySem.Str.ofString "law_pd_canopyofobjects_2_02") 535, code := PySem.Value.ref 289 } } : PySem.Obj)),
  (289, ({ cls := PySem.Value.type "code", data := PySem.Data.fields #[PySem.Value.str (PySem.Str.ofString "_law_blueprint") 569, PySem.Value.str (PySem.Str.ofString "_law_blueprint") 570, PySem.Value.str (PySem.Str.ofString "/claim/cut.py") 571, PySem.Value.int 243 0, PySem.Value.int 3 0, PySem.Value.int 0 0, PySem.Value.int 0 0, PySem.Value.int 3 0, PySem.Value.ref 284, PySem.Value.bool Bool.true, PySem.Value.int 181 0, PySem.Value.ref 285, PySem.Value.none, PySem.Value.ref 286, PySem.Value.ref 287, PySem.Value.ref 288, PySem.Value.int 579 0, PySem.Value.int 243 0, PySem.Value.str (PySem.Str.ofString "/claim/cut.py") 580] } : PySem.Obj)),
  (295, ({ cls := PySem.Value.type "function", data := PySem.Data.func { name := PySem.Str.ofString "_law_build", qualname := PySem.Str.ofString "_law_build", params := { posonlyargs := [], args := [{ arg := PySem.Str.ofString "tree", annotation := Option.none, pos := { line := 256, col := 15, endLine := 256, endCol := 19 } }], vararg := Option.none, kwonlyargs := [], kw_defaults := [], kwarg := Option.none, defaults := [] }, body := PySem.FuncBody.stmts (Ss.py b5), scope := { kind := PySem.ScopeKind.function, names := [(PySem.Str.ofString "tree", PySem.NameKind.local), (PySem.Str.ofString "kids", PySem.NameKind.local), (PySem.Str.ofString "kid", PySem.NameKind.local), (PySem.Str.ofString "low", PySem.NameKind.local), (PySem.Str.ofString "Node", PySem.NameKind.globalImplicit), (PySem.Str.ofString "list", PySem.NameKind.globalImplicit)], isGenerator := Bool.false, isCoroutine := Bool.false, more := [(PySem.Str.ofString "fast", PySem.Const.str (PySem.Str.ofString "tree")), (PySem.Str.ofString "fast", PySem.Const.str (PySem.Str.ofString "kids")), (PySem.Str.ofString "fast", PySem.Const.str (PySem.Str.ofString "kid")), (PySem.Str.ofString "fast", PySem.Const.str (PySem.Str.ofString "x")), (PySem.Str.ofString "fast", PySem.Const.str (PySem.Str.ofString "low"))] }, globals := 3, closure := [], defaults := PySem.Value.none, kwdefaults := PySem.Value.none, pyModule := PySem.Value.str (PySem.Str.ofString "law_pd_canopyofobjects_2_02") 535, code := PySem.Value.ref 294 } } : PySem.Obj)),
  (294, ({ cls := PySem.Value.type "code", data := PySem.Data.fields #[PySem.Value.str (PySem.Str.ofString "_law_build") 582, PySem.Value.str (PySem.Str.ofString "_law_build") 583, PySem.Value.str (PySem.Str.ofString "/claim/cut.py") 584, PySem.Value.int 256 0, PySem.Value.int 1 0, PySem.Value.int 0 0, PySem.Value.int 0 0, PySem.Value.int 3 0, PySem.Value.ref 291, PySem.Value.bool Bool.true, PySem.Value.int 181 0, PySem.Value.ref 292, PySem.Value.none, PySem.Value.none, PySem.Value.none, PySem.Value.ref 293, PySem.Value.int 585 0, PySem.Value.int 256 0, PySem.Value.str (PySem.Str.ofString "/claim/cut.py") 586] } : PySem.Obj)),
  (302, ({ cls := PySem.Value.type "function", data := PySem.Data.func { name := PySem.Str.ofString "_law_head", qualname := PySem.Str.ofString "_law_head", params := { posonlyargs := [], args := [{ arg := PySem.Str.ofString "tree", annotation := Option.none, pos := { line := 262, col := 14, endLine := 262, endCol := 18 } }], vararg := Option.none, kwonlyargs := [], kw_defaults := [], kwarg := Option.none, defaults := [] }, body := PySem.FuncBody.stmts (Ss.py b6), scope := { kind := PySem.ScopeKind.function, names := [(PySem.Str.ofString "tree", PySem.NameKind.local), (PySem.Str.ofString "len", PySem.NameKind.globalImplicit), (PySem.Str.ofString "list", PySem.NameKind.globalImplicit)], isGenerator := Bool.false, isCoroutine := Bool.false }, globals := 3, closure := [], defaults := PySem.Value.none, kwdefaults := PySem.Value.none, pyModule := PySem.Value.str (PySem.Str.ofString "law_pd_canopyofobjects_2_02") 535, code := PySem.Value.ref 301 } } : PySem.Obj)),
  (301, ({ cls := PySem.Value.type "code", data := PySem.Data.fields #[PySem.Value.str (PySem.Str.ofString "_law_head") 588, PySem.Value.str (PySem.Str.ofString "_law_head") 589, PySem.Value.str (PySem.Str.ofString "/claim/cut.py") 590, PySem.Value.int 262 0, PySem.Value.int 1 0, PySem.Value.int 0 0, PySem.Value.int 0 0, PySem.Value.int 3 0, PySem.Value.ref 296, PySem.Value.bool Bool.true, PySem.Value.int 181 0, PySem.Value.ref 297, PySem.Value.none, PySem.Value.ref 298, PySem.Value.ref 299, PySem.Value.ref 300, PySem.Value.int 592 0, PySem.Value.int 262 0, PySem.Value.str (PySem.Str.ofString "/claim/cut.py") 593] } : PySem.Obj)),
  (309, ({ cls := PySem.Value.type "function", data := PySem.Data.func { name := PySem.Str.ofString "_law_flat", qualname := PySem.Str.ofString "_law_flat", params := { posonlyargs := [], args := [{ arg := PySem.Str.ofString "tree", annotation := Option.none, pos := { line := 264, col := 14, endLine := 264, endCol := 18 } }], vararg := Option.none, kwonlyargs := [], kw_defaults := [], kwarg := Option.none, defaults := [] }, body := PySem.FuncBody.stmts (Ss.py b7), scope := { kind := PySem.ScopeKind.function, names := [(PySem.Str.ofString "tree", PySem.NameKind.local), (PySem.Str.ofString "out", PySem.NameKind.local), (PySem.Str.ofString "kid", PySem.NameKind.local), (PySem.Str.ofString "leaf", PySem.NameKind.local), (PySem.Str.ofString "_law_head", PySem.NameKind.globalImplicit)], isGenerator := Bool.false, isCoroutine := Bool.false }, globals := 3, closure := [], defaults := PySem.Value.none, kwdefaults := PySem.Value.none, pyModule := PySem.Value.str (PySem.Str.ofString "law_pd_canopyofobjects_2_02") 535, code := PySem.Value.ref 308 } } : PySem.Obj)),
  (308, ({ cls := PySem.Value.type "code", data := PySem.Data.fields #[PySem.Value.str (PySem.Str.ofString "_law_flat") 595, PySem.Value.str (PySem.Str.ofString "_law_flat") 596, PySem.Value.str (PySem.Str.ofString "/claim/cut.py") 597, PySem.Value.int 264 0, PySem.Value.int 1 0, PySem.Value.int 0 0, PySem.Value.int 0 0, PySem.Value.int 3 0, PySem.Value.ref 303, PySem.Value.bool Bool.true, PySem.Value.int 181 0, PySem.Value.ref 304, PySem.Value.none, PySem.Value.ref 305, PySem.Value.ref 306, PySem.Value.ref 307, PySem.Value.int 602 0, PySem.Value.int 264 0, PySem.Value.str (PySem.Str.ofString "/claim/cut.py") 603] } : PySem.Obj)),
  (314, ({ cls := PySem.Value.type "function", data := PySem.Data.func { name := PySem.Str.ofString "_law_spoilt", qualname := PySem.Str.ofString "_law_spoilt", params := { posonlyargs := [], args := [{ arg := PySem.Str.ofString "script", annotation := Option.none, pos := { line := 271, col := 16, endLine := 271, endCol := 22 } }, { arg := PySem.Str.ofString "t", annotation := Option.none, pos := { line := 271, col := 24, endLine := 271, endCol := 25 } }, { arg := PySem.Str.ofString "run", annotation := Option.none, pos := { line := 271, col := 27, endLine := 271, endCol := 30 } }, { arg := PySem.Str.ofString "height", annotation := Option.none, pos := { line := 271, col := 32, endLine := 271, endCol := 38 } }, { arg := PySem.Str.ofString "groups", annotation := Option.none, pos := { line := 271, col := 40, endLine := 271, endCol := 46 } }, { arg := PySem.Str.ofString "tree", annotation := Option.none, pos := { line := 271, col := 48, endLine := 271, endCol := 52 } }, { arg := PySem.Str.ofString "total", annotation := Option.none, pos := { line := 271, col := 54, endLine := 271, endCol := 59 } }], vararg := Option.none, kwonlyargs := [], kw_defaults := [], kwarg := Option.none, defaults := [] }, body := PySem.FuncBody.stmts (Ss.py b8), scope := { kind := PySem.ScopeKind.function, names := [(PySem.Str.ofString "script", PySem.NameKind.local), (PySem.Str.ofString "t", PySem.NameKind.local), (PySem.Str.ofString "run", PySem.NameKind.local), (PySem.Str.ofString "height", PySem.NameKind.local), (PySem.Str.ofString "groups", PySem.NameKind.local), (PySem.Str.ofString "tree", PySem.NameKind.local), (PySem.Str.ofString "total", PySem.NameKind.local), (PySem.Str.ofString "kind", PySem.NameKind.local), (PySem.Str.ofString "place", PySem.NameKind.local), (PySem.Str.ofString "keys", PySem.NameKind.local), (PySem.Str.ofString "values", PySem.NameKind.local), (PySem.Str.ofString "kids", PySem.NameKind.local), (PySem.Str.ofString "far", PySem.NameKind.cell), (PySem.Str.ofString "size", PySem.NameKind.local), (PySem.Str.ofString "root", PySem.NameKind.local), (PySem.Str.ofString "right", PySem.NameKind.local), (PySem.Str.ofString "p", PySem.NameKind.local), (PySem.Str.ofString "twice", PySem.NameKind.local), (PySem.Str.ofString "_law_cell", PySem.NameKind.globalImplicit), (PySem.Str.ofString "_law_build", PySem.NameKind.globalImplicit), (PySem.Str.ofString "Node", PySem.NameKind.globalImplicit), (PySem.Str.ofString "len", PySem.NameKind.globalImplicit), (PySem.Str.ofString "range", PySem.NameKind.globalImplicit), (PySem.Str.ofString "_law_blueprint", PySem.NameKind.globalImplicit)], isGenerator := Bool.false, isCoroutine := Bool.false, more := [(PySem.Str.ofString "fast", PySem.Const.str (PySem.Str.ofString "script")), (PySem.Str.ofString "fast", PySem.Const.str (PySem.Str.ofString "t")), (PySem.Str.ofString "fast", PySem.Const.str (PySem.Str.ofString "run")), (PySem.Str.ofString "fast", PySem.Const.str (PySem.Str.ofString "height")), (PySem.Str.ofString "fast", PySem.Const.str (PySem.Str.ofString "groups")), (PySem.Str.ofString "fast", PySem.Const.str (PySem.Str.ofString "tree")), (PySem.Str.ofString "fast", PySem.Const.str (PySem.Str.ofString "total")), (PySem.Str.ofString "fast", PySem.Const.str (PySem.Str.ofString "kind")), (PySem.Str.ofString "fast", PySem.Const.str (PySem.Str.ofString "place")), (PySem.Str.ofString "fast", PySem.Const.str (PySem.Str.ofString "keys")), (PySem.Str.ofString "fast", PySem.Const.str (PySem.Str.ofString "values")), (PySem.Str.ofString "fast", PySem.Const.str (PySem.Str.ofString "kids")), (PySem.Str.ofString "fast", PySem.Const.str (PySem.Str.ofString "far")), (PySem.Str.ofString "fast", PySem.Const.str (PySem.Str.ofString "size")), (PySem.Str.ofString "fast", PySem.Const.str (PySem.Str.ofString "root")), (PySem.Str.ofString "fast", PySem.Const.str (PySem.Str.ofString "j")), (PySem.Str.ofString "fast", PySem.Const.str (PySem.Str.ofString "right")), (PySem.Str.ofString "fast", PySem.Const.str (PySem.Str.ofString "p")), (PySem.Str.ofString "fast", PySem.Const.str (PySem.Str.ofString "twice"))] }, globals := 3, closure := [], defaults := PySem.Value.none, kwdefaults := PySem.Value.none, pyModule := PySem.Value.str (PySem.Str.ofString "law_pd_canopyofobjects_2_02") 535, code := PySem.Value.ref 313 } } : PySem.Obj)),
  (313, ({ cls := PySem.Value.type "code", data := PySem.Data.fields #[PySem.Value.str (PySem.Str.ofString "_law_spoilt") 605, PySem.Value.str (PySem.Str.ofString "_law_spoilt") 606, PySem.Value.str (PySem.Str.ofString "/claim/cut.py") 607, PySem.Value.int 271 0, PySem.Value.int 7 0, PySem.Value.int 0 0, PySem.Value.int 0 0, PySem.Value.int 3 0, PySem.Value.ref 310, PySem.Value.bool Bool.true, PySem.Value.int 181 0, PySem.Value.ref 311, PySem.Value.none, PySem.Value.none, PySem.Value.none, PySem.Value.ref 312, PySem.Value.int 608 0, PySem.Value.int 271 0, PySem.Value.str (PySem.Str.ofString "/claim/cut.py") 609] } : PySem.Obj)),
  (319, ({ cls := PySem.Value.type "function", data := PySem.Data.func { name := PySem.Str.ofString "law", qualname := PySem.Str.ofString "law", params := { posonlyargs := [], args := [{ arg := PySem.Str.ofString "script", annotation := Option.none, pos := { line := 304, col := 8, endLine := 304, endCol := 14 } }], vararg := Option.none, kwonlyargs := [], kw_defaults := [], kwarg := Option.none, defaults := [] }, body := PySem.FuncBody.stmts (Ss.py b9), scope := { kind := PySem.ScopeKind.function, names := [(PySem.Str.ofString "script", PySem.NameKind.local), (PySem.Str.ofString "height", PySem.NameKind.local), (PySem.Str.ofString "t", PySem.NameKind.local), (PySem.Str.ofString "base", PySem.NameKind.local), (PySem.Str.ofString "run", PySem.NameKind.local), (PySem.Str.ofString "key", PySem.NameKind.local), (PySem.Str.ofString "i", PySem.NameKind.local), (PySem.Str.ofString "c", PySem.NameKind.local), (PySem.Str.ofString "groups", PySem.NameKind.local), (PySem.Str.ofString "total", PySem.NameKind.local), (PySem.Str.ofString "tree", PySem.NameKind.local), (PySem.Str.ofString "want", PySem.NameKind.local), (PySem.Str.ofString "laid", PySem.NameKind.local), (PySem.Str.ofString "m", PySem.NameKind.local), (PySem.Str.ofString "known", PySem.NameKind.local), (PySem.Str.ofString "asks", PySem.NameKind.local), (PySem.Str.ofString "pair", PySem.NameKind.local), (PySem.Str.ofString "near", PySem.NameKind.local), (PySem.Str.ofString "root", PySem.NameKind.local), (PySem.Str.ofString "size", PySem.NameKind.local), (PySem.Str.ofString "wrong", PySem.NameKind.local), (PySem.Str.ofString "other", PySem.NameKind.local), (PySem.Str.ofString "_law_cell", PySem.NameKind.globalImplicit), (PySem.Str.ofString "range", PySem.NameKind.globalImplicit), (PySem.Str.ofString "_law_groups", PySem.NameKind.globalImplicit), (PySem.Str.ofString "sum", PySem.NameKind.globalImplicit), (PySem.Str.ofString "_law_blueprint", PySem.NameKind.globalImplicit), (PySem.Str.ofString "_law_flat", PySem.NameKind.globalImplicit), (PySem.Str.ofString "Canopy", PySem.NameKind.globalImplicit), (PySem.Str.ofString "_law_build", PySem.NameKind.globalImplicit), (PySem.Str.ofString "_law_spoilt", PySem.NameKind.globalImplicit)], isGenerator := Bool.false, isCoroutine := Bool.false, more := [(PySem.Str.ofString "fast", PySem.Const.str (PySem.Str.ofString "script")), (PySem.Str.ofString "fast", PySem.Const.str (PySem.Str.ofString "height")), (PySem.Str.ofString "fast", PySem.Const.str (PySem.Str.ofString "t")), (PySem.Str.ofString "fast", PySem.Const.str (PySem.Str.ofString "base")), (PySem.Str.ofString "fast", PySem.Const.str (PySem.Str.ofString "run")), (PySem.Str.ofString "fast", PySem.Const.str (PySem.Str.ofString "key")), (PySem.Str.ofString "fast", PySem.Const.str (PySem.Str.ofString "i")), (PySem.Str.ofString "fast", PySem.Const.str (PySem.Str.ofString "c")), (PySem.Str.ofString "fast", PySem.Const.str (PySem.Str.ofString "groups")), (PySem.Str.ofString "fast", PySem.Const.str (PySem.Str.ofString "g")), (PySem.Str.ofString "fast", PySem.Const.str (PySem.Str.ofString "total")), (PySem.Str.ofString "fast", PySem.Const.str (PySem.Str.ofString "tree")), (PySem.Str.ofString "fast", PySem.Const.str (PySem.Str.ofString "want")), (PySem.Str.ofString "fast", PySem.Const.str (PySem.Str.ofString "laid")), (PySem.Str.ofString "fast", PySem.Const.str (PySem.Str.ofString "m")), (PySem.Str.ofString "fast", PySem.Const.str (PySem.Str.ofString "known")), (PySem.Str.ofString "fast", PySem.Const.str (PySem.Str.ofString "asks")), (PySem.Str.ofString "fast", PySem.Const.str (PySem.Str.ofString "pair")), (PySem.Str.ofString "fast", PySem.Const.str (PySem.Str.ofString "near")), (PySem.Str.ofString "fast", PySem.Const.str (PySem.Str.ofString "root")), (PySem.Str.ofString "fast", PySem.Const.str (PySem.Str.ofString "size")), (PySem.Str.ofString "fast", PySem.Const.str (PySem.Str.ofString "wrong")), (PySem.Str.ofString "fast", PySem.Const.str (PySem.Str.ofString "other"))] }, globals := 3, closure := [], defaults := PySem.Value.none, kwdefaults := PySem.Value.none, pyModule := PySem.Value.str (PySem.Str.ofString "law_pd_canopyofobjects_2_02") 535, code := PySem.Value.ref 318 } } : PySem.Obj)),
  (318, ({ cls := PySem.Value.type "code", data := PySem.Data.fields #[PySem.Value.str (PySem.Str.ofString "law") 611, PySem.Value.str (PySem.Str.ofString "law") 612, PySem.Value.str (PySem.Str.ofString "/claim/cut.py") 613, PySem.Value.int 304 0, PySem.Value.int 1 0, PySem.Value.int 0 0, PySem.Value.int 0 0, PySem.Value.int 3 0, PySem.Value.ref 315, PySem.Value.bool Bool.true, PySem.Value.int 181 0, PySem.Value.ref 316, PySem.Value.none, PySem.Value.none, PySem.Value.none, PySem.Value.ref 317, PySem.Value.int 614 0, PySem.Value.int 304 0, PySem.Value.str (PySem.Str.ofString "/claim/cut.py") 615] } : PySem.Obj)),
  (35, ({ cls := PySem.Value.type "function", data := PySem.Data.func { name := PySem.Str.ofString "__init__", qualname := PySem.Str.ofString "Node.__init__", params := { posonlyargs := [], args := [{ arg := PySem.Str.ofString "self", annotation := Option.none, pos := { line := 7, col := 17, endLine := 7, endCol := 21 } }, { arg := PySem.Str.ofString "keys", annotation := Option.none, pos := { line := 7, col := 23, endLine := 7, endCol := 27 } }, { arg := PySem.Str.ofString "values", annotation := Option.none, pos := { line := 7, col := 29, endLine := 7, endCol := 35 } }, { arg := PySem.Str.ofString "children", annotation := Option.none, pos := { line := 7, col := 37, endLine := 7, endCol := 45 } }], vararg := Option.none, kwonlyargs := [], kw_defaults := [], kwarg := Option.none, defaults := [] }, body := PySem.FuncBody.stmts (Ss.py b10), scope := { kind := PySem.ScopeKind.function, names := [(PySem.Str.ofString "self", PySem.NameKind.local), (PySem.Str.ofString "keys", PySem.NameKind.local), (PySem.Str.ofString "values", PySem.NameKind.local), (PySem.Str.ofString "children", PySem.NameKind.local)], isGenerator := Bool.false, isCoroutine := Bool.false }, globals := 3, closure := [], defaults := PySem.Value.none, kwdefaults := PySem.Value.none, pyModule := PySem.Value.str (PySem.Str.ofString "canopy.core") 194, code := PySem.Value.ref 34 } } : PySem.Obj)),
  (34, ({ cls := PySem.Value.type "code", data := PySem.Data.fields #[PySem.Value.str (PySem.Str.ofString "__init__") 208, PySem.Value.str (PySem.Str.ofString "Node.__init__") 209, PySem.Value.str (PySem.Str.ofString "/claim/cut.py") 210, PySem.Value.int 7 0, PySem.Value.int 4 0, PySem.Value.int 0 0, PySem.Value.int 0 0, PySem.Value.int 3 0, PySem.Value.ref 29, PySem.Value.bool Bool.true, PySem.Value.int 181 0, PySem.Value.ref 30, PySem.Value.none, PySem.Value.ref 31, PySem.Value.ref 32, PySem.Value.ref 33, PySem.Value.int 215 0, PySem.Value.int 7 0, PySem.Value.str (PySem.Str.ofString "/claim/cut.py") 216] } : PySem.Obj)),
  (42, ({ cls := PySem.Value.type "function", data := PySem.Data.func { name := PySem.Str.ofString "is_leaf", qualname := PySem.Str.ofString "Node.is_leaf", params := { posonlyargs := [], args := [{ arg := PySem.Str.ofString "self", annotation := Option.none, pos := { line := 12, col := 16, endLine := 12, endCol := 20 } }], vararg := Option.none, kwonlyargs := [], kw_defaults := [], kwarg := Option.none, defaults := [] }, body := PySem.FuncBody.stmts (Ss.py b11), scope := { kind := PySem.ScopeKind.function, names := [(PySem.Str.ofString "self", PySem.NameKind.local), (PySem.Str.ofString "len", PySem.NameKind.globalImplicit)], isGenerator := Bool.false, isCoroutine := Bool.false }, globals := 3, closure := [], defaults := PySem.Value.none, kwdefaults := PySem.Value.none, pyModule := PySem.Value.str (PySem.Str.ofString "canopy.core") 194, code := PySem.Value.ref 41 } } : PySem.Obj)),
  (41, ({ cls := PySem.Value.type "code", data := PySem.Data.fields #[PySem.Value.str (PySem.Str.ofString "is_leaf") 218, PySem.Value.str (PySem.Str.ofString "Node.is_leaf") 219, PySem.Value.str (PySem.Str.ofString "/claim/cut.py") 220, PySem.Value.int 12 0, PySem.Value.int 1 0, PySem.Value.int 0 0, PySem.Value.int 0 0, PySem.Value.int 3 0, PySem.Value.ref 36, PySem.Value.bool Bool.true, PySem.Value.int 181 0, PySem.Value.ref 37, PySem.Value.none, PySem.Value.ref 38, PySem.Value.ref 39, PySem.Value.ref 40, PySem.Value.int 222 0, PySem.Value.int 12 0, PySem.Value.str (PySem.Str.ofString "/claim/cut.py") 223] } : PySem.Obj)),
  (49, ({ cls := PySem.Value.type "function", data := PySem.Data.func { name := PySem.Str.ofString "slot", qualname := PySem.Str.ofString "Node.slot", params := { posonlyargs := [], args := [{ arg := PySem.Str.ofString "self", annotation := Option.none, pos := { line := 15, col := 13, endLine := 15, endCol := 17 } }, { arg := PySem.Str.ofString "key", annotation := Option.none, pos := { line := 15, col := 19, endLine := 15, endCol := 22 } }], vararg := Option.none, kwonlyargs := [], kw_defaults := [], kwarg := Option.none, defaults := [] }, body := PySem.FuncBody.stmts (Ss.py b12), scope := { kind := PySem.ScopeKind.function, names := [(PySem.Str.ofString "self", PySem.NameKind.local), (PySem.Str.ofString "key", PySem.NameKind.local), (PySem.Str.ofString "lo", PySem.NameKind.local), (PySem.Str.ofString "hi", PySem.NameKind.local), (PySem.Str.ofString "mid", PySem.NameKind.local), (PySem.Str.ofString "len", PySem.NameKind.globalImplicit)], isGenerator := Bool.false, isCoroutine := Bool.false }, globals := 3, closure := [], defaults := PySem.Value.none, kwdefaults := PySem.Value.none, pyModule := PySem.Value.str (PySem.Str.ofString "canopy.core") 194, code := PySem.Value.ref 48 } } : PySem.Obj)),
  (48, ({ cls := PySem.Value.type "code", data := PySem.Data.fields #[PySem.Value.str (PySem.Str.ofString "slot") 225, PySem.Value.str (PySem.Str.ofString "Node.slot") 226, PySem.Value.str (PySem.Str.ofString "/claim/cut.py") 227, PySem.Value.int 15 0, PySem.Value.int 2 0, PySem.Value.int 0 0, PySem.Value.int 0 0, PySem.Value.int 3 0, PySem.Value.ref 43, PySem.Value.bool Bool.true, PySem.Value.int 181 0, PySem.Value.ref 44, PySem.Value.none, PySem.Value.ref 45, PySem.Value.ref 46, PySem.Value.ref 47, PySem.Value.int 233 0, PySem.Value.int 15 0, PySem.Value.str (PySem.Str.ofString "/claim/cut.py") 234] } : PySem.Obj)),
  (77, ({ cls := PySem.Value.type "function", data := PySem.Data.func { name := PySem.Str.ofString "__init__", qualname := PySem.Str.ofString "Canopy.__init__", params := { posonlyargs := [], args := [{ arg := PySem.Str.ofString "self", annotation := Option.none, pos := { line := 30, col := 17, endLine := 30, endCol := 21 } }, { arg := PySem.Str.ofString "t", annotation := Option.none, pos := { line := 30, col := 23, endLine := 30, endCol := 24 } }], vararg := Option.none, kwonlyargs := [], kw_defaults := [], kwarg := Option.none, defaults := [] }, body := PySem.FuncBody.stmts (Ss.py b13), scope := { kind := PySem.ScopeKind.function, names := [(PySem.Str.ofString "self", PySem.NameKind.local), (PySem.Str.ofString "t", PySem.NameKind.local), (PySem.Str.ofString "Node", PySem.NameKind.globalImplicit)], isGenerator := Bool.false, isCoroutine := Bool.false }, globals := 3, closure := [], defaults := PySem.Value.none, kwdefaults := PySem.Value.none, pyModule := PySem.Value.str (PySem.Str.ofString "canopy.core") 194, code := PySem.Value.ref 76 } } : PySem.Obj)),
  (76, ({ cls := PySem.Value.type "code", data := PySem.Data.fields #[PySem.Value.str (PySem.Str.ofString "__init__") 269, PySem.Value.str (PySem.Str.ofString "Canopy.__init__") 270, PySem.Value.str (PySem.Str.ofString "/claim/cut.py") 271, PySem.Value.int 30 0, PySem.Value.int 2 0, PySem.Value.int 0 0, PySem.Value.int 0 0, PySem.Value.int 3 0, PySem.Value.ref 71, PySem.Value.bool Bool.true, PySem.Value.int 181 0, PySem.Value.ref 72, PySem.Value.none, PySem.Value.ref 73, PySem.Value.ref 74, PySem.Value.ref 75, PySem.Value.int 274 0, PySem.Value.int 30 0, PySem.Value.str (PySem.Str.ofString "/claim/cut.py") 275] } : PySem.Obj)),
  (84, ({ cls := PySem.Value.type "function", data := PySem.Data.func { name := PySem.Str.ofString "adopt", qualname := PySem.Str.ofString "Canopy.adopt", params := { posonlyargs := [], args := [{ arg := PySem.Str.ofString "self", annotation := Option.none, pos := { line := 35, col := 14, endLine := 35, endCol := 18 } }, { arg := PySem.Str.ofString "root", annotation := Option.none, pos := { line := 35, col := 20, endLine := 35, endCol := 24 } }, { arg := PySem.Str.ofString "size", annotation := Option.none, pos := { line := 35, col := 26, endLine := 35, endCol := 30 } }], vararg := Option.none, kwonlyargs := [], kw_defaults := [], kwarg := Option.none, defaults := [] }, body := PySem.FuncBody.stmts (Ss.py b14), scope := { kind := PySem.ScopeKind.function, names := [(PySem.Str.ofString "self", PySem.NameKind.local), (PySem.Str.ofString "root", PySem.NameKind.local), (PySem.Str.ofString "size", PySem.NameKind.local)], isGenerator := Bool.false, isCoroutine := Bool.false }, globals := 3, closure := [], defaults := PySem.Value.none, kwdefaults := PySem.Value.none, pyModule := PySem.Value.str (PySem.Str.ofString "canopy.core") 194, code := PySem.Value.ref 83 } } : PySem.Obj)),
  (83, ({ cls := PySem.Value.type "code", data := PySem.Data.fields #[PySem.Value.str (PySem.Str.ofString "adopt") 277, PySem.Value.str (PySem.Str.ofString "Canopy.adopt") 278, PySem.Value.str (PySem.Str.ofString "/claim/cut.py") 279, PySem.Value.int 35 0, PySem.Value.int 3 0, PySem.Value.int 0 0, PySem.Value.int 0 0, PySem.Value.int 3 0, PySem.Value.ref 78, PySem.Value.bool Bool.true, PySem.Value.int 181 0, PySem.Value.ref 79, PySem.Value.none, PySem.Value.ref 80, PySem.Value.ref 81, PySem.Value.ref 82, PySem.Value.int 283 0, PySem.Value.int 35 0, PySem.Value.str (PySem.Str.ofString "/claim/cut.py") 284] } : PySem.Obj)),
  (91, ({ cls := PySem.Value.type "function", data := PySem.Data.func { name := PySem.Str.ofString "lookup", qualname := PySem.Str.ofString "Canopy.lookup", params := { posonlyargs := [], args := [{ arg := PySem.Str.ofString "self", annotation := Option.none, pos := { line := 39, col := 15, endLine := 39, endCol := 19 } }, { arg := PySem.Str.ofString "key", annotation := Option.none, pos := { line := 39, col := 21, endLine := 39, endCol := 24 } }], vararg := Option.none, kwonlyargs := [], kw_defaults := [], kwarg := Option.none, defaults := [] }, body := PySem.FuncBody.stmts (Ss.py b15), scope := { kind := PySem.ScopeKind.function, names := [(PySem.Str.ofString "self", PySem.NameKind.local), (PySem.Str.ofString "key", PySem.NameKind.local), (PySem.Str.ofString "node", PySem.NameKind.local), (PySem.Str.ofString "i", PySem.NameKind.local), (PySem.Str.ofString "len", PySem.NameKind.globalImplicit)], isGenerator := Bool.false, isCoroutine := Bool.false }, globals := 3, closure := [], defaults := PySem.Value.none, kwdefaults := PySem.Value.none, pyModule := PySem.Value.str (PySem.Str.ofString "canopy.core") 194, code := PySem.Value.ref 90 } } : PySem.Obj)),
  (90, ({ cls := PySem.Value.type "code", data := PySem.Data.fields #[PySem.Value.str (PySem.Str.ofString "lookup") 286, PySem.Value.str (PySem.Str.ofString "Canopy.lookup") 287, PySem.Value.str (PySem.Str.ofString "/claim/cut.py") 288, PySem.Value.int 39 0, PySem.Value.int 2 0, PySem.Value.int 0 0, PySem.Value.int 0 0, PySem.Value.int 3 0, PySem.Value.ref 85, PySem.Value.bool Bool.true, PySem.Value.int 181 0, PySem.Value.ref 86, PySem.Value.none, PySem.Value.ref 87, PySem.Value.ref 88, PySem.Value.ref 89, PySem.Value.int 293 0, PySem.Value.int 39 0, PySem.Value.str (PySem.Str.ofString "/claim/cut.py") 294] } : PySem.Obj)),
  (98, ({ cls := PySem.Value.type "function", data := PySem.Data.func { name := PySem.Str.ofString "height", qualname := PySem.Str.ofString "Canopy.height", params := { posonlyargs := [], args := [{ arg := PySem.Str.ofString "self", annotation := Option.none, pos := { line := 51, col := 15, endLine := 51, endCol := 19 } }], vararg := Option.none, kwonlyargs := [], kw_defaults := [], kwarg := Option.none, defaults := [] }, body := PySem.FuncBody.stmts (Ss.py b16), scope := { kind := PySem.ScopeKind.function, names := [(PySem.Str.ofString "self", PySem.NameKind.local), (PySem.Str.ofString "node", PySem.NameKind.local), (PySem.Str.ofString "levels", PySem.NameKind.local)], isGenerator := Bool.false, isCoroutine := Bool.false }, globals := 3, closure := [], defaults := PySem.Value.none, kwdefaults := PySem.Value.none, pyModule := PySem.Value.str (PySem.Str.ofString "canopy.core") 194, code := PySem.Value.ref 97 } } : PySem.Obj)),
  (97, ({ cls := PySem.Value.type "code", data := PySem.Data.fields #[PySem.Value.str (PySem.Str.ofString "height") 296, PySem.Value.str (PySem.Str.ofString "Canopy.height") 297, PySem.Value.str (PySem.Str.ofString "/claim/cut.py") 298, PySem.Value.int 51 0, PySem.Value.int 1 0, PySem.Value.int 0 0, PySem.Value.int 0 0, PySem.Value.int 3 0, PySem.Value.ref 92, PySem.Value.bool Bool.true, PySem.Value.int 181 0, PySem.Value.ref 93, PySem.Value.none, PySem.Value.ref 94, PySem.Value.ref 95, PySem.Value.ref 96, PySem.Value.int 302 0, PySem.Value.int 51 0, PySem.Value.str (PySem.Str.ofString "/claim/cut.py") 303] } : PySem.Obj)),
  (168, ({ cls := PySem.Value.type "function", data := PySem.Data.func { name := PySem.Str.ofString "pairs_below", qualname := PySem.Str.ofString "Canopy.pairs_below", params := { posonlyargs := [], args := [{ arg := PySem.Str.ofString "self", annotation := Option.none, pos := { line := 86, col := 20, endLine := 86, endCol := 24 } }, { arg := PySem.Str.ofString "node", annotation := Option.none, pos := { line := 86, col := 26, endLine := 86, endCol := 30 } }], vararg := Option.none, kwonlyargs := [], kw_defaults := [], kwarg := Option.none, defaults := [] }, body := PySem.FuncBody.stmts (Ss.py b17), scope := { kind := PySem.ScopeKind.function, names := [(PySem.Str.ofString "self", PySem.NameKind.local), (PySem.Str.ofString "node", PySem.NameKind.local), (PySem.Str.ofString "out", PySem.NameKind.local), (PySem.Str.ofString "stack", PySem.NameKind.local), (PySem.Str.ofString "top", PySem.NameKind.local), (PySem.Str.ofString "here", PySem.NameKind.local), (PySem.Str.ofString "i", PySem.NameKind.local), (PySem.Str.ofString "j", PySem.NameKind.local), (PySem.Str.ofString "len", PySem.NameKind.globalImplicit), (PySem.Str.ofString "range", PySem.NameKind.globalImplicit), (PySem.Str.ofString "max", PySem.NameKind.globalImplicit)], isGenerator := Bool.false, isCoroutine := Bool.false }, globals := 3, closure := [], defaults := PySem.Value.none, kwdefaults := PySem.Value.none, pyModule := PySem.Value.str (PySem.Str.ofString "canopy.core") 194, code := PySem.Value.ref 167 } } : PySem.Obj)),
  (167, ({ cls := PySem.Value.type "code", data := PySem.Data.fields #[PySem.Value.str (PySem.Str.ofString "pairs_below") 383, PySem.Value.str (PySem.Str.ofString "Canopy.pairs_below") 384, PySem.Value.str (PySem.Str.ofString "/claim/cut.py") 385, PySem.Value.int 86 0, PySem.Value.int 2 0, PySem.Value.int 0 0, PySem.Value.int 0 0, PySem.Value.int 3 0, PySem.Value.ref 162, PySem.Value.bool Bool.true, PySem.Value.int 181 0, PySem.Value.ref 163, PySem.Value.none, PySem.Value.ref 164, PySem.Value.ref 165, PySem.Value.ref 166, PySem.Value.int 394 0, PySem.Value.int 86 0, PySem.Value.str (PySem.Str.ofString "/claim/cut.py") 395] } : PySem.Obj)),
  (175, ({ cls := PySem.Value.type "function", data := PySem.Data.func { name := PySem.Str.ofString "pairs", qualname := PySem.Str.ofString "Canopy.pairs", params := { posonlyargs := [], args := [{ arg := PySem.Str.ofString "self", annotation := Option.none, pos := { line := 106, col := 14, endLine := 106, endCol := 18 } }], vararg := Option.none, kwonlyargs := [], kw_defaults := [], kwarg := Option.none, defaults := [] }, body := PySem.FuncBody.stmts (Ss.py b18), scope := { kind := PySem.ScopeKind.function, names := [(PySem.Str.ofString "self", PySem.NameKind.local)], isGenerator := Bool.false, isCoroutine := Bool.false }, globals := 3, closure := [], defaults := PySem.Value.none, kwdefaults := PySem.Value.none, pyModule := PySem.Value.str (PySem.Str.ofString "canopy.core") 194, code := PySem.Value.ref 174 } } : PySem.Obj)),
  (174, ({ cls := PySem.Value.type "code", data := PySem.Data.fields #[PySem.Value.str (PySem.Str.ofString "pairs") 397, PySem.Value.str (PySem.Str.ofString "Canopy.pairs") 398, PySem.Value.str (PySem.Str.ofString "/claim/cut.py") 399, PySem.Value.int 106 0, PySem.Value.int 1 0, PySem.Value.int 0 0, PySem.Value.int 0 0, PySem.Value.int 3 0, PySem.Value.ref 169, PySem.Value.bool Bool.true, PySem.Value.int 181 0, PySem.Value.ref 170, PySem.Value.none, PySem.Value.ref 171, PySem.Value.ref 172, PySem.Value.ref 173, PySem.Value.int 401 0, PySem.Value.int 106 0, PySem.Value.str (PySem.Str.ofString "/claim/cut.py") 402] } : PySem.Obj)),
  (182, ({ cls := PySem.Value.type "function", data := PySem.Data.func { name := PySem.Str.ofString "shape_ok", qualname := PySem.Str.ofString "Canopy.shape_ok", params := { posonlyargs := [], args := [{ arg := PySem.Str.ofString "self", annotation := Option.none, pos := { line := 109, col := 17, endLine := 109, endCol := 21 } }, { arg := PySem.Str.ofString "node", annotation := Option.none, pos := { line := 109, col := 23, endLine := 109, endCol := 27 } }, { arg := PySem.Str.ofString "is_root", annotation := Option.none, pos := { line := 109, col := 29, endLine := 109, endCol := 36 } }], vararg := Option.none, kwonlyargs := [], kw_defaults := [], kwarg := Option.none, defaults := [] }, body := PySem.FuncBody.stmts (Ss.py b19), scope := { kind := PySem.ScopeKind.function, names := [(PySem.Str.ofString "self", PySem.NameKind.local), (PySem.Str.ofString "node", PySem.NameKind.local), (PySem.Str.ofString "is_root", PySem.NameKind.local), (PySem.Str.ofString "t", PySem.NameKind.local), (PySem.Str.ofString "stack", PySem.NameKind.local), (PySem.Str.ofString "top", PySem.NameKind.local), (PySem.Str.ofString "here", PySem.NameKind.local), (PySem.Str.ofString "n", PySem.NameKind.local), (PySem.Str.ofString "child", PySem.NameKind.local), (PySem.Str.ofString "len", PySem.NameKind.globalImplicit)], isGenerator := Bool.false, isCoroutine := Bool.false }, globals := 3, closure := [], defaults := PySem.Value.none, kwdefaults := PySem.Value.none, pyModule := PySem.Value.str (PySem.Str.ofString "canopy.core") 194, code := PySem.Value.ref 181 } } : PySem.Obj)),
  (181, ({ cls := PySem.Value.type "code", data := PySem.Data.fields #[PySem.Value.str (PySem.Str.ofString "shape_ok") 404, PySem.Value.str (PySem.Str.ofString "Canopy.shape_ok") 405, PySem.Value.str (PySem.Str.ofString "/claim/cut.py") 406, PySem.Value.int 109 0, PySem.Value.int 3 0, PySem.Value.int 0 0, PySem.Value.int 0 0, PySem.Value.int 3 0, PySem.Value.ref 176, PySem.Value.bool Bool.true, PySem.Value.int 181 0, PySem.Value.ref 177, PySem.Value.none, PySem.Value.ref 178, PySem.Value.ref 179, PySem.Value.ref 180, PySem.Value.int 416 0, PySem.Value.int 109 0, PySem.Value.str (PySem.Str.ofString "/claim/cut.py") 417] } : PySem.Obj)),
  (189, ({ cls := PySem.Value.type "function", data := PySem.Data.func { name := PySem.Str.ofString "keys_ok", qualname := PySem.Str.ofString "Canopy.keys_ok", params := { posonlyargs := [], args := [{ arg := PySem.Str.ofString "self", annotation := Option.none, pos := { line := 127, col := 16, endLine := 127, endCol := 20 } }, { arg := PySem.Str.ofString "node", annotation := Option.none, pos := { line := 127, col := 22, endLine := 127, endCol := 26 } }, { arg := PySem.Str.ofString "low", annotation := Option.none, pos := { line := 127, col := 28, endLine := 127, endCol := 31 } }, { arg := PySem.Str.ofString "high", annotation := Option.none, pos := { line := 127, col := 33, endLine := 127, endCol := 37 } }], vararg := Option.none, kwonlyargs := [], kw_defaults := [], kwarg := Option.none, defaults := [] }, body := PySem.FuncBody.stmts (Ss.py b20), scope := { kind := PySem.ScopeKind.function, names := [(PySem.Str.ofString "self", PySem.NameKind.local), (PySem.Str.ofString "node", PySem.NameKind.local), (PySem.Str.ofString "low", PySem.NameKind.local), (PySem.Str.ofString "high", PySem.NameKind.local), (PySem.Str.ofString "stack", PySem.NameKind.local), (PySem.Str.ofString "top", PySem.NameKind.local), (PySem.Str.ofString "here", PySem.NameKind.local), (PySem.Str.ofString "row", PySem.NameKind.local), (PySem.Str.ofString "i", PySem.NameKind.local), (PySem.Str.ofString "j", PySem.NameKind.local), (PySem.Str.ofString "lo", PySem.NameKind.local), (PySem.Str.ofString "hi", PySem.NameKind.local), (PySem.Str.ofString "len", PySem.NameKind.globalImplicit), (PySem.Str.ofString "range", PySem.NameKind.globalImplicit)], isGenerator := Bool.false, isCoroutine := Bool.false }, globals := 3, closure := [], defaults := PySem.Value.none, kwdefaults := PySem.Value.none, pyModule := PySem.Value.str (PySem.Str.ofString "canopy.core") 194, code := PySem.Value.ref 188 } } : PySem.Obj)),
  (188, ({ cls := PySem.Value.type "code", data := PySem.Data.fields #[PySem.Value.str (PySem.Str.ofString "keys_ok") 419, PySem.Value.str (PySem.Str.ofString "Canopy.keys_ok") 420, PySem.Value.str (PySem.Str.ofString "/claim/cut.py") 421, PySem.Value.int 127 0, PySem.Value.int 4 0, PySem.Value.int 0 0, PySem.Value.int 0 0, PySem.Value.int 3 0, PySem.Value.ref 183, PySem.Value.bool Bool.true, PySem.Value.int 181 0, PySem.Value.ref 184, PySem.Value.none, PySem.Value.ref 185, PySem.Value.ref 186, PySem.Value.ref 187, PySem.Value.int 434 0, PySem.Value.int 127 0, PySem.Value.str (PySem.Str.ofString "/claim/cut.py") 435] } : PySem.Obj)),
  (196, ({ cls := PySem.Value.type "function", data := PySem.Data.func { name := PySem.Str.ofString "leaf_level", qualname := PySem.Str.ofString "Canopy.leaf_level", params := { posonlyargs := [], args := [{ arg := PySem.Str.ofString "self", annotation := Option.none, pos := { line := 151, col := 19, endLine := 151, endCol := 23 } }, { arg := PySem.Str.ofString "node", annotation := Option.none, pos := { line := 151, col := 25, endLine := 151, endCol := 29 } }], vararg := Option.none, kwonlyargs := [], kw_defaults := [], kwarg := Option.none, defaults := [] }, body := PySem.FuncBody.stmts (Ss.py b21), scope := { kind := PySem.ScopeKind.function, names := [(PySem.Str.ofString "self", PySem.NameKind.local), (PySem.Str.ofString "node", PySem.NameKind.local), (PySem.Str.ofString "level", PySem.NameKind.local), (PySem.Str.ofString "stack", PySem.NameKind.local), (PySem.Str.ofString "top", PySem.NameKind.local), (PySem.Str.ofString "here", PySem.NameKind.local), (PySem.Str.ofString "child", PySem.NameKind.local), (PySem.Str.ofString "len", PySem.NameKind.globalImplicit)], isGenerator := Bool.false, isCoroutine := Bool.false }, globals := 3, closure := [], defaults := PySem.Value.none, kwdefaults := PySem.Value.none, pyModule := PySem.Value.str (PySem.Str.ofString "canopy.core") 194, code := PySem.Value.ref 195 } } : PySem.Obj)),
  (195, ({ cls := PySem.Value.type "code", data := PySem.Data.fields #[PySem.Value.str (PySem.Str.ofString "leaf_level") 437, PySem.Value.str (PySem.Str.ofString "Canopy.leaf_level") 438, PySem.Value.str (PySem.Str.ofString "/claim/cut.py") 439, PySem.Value.int 151 0, PySem.Value.int 2 0, PySem.Value.int 0 0, PySem.Value.int 0 0, PySem.Value.int 3 0, PySem.Value.ref 190, PySem.Value.bool Bool.true, PySem.Value.int 181 0, PySem.Value.ref 191, PySem.Value.none, PySem.Value.ref 192, PySem.Value.ref 193, PySem.Value.ref 194, PySem.Value.int 447 0, PySem.Value.int 151 0, PySem.Value.str (PySem.Str.ofString "/claim/cut.py") 448] } : PySem.Obj)),
  (203, ({ cls := PySem.Value.type "function", data := PySem.Data.func { name := PySem.Str.ofString "check", qualname := PySem.Str.ofString "Canopy.check", params := { posonlyargs := [], args := [{ arg := PySem.Str.ofString "self", annotation := Option.none, pos := { line := 167, col := 14, endLine := 167, endCol := 18 } }], vararg := Option.none, kwonlyargs := [], kw_defaults := [], kwarg := Option.none, defaults := [] }, body := PySem.FuncBody.stmts (Ss.py b22), scope := { kind := PySem.ScopeKind.function, names := [(PySem.Str.ofString "self", PySem.NameKind.local)], isGenerator := Bool.false, isCoroutine := Bool.false }, globals := 3, closure := [], defaults := PySem.Value.none, kwdefaults := PySem.Value.none, pyModule := PySem.Value.str (PySem.Str.ofString "canopy.core") 194, code := PySem.Value.ref 202 } } : PySem.Obj)),
  (202, ({ cls := PySem.Value.type "code", data := PySem.Data.fields #[PySem.Value.str (PySem.Str.ofString "check") 450, PySem.Value.str (PySem.Str.ofString "Canopy.check") 451, PySem.Value.str (PySem.Str.ofString "/claim/cut.py") 452, PySem.Value.int 167 0, PySem.Value.int 1 0, PySem.Value.int 0 0, PySem.Value.int 0 0, PySem.Value.int 3 0, PySem.Value.ref 197, PySem.Value.bool Bool.true, PySem.Value.int 181 0, PySem.Value.ref 198, PySem.Value.none, PySem.Value.ref 199, PySem.Value.ref 200, PySem.Value.ref 201, PySem.Value.int 454 0, PySem.Value.int 167 0, PySem.Value.str (PySem.Str.ofString "/claim/cut.py") 455] } : PySem.Obj)),
  (217, ({ cls := PySem.Value.type "function", data := PySem.Data.func { name := PySem.Str.ofString "count_below", qualname := PySem.Str.ofString "Canopy.count_below", params := { posonlyargs := [], args := [{ arg := PySem.Str.ofString "self", annotation := Option.none, pos := { line := 179, col := 20, endLine := 179, endCol := 24 } }, { arg := PySem.Str.ofString "node", annotation := Option.none, pos := { line := 179, col := 26, endLine := 179, endCol := 30 } }], vararg := Option.none, kwonlyargs := [], kw_defaults := [], kwarg := Option.none, defaults := [] }, body := PySem.FuncBody.stmts (Ss.py b23), scope := { kind := PySem.ScopeKind.function, names := [(PySem.Str.ofString "self", PySem.NameKind.local), (PySem.Str.ofString "node", PySem.NameKind.local), (PySem.Str.ofString "total", PySem.NameKind.local), (PySem.Str.ofString "stack", PySem.NameKind.local), (PySem.Str.ofString "here", PySem.NameKind.local), (PySem.Str.ofString "child", PySem.NameKind.local), (PySem.Str.ofString "len", PySem.NameKind.globalImplicit)], isGenerator := Bool.false, isCoroutine := Bool.false }, globals := 3, closure := [], defaults := PySem.Value.none, kwdefaults := PySem.Value.none, pyModule := PySem.Value.str (PySem.Str.ofString "canopy.core") 194, code := PySem.Value.ref 216 } } : PySem.Obj)),
  (216, ({ cls := PySem.Value.type "code", data := PySem.Data.fields #[PySem.Value.str (PySem.Str.ofString "count_below") 467, PySem.Value.str (PySem.Str.ofString "Canopy.count_below") 468, PySem.Value.str (PySem.Str.ofString "/claim/cut.py") 469, PySem.Value.int 179 0, PySem.Value.int 2 0, PySem.Value.int 0 0, PySem.Value.int 0 0, PySem.Value.int 3 0, PySem.Value.ref 211, PySem.Value.bool Bool.true, PySem.Value.int 181 0, PySem.Value.ref 212, PySem.Value.none, PySem.Value.ref 213, PySem.Value.ref 214, PySem.Value.ref 215, PySem.Value.int 476 0, PySem.Value.int 179 0, PySem.Value.str (PySem.Str.ofString "/claim/cut.py") 477] } : PySem.Obj)),
  (245, ({ cls := PySem.Value.type "function", data := PySem.Data.func { name := PySem.Str.ofString "flat_below", qualname := PySem.Str.ofString "Canopy.flat_below", params := { posonlyargs := [], args := [{ arg := PySem.Str.ofString "self", annotation := Option.none, pos := { line := 199, col := 19, endLine := 199, endCol := 23 } }, { arg := PySem.Str.ofString "node", annotation := Option.none, pos := { line := 199, col := 25, endLine := 199, endCol := 29 } }], vararg := Option.none, kwonlyargs := [], kw_defaults := [], kwarg := Option.none, defaults := [] }, body := PySem.FuncBody.stmts (Ss.py b24), scope := { kind := PySem.ScopeKind.function, names := [(PySem.Str.ofString "self", PySem.NameKind.local), (PySem.Str.ofString "node", PySem.NameKind.local), (PySem.Str.ofString "out", PySem.NameKind.local), (PySem.Str.ofString "stack", PySem.NameKind.local), (PySem.Str.ofString "here", PySem.NameKind.local), (PySem.Str.ofString "k", PySem.NameKind.local), (PySem.Str.ofString "v", PySem.NameKind.local), (PySem.Str.ofString "j", PySem.NameKind.local), (PySem.Str.ofString "len", PySem.NameKind.globalImplicit), (PySem.Str.ofString "range", PySem.NameKind.globalImplicit)], isGenerator := Bool.false, isCoroutine := Bool.false }, globals := 3, closure := [], defaults := PySem.Value.none, kwdefaults := PySem.Value.none, pyModule := PySem.Value.str (PySem.Str.ofString "canopy.core") 194, code := PySem.Value.ref 244 } } : PySem.Obj)),
  (244, ({ cls := PySem.Value.type "code", data := PySem.Data.fields #[PySem.Value.str (PySem.Str.ofString "flat_below") 503, PySem.Value.str (PySem.Str.ofString "Canopy.flat_below") 504, PySem.Value.str (PySem.Str.ofString "/claim/cut.py") 505, PySem.Value.int 199 0, PySem.Value.int 2 0, PySem.Value.int 0 0, PySem.Value.int 0 0, PySem.Value.int 3 0, PySem.Value.ref 239, PySem.Value.bool Bool.true, PySem.Value.int 181 0, PySem.Value.ref 240, PySem.Value.none, PySem.Value.ref 241, PySem.Value.ref 242, PySem.Value.ref 243, PySem.Value.int 514 0, PySem.Value.int 199 0, PySem.Value.str (PySem.Str.ofString "/claim/cut.py") 515] } : PySem.Obj)),
  (252, ({ cls := PySem.Value.type "function", data := PySem.Data.func { name := PySem.Str.ofString "flat", qualname := PySem.Str.ofString "Canopy.flat", params := { posonlyargs := [], args := [{ arg := PySem.Str.ofString "self", annotation := Option.none, pos := { line := 215, col := 13, endLine := 215, endCol := 17 } }], vararg := Option.none, kwonlyargs := [], kw_defaults := [], kwarg := Option.none, defaults := [] }, body := PySem.FuncBody.stmts (Ss.py b25), scope := { kind := PySem.ScopeKind.function, names := [(PySem.Str.ofString "self", PySem.NameKind.local)], isGenerator := Bool.false, isCoroutine := Bool.false }, globals := 3, closure := [], defaults := PySem.Value.none, kwdefaults := PySem.Value.none, pyModule := PySem.Value.str (PySem.Str.ofString "canopy.core") 194, code := PySem.Value.ref 251 } } : PySem.Obj)),
  (251, ({ cls := PySem.Value.type "code", data := PySem.Data.fields #[PySem.Value.str (PySem.Str.ofString "flat") 517, PySem.Value.str (PySem.Str.ofString "Canopy.flat") 518, PySem.Value.str (PySem.Str.ofString "/claim/cut.py") 519, PySem.Value.int 215 0, PySem.Value.int 1 0, PySem.Value.int 0 0, PySem.Value.int 0 0, PySem.Value.int 3 0, PySem.Value.ref 246, PySem.Value.bool Bool.true, PySem.Value.int 181 0, PySem.Value.ref 247, PySem.Value.none, PySem.Value.ref 248, PySem.Value.ref 249, PySem.Value.ref 250, PySem.Value.int 521 0, PySem.Value.int 215 0, PySem.Value.str (PySem.Str.ofString "/claim/cut.py") 522] } : PySem.Obj))]
def as2 : List Addr := [3, 58, 59, 254, 255, 266, 265, 271, 270, 276, 275, 283, 282, 290, 289, 295, 294, 302, 301, 309, 308, 314, 313, 319, 318, 35, 34, 42, 41, 49, 48, 77, 76, 84, 83, 91, 90, 98, 97, 168, 167, 175, 174, 182, 181, 189, 188, 196, 195, 203, 202, 217, 216, 245, 244, 252, 251]
theorem as2_eq (P : Params) : as2 = (K2 P).map (·.1) := by kernel_rfl
noncomputable def H2 : Hook := kHook K2 as2 as2_eq
abbrev row2 := PySem.Challenge.rw_pd_canopyofobjects_2_02.row
abbrev prog2 : Program := PySem.Challenge.pw_pd_canopyofobjects_2_02
def view2 : Program := { prog2 with main := { prog2.main with body := [prog2.main.body.getLast!] } }
def loose2 : List Str := ["_wall", "Node", "Canopy", "_law_cell", "_law_groups", "_law_node", "_law_branch", "_law_blueprint", "_law_build", "_law_head", "_law_flat", "_law_spoilt"]
theorem left2 : LeftO (OpenRow.toRowW row2).prog view2 loose2 (fun s => xlAt view2 [] s && recOk (RowW.records (OpenRow.toRowW row2)) s) (Hook.obs H2) (Hook.val H2) 3542 := by
  intro w
  unfold openEnds fencedOpening topFrom
  rw [PySem.W.Fast.te14082659384304107361, PySem.W.Fast.te14364793385576792824, PySem.W.Fast.te14289696077712309145, PySem.W.Fast.te1435165496053646825, PySem.W.Fast.te8920871248978507458, PySem.W.Fast.te4187177175401517315, PySem.W.Fast.te5923862056798008813]
  kernel_rfl
end Mine

set_option maxHeartbeats 4000000
namespace Mine
open PySem PySem.W PySem.Calls PyProof.Rows
def cls2 (k : Nat) : Addr := Nat.casesOn k 59 fun _ => 255
def fld2 (k : Nat) : List Str := Nat.casesOn k ["key_row", "value_row", "children"] fun _ => ["t", "root", "size"]
section
variable {prog : Program} {w : World} {hb : Heap} {p : Program} {loose : List Str} {mg mb : Str → Option Value} (X : (K2 w.params).In hb) (T : TopRead p loose mg mb hb) (scr : Addr) (sws : List Value) (sns : List Int) (hscr : hb.IsList scr sws.toArray) (hsns : IntsAre sws sns)
noncomputable def mkC2 : Cn := ⟨prog, w, hb, K2 w.params, p, loose, mg, mb, X, T, kv2 sns, vv2 sns, kv2_lt sns, cls2, fld2, scr, sws, sns, hscr, hsns⟩
theorem fn2 : ∀ k x, gname2 k = some x → nsIn (mkC2 (prog := prog) X T scr sws sns hscr hsns).K mainGlobals x = some (some (.ref (addr2 k))) ∧ keepIn (mkC2 (prog := prog) X T scr sws sns hscr hsns).K (.ref (addr2 k)) = true ∧ (x == ("__debug__" : Str)) = false := fun k x h => match k, h with
  | 0, h => by cases h; exact ⟨rfl, rfl, by decide +kernel⟩
  | 1, h => by cases h; exact ⟨rfl, rfl, by decide +kernel⟩
  | 2, h => by cases h; exact ⟨rfl, rfl, by decide +kernel⟩
  | 3, h => by cases h; exact ⟨rfl, rfl, by decide +kernel⟩
  | 4, h => by cases h; exact ⟨rfl, rfl, by decide +kernel⟩
  | 5, h => by cases h; exact ⟨rfl, rfl, by decide +kernel⟩
  | 6, h => by cases h; exact ⟨rfl, rfl, by decide +kernel⟩
  | 7, h => by cases h; exact ⟨rfl, rfl, by decide +kernel⟩
  | 8, h => by cases h; exact ⟨rfl, rfl, by decide +kernel⟩
  | 9, h => by cases h; exact ⟨rfl, rfl, by decide +kernel⟩
  | _ + 10, h => by cases h
theorem cl2 : ∀ k x, cname2 k = some x → nsIn (mkC2 (prog := prog) X T scr sws sns hscr hsns).K mainGlobals x = some (some (.ref ((mkC2 (prog := prog) X T scr sws sns hscr hsns).cls k))) ∧ keepIn (mkC2 (prog := prog) X T scr sws sns hscr hsns).K (.ref ((mkC2 (prog := prog) X T scr sws sns hscr hsns).cls k)) = true ∧ (x == ("__debug__" : Str)) = false := fun k x h => match k, h with
  | 0, h => by cases h; exact ⟨rfl, rfl, by decide +kernel⟩
  | 1, h => by cases h; exact ⟨rfl, rfl, by decide +kernel⟩
  | _ + 2, h => by cases h
theorem new2 : ∀ k x, cname2 k = some x → NewOk (mkC2 (prog := prog) X T scr sws sns hscr hsns) k (addr2 (init2 k)) := fun k x h => match k, h with
  | 0, h => ⟨rfl, rfl, rfl⟩
  | 1, h => ⟨rfl, rfl, rfl⟩
  | _ + 2, h => by cases h
theorem attr2 : ∀ cl f j, fpos2 cl f = some j → ∃ x, aname2 f = some x ∧ ((mkC2 (prog := prog) X T scr sws sns hscr hsns).fld cl)[j]? = some x ∧ AttrOk (mkC2 (prog := prog) X T scr sws sns hscr hsns) cl x ∧ SetOk (mkC2 (prog := prog) X T scr sws sns hscr hsns) cl x := fun cl f j h => match cl, f, h with
  | 0, 0, h => by cases h; exact ⟨_, rfl, rfl, ⟨rfl, rfl, rfl⟩, ⟨rfl, rfl, rfl, rfl⟩⟩
  | 0, 1, h => by cases h; exact ⟨_, rfl, rfl, ⟨rfl, rfl, rfl⟩, ⟨rfl, rfl, rfl, rfl⟩⟩
  | 0, 2, h => by cases h; exact ⟨_, rfl, rfl, ⟨rfl, rfl, rfl⟩, ⟨rfl, rfl, rfl, rfl⟩⟩
  | 0, 3, h => by cases h
  | 0, 4, h => by cases h
  | 0, 5, h => by cases h
  | 0, _ + 6, h => by cases h
  | 1, 0, h => by cases h
  | 1, 1, h => by cases h
  | 1, 2, h => by cases h
  | 1, 3, h => by cases h; exact ⟨_, rfl, rfl, ⟨rfl, rfl, rfl⟩, ⟨rfl, rfl, rfl, rfl⟩⟩
  | 1, 4, h => by cases h; exact ⟨_, rfl, rfl, ⟨rfl, rfl, rfl⟩, ⟨rfl, rfl, rfl, rfl⟩⟩
  | 1, 5, h => by cases h; exact ⟨_, rfl, rfl, ⟨rfl, rfl, rfl⟩, ⟨rfl, rfl, rfl, rfl⟩⟩
  | 1, _ + 6, h => by cases h
  | _ + 2, _, h => by cases h
theorem mthd2 : ∀ cl f k, mth2 cl f = some k → ∃ x, mname2 f = some x ∧ MethOk (mkC2 (prog := prog) X T scr sws sns hscr hsns) cl x (addr2 k) := fun cl f k h => match cl, f, h with
  | 0, 0, h => by cases h; exact ⟨_, rfl, ⟨rfl, rfl, rfl, rfl, show ¬ ("is_leaf" : Str) ∈ fld2 0 by decide +kernel⟩⟩
  | 0, 1, h => by cases h; exact ⟨_, rfl, ⟨rfl, rfl, rfl, rfl, show ¬ ("slot" : Str) ∈ fld2 0 by decide +kernel⟩⟩
  | 0, 2, h => by cases h
  | 0, 3, h => by cases h
  | 0, 4, h => by cases h
  | 0, 5, h => by cases h
  | 0, 6, h => by cases h
  | 0, 7, h => by cases h
  | 0, 8, h => by cases h
  | 0, 9, h => by cases h
  | 0, 10, h => by cases h
  | 0, 11, h => by cases h
  | 0, 12, h => by cases h
  | 0, 13, h => by cases h
  | 0, 14, h => by cases h
  | 0, _ + 15, h => by cases h
  | 1, 0, h => by cases h
  | 1, 1, h => by cases h
  | 1, 2, h => by cases h; exact ⟨_, rfl, ⟨rfl, rfl, rfl, rfl, show ¬ ("adopt" : Str) ∈ fld2 1 by decide +kernel⟩⟩
  | 1, 3, h => by cases h; exact ⟨_, rfl, ⟨rfl, rfl, rfl, rfl, show ¬ ("lookup" : Str) ∈ fld2 1 by decide +kernel⟩⟩
  | 1, 4, h => by cases h; exact ⟨_, rfl, ⟨rfl, rfl, rfl, rfl, show ¬ ("height" : Str) ∈ fld2 1 by decide +kernel⟩⟩
  | 1, 5, h => by cases h; exact ⟨_, rfl, ⟨rfl, rfl, rfl, rfl, show ¬ ("pairs_below" : Str) ∈ fld2 1 by decide +kernel⟩⟩
  | 1, 6, h => by cases h; exact ⟨_, rfl, ⟨rfl, rfl, rfl, rfl, show ¬ ("pairs" : Str) ∈ fld2 1 by decide +kernel⟩⟩
  | 1, 7, h => by cases h; exact ⟨_, rfl, ⟨rfl, rfl, rfl, rfl, show ¬ ("shape_ok" : Str) ∈ fld2 1 by decide +kernel⟩⟩
  | 1, 8, h => by cases h; exact ⟨_, rfl, ⟨rfl, rfl, rfl, rfl, show ¬ ("keys_ok" : Str) ∈ fld2 1 by decide +kernel⟩⟩
  | 1, 9, h => by cases h; exact ⟨_, rfl, ⟨rfl, rfl, rfl, rfl, show ¬ ("leaf_level" : Str) ∈ fld2 1 by decide +kernel⟩⟩
  | 1, 10, h => by cases h; exact ⟨_, rfl, ⟨rfl, rfl, rfl, rfl, show ¬ ("check" : Str) ∈ fld2 1 by decide +kernel⟩⟩
  | 1, 11, h => by cases h; exact ⟨_, rfl, ⟨rfl, rfl, rfl, rfl, show ¬ ("count_below" : Str) ∈ fld2 1 by decide +kernel⟩⟩
  | 1, 12, h => by cases h; exact ⟨_, rfl, ⟨rfl, rfl, rfl, rfl, show ¬ ("flat_below" : Str) ∈ fld2 1 by decide +kernel⟩⟩
  | 1, 13, h => by cases h; exact ⟨_, rfl, ⟨rfl, rfl, rfl, rfl, show ¬ ("flat" : Str) ∈ fld2 1 by decide +kernel⟩⟩
  | 1, 14, h => by cases h
  | 1, _ + 15, h => by cases h
  | _ + 2, _, h => by cases h
theorem blt2 : ∀ x ∈ [("len" : Str), "sum", "max", "list", "tuple", "range"], nsIn (mkC2 (prog := prog) X T scr sws sns hscr hsns).K mainGlobals x = some none := by
  intro x hx
  simp only [List.mem_cons, List.not_mem_nil, or_false] at hx
  rcases hx with rfl | rfl | rfl | rfl | rfl | rfl <;> rfl
theorem at2_0 : ∃ d, FnAt (mkC2 (prog := prog) X T scr sws sns hscr hsns) 266 d nm0 2 b0 := ⟨⟨_, _, _, _, _, _, _, _, _, _, _, _, _, _, _⟩, rfl, rfl, rfl, rfl, rfl, rfl, (fun ws h => by match ws, h with | [a, b], _ => rfl), by decide +kernel, by decide +kernel, by decide +kernel, by decide +kernel, by decide +kernel, rfl, by decide +kernel⟩
theorem at2_1 : ∃ d, FnAtC (mkC2 (prog := prog) X T scr sws sns hscr hsns) 271 d nm1 3 b1 := ⟨⟨_, _, _, _, _, _, _, _, _, _, _, _, _, _, _⟩, rfl, rfl, rfl, rfl, rfl, rfl, (fun ws h => by match ws, h with | [a, b, c], _ => rfl), by decide +kernel, by decide +kernel, by decide +kernel, by decide +kernel, by decide +kernel, by decide +kernel, by decide +kernel⟩
theorem at2_2 : ∃ d, FnAt (mkC2 (prog := prog) X T scr sws sns hscr hsns) 276 d nm2 2 b2 := ⟨⟨_, _, _, _, _, _, _, _, _, _, _, _, _, _, _⟩, rfl, rfl, rfl, rfl, rfl, rfl, (fun ws h => by match ws, h with | [a, b], _ => rfl), by decide +kernel, by decide +kernel, by decide +kernel, by decide +kernel, by decide +kernel, rfl, by decide +kernel⟩
theorem at2_3 : ∃ d, FnAt (mkC2 (prog := prog) X T scr sws sns hscr hsns) 283 d nm3 3 b3 := ⟨⟨_, _, _, _, _, _, _, _, _, _, _, _, _, _, _⟩, rfl, rfl, rfl, rfl, rfl, rfl, (fun ws h => by match ws, h with | [a, b, c], _ => rfl), by decide +kernel, by decide +kernel, by decide +kernel, by decide +kernel, by decide +kernel, rfl, by decide +kernel⟩
theorem at2_4 : ∃ d, FnAt (mkC2 (prog := prog) X T scr sws sns hscr hsns) 290 d nm4 3 b4 := ⟨⟨_, _, _, _, _, _, _, _, _, _, _, _, _, _, _⟩, rfl, rfl, rfl, rfl, rfl, rfl, (fun ws h => by match ws, h with | [a, b, c], _ => rfl), by decide +kernel, by decide +kernel, by decide +kernel, by decide +kernel, by decide +kernel, rfl, by decide +kernel⟩
theorem at2_5 : ∃ d, FnAt (mkC2 (prog := prog) X T scr sws sns hscr hsns) 295 d nm5 1 b5 := ⟨⟨_, _, _, _, _, _, _, _, _, _, _, _, _, _, _⟩, rfl, rfl, rfl, rfl, rfl, rfl, (fun ws h => by match ws, h with | [a], _ => rfl), by decide +kernel, by decide +kernel, by decide +kernel, by decide +kernel, by decide +kernel, rfl, by decide +kernel⟩
theorem at2_6 : ∃ d, FnAt (mkC2 (prog := prog) X T scr sws sns hscr hsns) 302 d nm6 1 b6 := ⟨⟨_, _, _, _, _, _, _, _, _, _, _, _, _, _, _⟩, rfl, rfl, rfl, rfl, rfl, rfl, (fun ws h => by match ws, h with | [a], _ => rfl), by decide +kernel, by decide +kernel, by decide +kernel, by decide +kernel, by decide +kernel, rfl, by decide +kernel⟩
theorem at2_7 : ∃ d, FnAt (mkC2 (prog := prog) X T scr sws sns hscr hsns) 309 d nm7 1 b7 := ⟨⟨_, _, _, _, _, _, _, _, _, _, _, _, _, _, _⟩, rfl, rfl, rfl, rfl, rfl, rfl, (fun ws h => by match ws, h with | [a], _ => rfl), by decide +kernel, by decide +kernel, by decide +kernel, by decide +kernel, by decide +kernel, rfl, by decide +kernel⟩
theorem at2_8 : ∃ d, FnAtC (mkC2 (prog := prog) X T scr sws sns hscr hsns) 314 d nm8 7 b8 := ⟨⟨_, _, _, _, _, _, _, _, _, _, _, _, _, _, _⟩, rfl, rfl, rfl, rfl, rfl, rfl, (fun ws h => by match ws, h with | [a, b, c, d, e, f, g], _ => rfl), by decide +kernel, by decide +kernel, by decide +kernel, by decide +kernel, by decide +kernel, by decide +kernel, by decide +kernel⟩
theorem at2_9 : ∃ d, FnAt (mkC2 (prog := prog) X T scr sws sns hscr hsns) 319 d nm9 1 b9 := ⟨⟨_, _, _, _, _, _, _, _, _, _, _, _, _, _, _⟩, rfl, rfl, rfl, rfl, rfl, rfl, (fun ws h => by match ws, h with | [a], _ => rfl), by decide +kernel, by decide +kernel, by decide +kernel, by decide +kernel, by decide +kernel, rfl, by decide +kernel⟩
theorem at2_10 : ∃ d, FnAt (mkC2 (prog := prog) X T scr sws sns hscr hsns) 35 d nm10 4 b10 := ⟨⟨_, _, _, _, _, _, _, _, _, _, _, _, _, _, _⟩, rfl, rfl, rfl, rfl, rfl, rfl, (fun ws h => by match ws, h with | [a, b, c, d], _ => rfl), by decide +kernel, by decide +kernel, by decide +kernel, by decide +kernel, by decide +kernel, rfl, by decide +kernel⟩
theorem at2_11 : ∃ d, FnAt (mkC2 (prog := prog) X T scr sws sns hscr hsns) 42 d nm11 1 b11 := ⟨⟨_, _, _, _, _, _, _, _, _, _, _, _, _, _, _⟩, rfl, rfl, rfl, rfl, rfl, rfl, (fun ws h => by match ws, h with | [a], _ => rfl), by decide +kernel, by decide +kernel, by decide +kernel, by decide +kernel, by decide +kernel, rfl, by decide +kernel⟩
theorem at2_12 : ∃ d, FnAt (mkC2 (prog := prog) X T scr sws sns hscr hsns) 49 d nm12 2 b12 := ⟨⟨_, _, _, _, _, _, _, _, _, _, _, _, _, _, _⟩, rfl, rfl, rfl, rfl, rfl, rfl, (fun ws h => by match ws, h with | [a, b], _ => rfl), by decide +kernel, by decide +kernel, by decide +kernel, by decide +kernel, by decide +kernel, rfl, by decide +kernel⟩
theorem at2_13 : ∃ d, FnAt (mkC2 (prog := prog) X T scr sws sns hscr hsns) 77 d nm13 2 b13 := ⟨⟨_, _, _, _, _, _, _, _, _, _, _, _, _, _, _⟩, rfl, rfl, rfl, rfl, rfl, rfl, (fun ws h => by match ws, h with | [a, b], _ => rfl), by decide +kernel, by decide +kernel, by decide +kernel, by decide +kernel, by decide +kernel, rfl, by decide +kernel⟩
theorem at2_14 : ∃ d, FnAt (mkC2 (prog := prog) X T scr sws sns hscr hsns) 84 d nm14 3 b14 := ⟨⟨_, _, _, _, _, _, _, _, _, _, _, _, _, _, _⟩, rfl, rfl, rfl, rfl, rfl, rfl, (fun ws h => by match ws, h with | [a, b, c], _ => rfl), by decide +kernel, by decide +kernel, by decide +kernel, by decide +kernel, by decide +kernel, rfl, by decide +kernel⟩
theorem at2_15 : ∃ d, FnAt (mkC2 (prog := prog) X T scr sws sns hscr hsns) 91 d nm15 2 b15 := ⟨⟨_, _, _, _, _, _, _, _, _, _, _, _, _, _, _⟩, rfl, rfl, rfl, rfl, rfl, rfl, (fun ws h => by match ws, h with | [a, b], _ => rfl), by decide +kernel, by decide +kernel, by decide +kernel, by decide +kernel, by decide +kernel, rfl, by decide +kernel⟩
theorem at2_16 : ∃ d, FnAt (mkC2 (prog := prog) X T scr sws sns hscr hsns) 98 d nm16 1 b16 := ⟨⟨_, _, _, _, _, _, _, _, _, _, _, _, _, _, _⟩, rfl, rfl, rfl, rfl, rfl, rfl, (fun ws h => by match ws, h with | [a], _ => rfl), by decide +kernel, by decide +kernel, by decide +kernel, by decide +kernel, by decide +kernel, rfl, by decide +kernel⟩
theorem at2_17 : ∃ d, FnAt (mkC2 (prog := prog) X T scr sws sns hscr hsns) 168 d nm17 2 b17 := ⟨⟨_, _, _, _, _, _, _, _, _, _, _, _, _, _, _⟩, rfl, rfl, rfl, rfl, rfl, rfl, (fun ws h => by match ws, h with | [a, b], _ => rfl), by decide +kernel, by decide +kernel, by decide +kernel, by decide +kernel, by decide +kernel, rfl, by decide +kernel⟩
theorem at2_18 : ∃ d, FnAt (mkC2 (prog := prog) X T scr sws sns hscr hsns) 175 d nm18 1 b18 := ⟨⟨_, _, _, _, _, _, _, _, _, _, _, _, _, _, _⟩, rfl, rfl, rfl, rfl, rfl, rfl, (fun ws h => by match ws, h with | [a], _ => rfl), by decide +kernel, by decide +kernel, by decide +kernel, by decide +kernel, by decide +kernel, rfl, by decide +kernel⟩
theorem at2_19 : ∃ d, FnAt (mkC2 (prog := prog) X T scr sws sns hscr hsns) 182 d nm19 3 b19 := ⟨⟨_, _, _, _, _, _, _, _, _, _, _, _, _, _, _⟩, rfl, rfl, rfl, rfl, rfl, rfl, (fun ws h => by match ws, h with | [a, b, c], _ => rfl), by decide +kernel, by decide +kernel, by decide +kernel, by decide +kernel, by decide +kernel, rfl, by decide +kernel⟩
theorem at2_20 : ∃ d, FnAt (mkC2 (prog := prog) X T scr sws sns hscr hsns) 189 d nm20 4 b20 := ⟨⟨_, _, _, _, _, _, _, _, _, _, _, _, _, _, _⟩, rfl, rfl, rfl, rfl, rfl, rfl, (fun ws h => by match ws, h with | [a, b, c, d], _ => rfl), by decide +kernel, by decide +kernel, by decide +kernel, by decide +kernel, by decide +kernel, rfl, by decide +kernel⟩
theorem at2_21 : ∃ d, FnAt (mkC2 (prog := prog) X T scr sws sns hscr hsns) 196 d nm21 2 b21 := ⟨⟨_, _, _, _, _, _, _, _, _, _, _, _, _, _, _⟩, rfl, rfl, rfl, rfl, rfl, rfl, (fun ws h => by match ws, h with | [a, b], _ => rfl), by decide +kernel, by decide +kernel, by decide +kernel, by decide +kernel, by decide +kernel, rfl, by decide +kernel⟩
theorem at2_22 : ∃ d, FnAt (mkC2 (prog := prog) X T scr sws sns hscr hsns) 203 d nm22 1 b22 := ⟨⟨_, _, _, _, _, _, _, _, _, _, _, _, _, _, _⟩, rfl, rfl, rfl, rfl, rfl, rfl, (fun ws h => by match ws, h with | [a], _ => rfl), by decide +kernel, by decide +kernel, by decide +kernel, by decide +kernel, by decide +kernel, rfl, by decide +kernel⟩
theorem at2_23 : ∃ d, FnAt (mkC2 (prog := prog) X T scr sws sns hscr hsns) 217 d nm23 2 b23 := ⟨⟨_, _, _, _, _, _, _, _, _, _, _, _, _, _, _⟩, rfl, rfl, rfl, rfl, rfl, rfl, (fun ws h => by match ws, h with | [a, b], _ => rfl), by decide +kernel, by decide +kernel, by decide +kernel, by decide +kernel, by decide +kernel, rfl, by decide +kernel⟩
theorem at2_24 : ∃ d, FnAt (mkC2 (prog := prog) X T scr sws sns hscr hsns) 245 d nm24 2 b24 := ⟨⟨_, _, _, _, _, _, _, _, _, _, _, _, _, _, _⟩, rfl, rfl, rfl, rfl, rfl, rfl, (fun ws h => by match ws, h with | [a, b], _ => rfl), by decide +kernel, by decide +kernel, by decide +kernel, by decide +kernel, by decide +kernel, rfl, by decide +kernel⟩
theorem at2_25 : ∃ d, FnAt (mkC2 (prog := prog) X T scr sws sns hscr hsns) 252 d nm25 1 b25 := ⟨⟨_, _, _, _, _, _, _, _, _, _, _, _, _, _, _⟩, rfl, rfl, rfl, rfl, rfl, rfl, (fun ws h => by match ws, h with | [a], _ => rfl), by decide +kernel, by decide +kernel, by decide +kernel, by decide +kernel, by decide +kernel, rfl, by decide +kernel⟩
theorem ast2 : ∀ k np pad nm body, fns2 k = some (.ast np pad nm body) → ∃ d, FnAt (mkC2 (prog := prog) X T scr sws sns hscr hsns) (addr2 k) d nm np body ∨ FnAtC (mkC2 (prog := prog) X T scr sws sns hscr hsns) (addr2 k) d nm np body := fun k np pad nm body h => match k, h with
  | 0, h => by cases h; exact (at2_0 (prog := prog) X T scr sws sns hscr hsns).imp fun _ h => .inl h
  | 1, h => by cases h; exact (at2_1 (prog := prog) X T scr sws sns hscr hsns).imp fun _ h => .inr h
  | 2, h => by cases h; exact (at2_2 (prog := prog) X T scr sws sns hscr hsns).imp fun _ h => .inl h
  | 3, h => by cases h; exact (at2_3 (prog := prog) X T scr sws sns hscr hsns).imp fun _ h => .inl h
  | 4, h => by cases h; exact (at2_4 (prog := prog) X T scr sws sns hscr hsns).imp fun _ h => .inl h
  | 5, h => by cases h; exact (at2_5 (prog := prog) X T scr sws sns hscr hsns).imp fun _ h => .inl h
  | 6, h => by cases h; exact (at2_6 (prog := prog) X T scr sws sns hscr hsns).imp fun _ h => .inl h
  | 7, h => by cases h; exact (at2_7 (prog := prog) X T scr sws sns hscr hsns).imp fun _ h => .inl h
  | 8, h => by cases h; exact (at2_8 (prog := prog) X T scr sws sns hscr hsns).imp fun _ h => .inr h
  | 9, h => by cases h
  | 10, h => by cases h; exact (at2_10 (prog := prog) X T scr sws sns hscr hsns).imp fun _ h => .inl h
  | 11, h => by cases h; exact (at2_11 (prog := prog) X T scr sws sns hscr hsns).imp fun _ h => .inl h
  | 12, h => by cases h; exact (at2_12 (prog := prog) X T scr sws sns hscr hsns).imp fun _ h => .inl h
  | 13, h => by cases h; exact (at2_13 (prog := prog) X T scr sws sns hscr hsns).imp fun _ h => .inl h
  | 14, h => by cases h; exact (at2_14 (prog := prog) X T scr sws sns hscr hsns).imp fun _ h => .inl h
  | 15, h => by cases h; exact (at2_15 (prog := prog) X T scr sws sns hscr hsns).imp fun _ h => .inl h
  | 16, h => by cases h; exact (at2_16 (prog := prog) X T scr sws sns hscr hsns).imp fun _ h => .inl h
  | 17, h => by cases h; exact (at2_17 (prog := prog) X T scr sws sns hscr hsns).imp fun _ h => .inl h
  | 18, h => by cases h; exact (at2_18 (prog := prog) X T scr sws sns hscr hsns).imp fun _ h => .inl h
  | 19, h => by cases h; exact (at2_19 (prog := prog) X T scr sws sns hscr hsns).imp fun _ h => .inl h
  | 20, h => by cases h; exact (at2_20 (prog := prog) X T scr sws sns hscr hsns).imp fun _ h => .inl h
  | 21, h => by cases h; exact (at2_21 (prog := prog) X T scr sws sns hscr hsns).imp fun _ h => .inl h
  | 22, h => by cases h; exact (at2_22 (prog := prog) X T scr sws sns hscr hsns).imp fun _ h => .inl h
  | 23, h => by cases h; exact (at2_23 (prog := prog) X T scr sws sns hscr hsns).imp fun _ h => .inl h
  | 24, h => by cases h; exact (at2_24 (prog := prog) X T scr sws sns hscr hsns).imp fun _ h => .inl h
  | 25, h => by cases h; exact (at2_25 (prog := prog) X T scr sws sns hscr hsns).imp fun _ h => .inl h
  | _ + 26, h => by cases h
theorem nd2 : ∀ cl, ((mkC2 (prog := prog) X T scr sws sns hscr hsns).fld cl).Nodup := fun cl => match cl with
  | 0 => by show (["key_row", "value_row", "children"] : List Str).Nodup; decide +kernel
  | _ + 1 => by show (["t", "root", "size"] : List Str).Nodup; decide +kernel
theorem pgok2 : PgOk (mkC2 (prog := prog) X T scr sws sns hscr hsns) pg2 :=
  ⟨fn2 X T scr sws sns hscr hsns, cl2 X T scr sws sns hscr hsns, new2 X T scr sws sns hscr hsns, ast2 X T scr sws sns hscr hsns, attr2 X T scr sws sns hscr hsns, nd2 X T scr sws sns hscr hsns, mthd2 X T scr sws sns hscr hsns, blt2 X T scr sws sns hscr hsns⟩
end
end Mine

set_option maxHeartbeats 8000000
open PySem PySem.W PySem.Calls PyProof.Rows
theorem PySem.Challenge.cw_pd_canopyofobjects_2_02_holds : PySem.Challenge.rw_pd_canopyofobjects_2_02.Holds := by
  w_on
  refine holds_law (by kernel_rfl) fun said => ?_
  refine holds_open (r := Mine.row2) (q := Mine.view2) (loose := Mine.loose2) (Xt := fun s => xlAt Mine.view2 [] s && recOk (RowW.records (OpenRow.toRowW Mine.row2)) s) (XP := XL Mine.view2 []) (Yf := Hook.obs Mine.H2) (Ya := Hook.val Mine.H2) (YP := Hook.says Mine.H2) (N := 3542) Mine.left2 (Hook.of Mine.H2) (Hook.keeps Mine.H2) (fun s e => xl_of s (Bool.and_eq_true_iff.mp e).1) XL.keeps (by rfl) (by rfl) (by rfl) (fun s e => recFacts_of (Bool.and_eq_true_iff.mp e).2) (by rfl) said (by decide +kernel) ⟨rfl, rfl, rfl, rfl, rfl, by decide +kernel⟩ ?hw ?hc
  case hw => w_witness2
  intro w s₀ s₁ mg mb G Y fa o pm cd doc dV kV ho hd hcd hD hmg hg args vals as hpre hlay hrd hwl hlo
  have KX : (Mine.K2 w.params).In s₁.heap := Y
  refine Ground.open G ?_
  intro T B D TE TW
  wrow_args hpre hlay hrd hwl hlo
  clear hd hcd hD ho
  rename_i ns _ _ _ _ _ _ _ la vs _ hL _ _ _ hI _ hc _
  have fa_eq : fa = 319 := by
    have h1 := mg_of (n := Str.ofString "law") (v := .ref 319) KX (topRead_of T).g rfl
    have h2 : mg (Str.ofString "law") = some (.ref fa) := hmg
    rw [h1] at h2
    cases h2; rfl
  subst fa_eq
  refine enter_call (codeAny_mono ?_ (fun _ _ g => GoodW.toG g))
  obtain ⟨d, hf⟩ := Mine.at2_9 (prog := PySem.Challenge.rw_pd_canopyofobjects_2_02.row.prog) KX (topRead_of T) la vs ns hL hI
  have h3 : ∃ o, s₁.heap.get? 3 = some o := ⟨_, KX _ _ (rfl : (Mine.K2 w.params).lookup 3 = some _)⟩
  obtain ⟨st', L⟩ := Mine.law2 (c := Mine.mkC2 (prog := PySem.Challenge.rw_pd_canopyofobjects_2_02.row.prog) KX (topRead_of T) la vs ns hL hI) (Mine.pgok2 KX (topRead_of T) la vs ns hL hI) (by show ns.length ≤ 63; omega) rfl rfl h3 hf 7
  refine L callerA ⟨[], [], fun _ => False⟩ s₁ [.ref la] _ ⟨rfl, by decide +kernel, by decide +kernel⟩ ?_ (.cons .scr .nil) ?_
  · exact ⟨rfl, rfl, (fun k i a d h => by cases h), List.nodup_nil, List.nodup_nil, (fun d hd => by cases hd), (fun d hd => by cases hd), (fun b hb => False.elim hb), (fun b o e => ⟨e, fun h => h⟩)⟩
  · intro val h' tk' g' G' W' R'
    cases R'
    refine ⟨.inl ⟨.bool true, .bool true, [], rfl, fun cls => ?_, .bool true, ?_, fun _ => ⟨List.nodup_nil, (fun a ha => by cases ha)⟩⟩, fun b o e => G'.keep b o e (by simp), rfl, hg⟩
    · rfl
    · wrow_post
