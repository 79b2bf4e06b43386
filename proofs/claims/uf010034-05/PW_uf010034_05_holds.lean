import PyProof.Rows.All
import Wide.All
import OpenK.AllK
import Wide.FinOn
import PySem.Challenge.RW_uf010034_05
set_option Elab.async false
set_option maxRecDepth 100000
set_option maxHeartbeats 8000000
set_option linter.unusedVariables false
namespace Mine
open PySem PySem.W PyProof.Rows
open_top hd05 for PySem.Challenge.rw_uf010034_05
end Mine

section
set_option autoImplicit false
namespace Mine
open PySem

/-- data -/
abbrev D := PyData

/-- every object stays; a frame's of fr may turn its slots -/
def KF (fr : List Addr) (h h' : Heap) : Prop :=
  ∀ b o, h.get? b = some o → h'.get? b = some o ∨ (b ∈ fr ∧ (∃ es ep, o.data = .dict es ep) ∧ ∃ sl, h'.get? b = some { o with slots := sl })

theorem KF.refl (fr : List Addr) (h : Heap) : KF fr h h := fun _ _ e => .inl e
theorem KF.of_keeps {fr : List Addr} {h h' : Heap} (k : ∀ b o, h.get? b = some o → h'.get? b = some o) : KF fr h h' := fun b o e => .inl (k b o e)
theorem KF.trans {fr : List Addr} {h₁ h₂ h₃ : Heap} (x : KF fr h₁ h₂) (y : KF fr h₂ h₃) : KF fr h₁ h₃ := fun b o e => by
  rcases x b o e with x1 | ⟨hb, ⟨es, ep, hd⟩, sl, x2⟩
  · exact y b o x1
  · rcases y b _ x2 with y1 | ⟨_, _, sl', y2⟩
    · exact .inr ⟨hb, ⟨es, ep, hd⟩, sl, y1⟩
    · exact .inr ⟨hb, ⟨es, ep, hd⟩, sl', y2⟩
theorem KF.mono {fr fr' : List Addr} {h h' : Heap} (x : KF fr h h') (hs : ∀ b ∈ fr, b ∈ fr') : KF fr' h h' := fun b o e =>
  (x b o e).imp id fun ⟨hb, r⟩ => ⟨hs b hb, r⟩
theorem KF.fresh {fr : List Addr} {h h' : Heap} (x : KF fr h h') {a : Addr} (e : h'.get? a = none) : h.get? a = none := by
  cases q : h.get? a with
  | none => rfl
  | some o => rcases x a o q with y | ⟨_, _, sl, y⟩ <;> (rw [e] at y; cases y)
/-- an object's class and data -/
theorem KF.at {fr : List Addr} {h h' : Heap} (x : KF fr h h') {a : Addr} {o : Obj} (e : h.get? a = some o) :
    ∃ o', h'.get? a = some o' ∧ o'.cls = o.cls ∧ o'.data = o.data ∧ o'.dict = o.dict := by
  rcases x a o e with y | ⟨_, _, sl, y⟩
  · exact ⟨o, y, rfl, rfl, rfl⟩
  · exact ⟨_, y, rfl, rfl, rfl⟩
/-- an object that is no dict stays whole -/
theorem KF.whole {fr : List Addr} {h h' : Heap} (x : KF fr h h') {a : Addr} {o : Obj} (e : h.get? a = some o) (hd : ∀ es ep, o.data ≠ .dict es ep) : h'.get? a = some o := by
  rcases x a o e with y | ⟨_, ⟨es, ep, q⟩, _⟩
  · exact y
  · exact absurd q (hd es ep)
theorem KF.stays {fr : List Addr} {base h h' : Heap} (x : KF fr h h') (hb : ∀ b ∈ fr, base.get? b = none) (k : base.StaysIn h) : base.StaysIn h' := fun b o e => by
  rcases x b o (k b o e) with y | ⟨hm, _⟩
  · exact y
  · rw [hb b hm] at e; cases e
theorem KF.ns {fr : List Addr} {h h' : Heap} (x : KF fr h h') {a : Addr} {m : Str → Option Value} (n : h.Ns a m) : h'.Ns a m := by
  obtain ⟨o, es, ep, ho, hd, r⟩ := n
  obtain ⟨o', ho', _, hd', _⟩ := x.at ho
  exact ⟨o', es, ep, ho', hd'.trans hd, r⟩
theorem KF.cell {fr : List Addr} {h h' : Heap} (x : KF fr h h') {a : Addr} {v : Option Value} (n : h.IsCell a v) : h'.IsCell a v := by
  obtain ⟨o, ho, hd⟩ := n
  obtain ⟨o', ho', _, hd', _⟩ := x.at ho
  exact ⟨o', ho', hd'.trans hd⟩

/-- a plain list's object, a plain tuple's -/
abbrev listO (vs : List Value) (n : Nat) : Obj := { cls := .type "list", data := .seq vs.toArray n }
abbrev tupO (vs : List Value) (n : Nat) : Obj := { cls := .type "tuple", data := .seq vs.toArray n }

mutual
/-- v bears d; as: the lists within, in order; nothing within lies in W -/
inductive Rd (W : List Addr) (h : Heap) : Value → D → List Addr → Prop
  | none : Rd W h .none .none []
  | bool (b) : Rd W h (.bool b) (.bool b) []
  | int (i t) : Rd W h (.int i t) (.int i) []
  | str (x t) : PyData.canLay0 (.str x) = true → Rd W h (.str x t) (.str x) []
  | list {a vs n ds as} : a ∉ W → h.get? a = some (listO vs n) → RdAll W h vs ds as → Rd W h (.ref a) (.list ds) (a :: as)
  | tuple {a vs n ds as} : a ∉ W → h.get? a = some (tupO vs n) → RdAll W h vs ds as → Rd W h (.ref a) (.tuple ds) as
inductive RdAll (W : List Addr) (h : Heap) : List Value → List D → List Addr → Prop
  | nil : RdAll W h [] [] []
  | cons {v vs d ds as bs} : Rd W h v d as → RdAll W h vs ds bs → RdAll W h (v :: vs) (d :: ds) (as ++ bs)
end

/-- the sequences off W stay -/
def KS (W : List Addr) (h h' : Heap) : Prop := ∀ b o, b ∉ W → h.get? b = some o → (∃ xs n, o.data = .seq xs n) → h'.get? b = some o
mutual
theorem Rd.ks {W : List Addr} {h h' : Heap} (x : KS W h h') : ∀ {v : Value} {d : D} {as : List Addr}, Rd W h v d as → Rd W h' v d as
  | _, _, _, .none => .none
  | _, _, _, .bool b => .bool b
  | _, _, _, .int i t => .int i t
  | _, _, _, .str s t c => .str s t c
  | _, _, _, .list h0 h1 h2 => .list h0 (x _ _ h0 h1 ⟨_, _, rfl⟩) (RdAll.ks x h2)
  | _, _, _, .tuple h0 h1 h2 => .tuple h0 (x _ _ h0 h1 ⟨_, _, rfl⟩) (RdAll.ks x h2)
theorem RdAll.ks {W : List Addr} {h h' : Heap} (x : KS W h h') : ∀ {vs : List Value} {ds : List D} {as : List Addr}, RdAll W h vs ds as → RdAll W h' vs ds as
  | _, _, _, .nil => .nil
  | _, _, _, .cons h1 h2 => .cons (Rd.ks x h1) (RdAll.ks x h2)
end
theorem KF.ks {fr W : List Addr} {h h' : Heap} (x : KF fr h h') : KS W h h' := fun _ o _ e ⟨xs, n, q⟩ => x.whole e fun es ep q' => by rw [q] at q'; cases q'
theorem Rd.kf {W fr : List Addr} {h h' : Heap} (x : KF fr h h') {v : Value} {d : D} {as : List Addr} (r : Rd W h v d as) : Rd W h' v d as := r.ks x.ks
theorem RdAll.kf {W fr : List Addr} {h h' : Heap} (x : KF fr h h') {vs : List Value} {ds : List D} {as : List Addr} (r : RdAll W h vs ds as) : RdAll W h' vs ds as := r.ks x.ks
mutual
/-- another W, by what each part is known to be -/
theorem Rd.off {W W' : List Addr} {h : Heap} (x : ∀ b o, b ∉ W → h.get? b = some o → (∃ xs n, o.data = .seq xs n) → b ∉ W') : ∀ {v : Value} {d : D} {as : List Addr}, Rd W h v d as → Rd W' h v d as
  | _, _, _, .none => .none
  | _, _, _, .bool b => .bool b
  | _, _, _, .int i t => .int i t
  | _, _, _, .str s t c => .str s t c
  | _, _, _, .list h0 h1 h2 => .list (x _ _ h0 h1 ⟨_, _, rfl⟩) h1 (RdAll.off x h2)
  | _, _, _, .tuple h0 h1 h2 => .tuple (x _ _ h0 h1 ⟨_, _, rfl⟩) h1 (RdAll.off x h2)
theorem RdAll.off {W W' : List Addr} {h : Heap} (x : ∀ b o, b ∉ W → h.get? b = some o → (∃ xs n, o.data = .seq xs n) → b ∉ W') : ∀ {vs : List Value} {ds : List D} {as : List Addr}, RdAll W h vs ds as → RdAll W' h vs ds as
  | _, _, _, .nil => .nil
  | _, _, _, .cons h1 h2 => .cons (Rd.off x h1) (RdAll.off x h2)
end
theorem Rd.sub {W W' : List Addr} {h : Heap} (hs : ∀ a ∈ W', a ∈ W) {v : Value} {d : D} {as : List Addr} (r : Rd W h v d as) : Rd W' h v d as := r.off fun b _ hb _ _ hm => hb (hs b hm)
theorem RdAll.sub {W W' : List Addr} {h : Heap} (hs : ∀ a ∈ W', a ∈ W) {vs : List Value} {ds : List D} {as : List Addr} (r : RdAll W h vs ds as) : RdAll W' h vs ds as := r.off fun b _ hb _ _ hm => hb (hs b hm)
/-- what is not there yet is in no datum -/
theorem Rd.ext {W W' : List Addr} {h : Heap} (hn : ∀ a ∈ W', h.get? a = Option.none) {v : Value} {d : D} {as : List Addr} (r : Rd W h v d as) : Rd (W ++ W') h v d as :=
  r.off fun b o hb e _ hm => (List.mem_append.mp hm).elim hb fun hm => by rw [hn b hm] at e; cases e
theorem RdAll.ext {W W' : List Addr} {h : Heap} (hn : ∀ a ∈ W', h.get? a = none) {vs : List Value} {ds : List D} {as : List Addr} (r : RdAll W h vs ds as) : RdAll (W ++ W') h vs ds as :=
  r.off fun b o hb e _ hm => (List.mem_append.mp hm).elim hb fun hm => by rw [hn b hm] at e; cases e
mutual
theorem Rd.reads {W : List Addr} {h : Heap} : ∀ {v : Value} {d : D} {as : List Addr}, Rd W h v d as → Reads h v d as
  | _, _, _, .none => .none
  | _, _, _, .bool b => .bool b
  | _, _, _, .int i t => .int i t
  | _, _, _, .str s t _ => .str s t
  | _, _, _, .list _ h1 h2 => .list h1 rfl rfl (RdAll.reads h2)
  | _, _, _, .tuple _ h1 h2 => .tuple h1 rfl rfl (RdAll.reads h2)
theorem RdAll.reads {W : List Addr} {h : Heap} : ∀ {vs : List Value} {ds : List D} {as : List Addr}, RdAll W h vs ds as → ReadsAll h vs ds as
  | _, _, _, .nil => .nil
  | _, _, _, .cons h1 h2 => .cons (Rd.reads h1) (RdAll.reads h2)
end
mutual
theorem Rd.lay {W : List Addr} {h : Heap} : ∀ {v : Value} {d : D} {as : List Addr}, Rd W h v d as → d.canLay0 = true
  | _, _, _, .none => rfl
  | _, _, _, .bool _ => rfl
  | _, _, _, .int _ _ => rfl
  | _, _, _, .str _ _ c => c
  | _, _, _, .list _ _ h2 => RdAll.lay h2
  | _, _, _, .tuple _ _ h2 => RdAll.lay h2
theorem RdAll.lay {W : List Addr} {h : Heap} : ∀ {vs : List Value} {ds : List D} {as : List Addr}, RdAll W h vs ds as → PyData.canLayAll0 ds = true
  | _, _, _, .nil => rfl
  | _, _, _, .cons h1 h2 => by rw [PyData.canLayAll0, Rd.lay h1, RdAll.lay h2]; rfl
end
theorem RdAll.length {W : List Addr} {h : Heap} : ∀ {vs : List Value} {ds : List D} {as : List Addr}, RdAll W h vs ds as → vs.length = ds.length
  | _, _, _, .nil => rfl
  | _, _, _, .cons _ h2 => by simp [RdAll.length h2]
theorem RdAll.append {W : List Addr} {h : Heap} : ∀ {vs : List Value} {ds : List D} {as : List Addr}, RdAll W h vs ds as → ∀ {ws : List Value} {es : List D} {bs : List Addr}, RdAll W h ws es bs → RdAll W h (vs ++ ws) (ds ++ es) (as ++ bs)
  | _, _, _, .nil, _, _, _, y => y
  | _, _, _, .cons h1 h2, _, _, _, y => by
    rw [List.cons_append, List.cons_append, List.append_assoc]
    exact .cons h1 (RdAll.append h2 y)
theorem RdAll.get {W : List Addr} {h : Heap} : ∀ {vs : List Value} {ds : List D} {as : List Addr}, RdAll W h vs ds as → ∀ (i : Nat) d, ds[i]? = some d → ∃ v bs, vs[i]? = some v ∧ Rd W h v d bs ∧ ∀ a ∈ bs, a ∈ as
  | _, _, _, .nil, _, _, e => nomatch e
  | _, _, _, .cons (as := as) h1 h2, 0, d, e => by
    cases e; exact ⟨_, _, rfl, h1, fun a ha => List.mem_append_left _ ha⟩
  | _, _, _, .cons h1 h2, i + 1, d, e => by
    obtain ⟨v, bs, q1, q2, q3⟩ := RdAll.get h2 i d e
    exact ⟨v, bs, q1, q2, fun a ha => List.mem_append_right _ (q3 a ha)⟩
theorem RdAll.getv {W : List Addr} {h : Heap} {vs : List Value} {ds : List D} {as : List Addr} (r : RdAll W h vs ds as) (i : Nat) (v : Value) (e : vs[i]? = some v) : ∃ d bs, ds[i]? = some d ∧ Rd W h v d bs ∧ ∀ a ∈ bs, a ∈ as := by
  have hl := r.length
  have hi : i < ds.length := by rw [← hl]; exact (List.getElem?_eq_some_iff.mp e).1
  obtain ⟨v', bs, q1, q2, q3⟩ := r.get i ds[i] (List.getElem?_eq_getElem hi)
  rw [e] at q1; cases q1
  exact ⟨_, bs, List.getElem?_eq_getElem hi, q2, q3⟩
/-- item by item -/
theorem RdAll.of {W : List Addr} {h : Heap} : ∀ {vs : List Value} {ds : List D}, vs.length = ds.length → (∀ (i : Nat) v d, vs[i]? = some v → ds[i]? = some d → ∃ as, Rd W h v d as) → ∃ as, RdAll W h vs ds as
  | [], [], _, _ => ⟨[], .nil⟩
  | v :: vs, d :: ds, hl, hk => by
    obtain ⟨as, q1⟩ := hk 0 v d rfl rfl
    obtain ⟨bs, q3⟩ := RdAll.of (vs := vs) (ds := ds) (by simpa using hl) fun i w e h1 h2 => hk (i + 1) w e h1 h2
    exact ⟨as ++ bs, .cons q1 q3⟩
theorem Rd.int_inv {W : List Addr} {h : Heap} {v : Value} {i : Int} {as : List Addr} (r : Rd W h v (.int i) as) : ∃ t, v = .int i t ∧ as = [] := by cases r; exact ⟨_, rfl, rfl⟩
theorem Rd.bool_inv {W : List Addr} {h : Heap} {v : Value} {b : Bool} {as : List Addr} (r : Rd W h v (.bool b) as) : v = .bool b ∧ as = [] := by cases r; exact ⟨rfl, rfl⟩
theorem Rd.none_inv {W : List Addr} {h : Heap} {v : Value} {as : List Addr} (r : Rd W h v .none as) : v = .none ∧ as = [] := by cases r; exact ⟨rfl, rfl⟩
theorem Rd.str_inv {W : List Addr} {h : Heap} {v : Value} {x : Str} {as : List Addr} (r : Rd W h v (.str x) as) : ∃ t, v = .str x t ∧ as = [] ∧ PyData.canLay0 (.str x) = true := by
  cases r with
  | str _ t c => exact ⟨_, rfl, rfl, c⟩
theorem Rd.list_inv {W : List Addr} {h : Heap} {v : Value} {ds : List D} {as : List Addr} (r : Rd W h v (.list ds) as) :
    ∃ a vs n bs, v = .ref a ∧ as = a :: bs ∧ h.get? a = some (listO vs n) ∧ RdAll W h vs ds bs ∧ a ∉ W := by
  cases r with
  | list h0 h1 h2 => exact ⟨_, _, _, _, rfl, rfl, h1, h2, h0⟩
theorem Rd.tuple_inv {W : List Addr} {h : Heap} {v : Value} {ds : List D} {as : List Addr} (r : Rd W h v (.tuple ds) as) :
    ∃ a vs n, v = .ref a ∧ h.get? a = some (tupO vs n) ∧ RdAll W h vs ds as ∧ a ∉ W := by
  cases r with
  | tuple h0 h1 h2 => exact ⟨_, _, _, rfl, h1, h2, h0⟩
mutual
theorem Rd.there {W : List Addr} {h : Heap} : ∀ {v : Value} {d : D} {as : List Addr}, Rd W h v d as → ∀ a ∈ as, a ∉ W ∧ ∃ vs n, h.get? a = some (listO vs n)
  | _, _, _, .none, _, m => nomatch m
  | _, _, _, .bool _, _, m => nomatch m
  | _, _, _, .int _ _, _, m => nomatch m
  | _, _, _, .str _ _ _, _, m => nomatch m
  | _, _, _, .list h0 h1 _, _, .head _ => ⟨h0, _, _, h1⟩
  | _, _, _, .list _ _ h2, _, .tail _ m => RdAll.there h2 _ m
  | _, _, _, .tuple _ _ h2, _, m => RdAll.there h2 _ m
theorem RdAll.there {W : List Addr} {h : Heap} : ∀ {vs : List Value} {ds : List D} {as : List Addr}, RdAll W h vs ds as → ∀ a ∈ as, a ∉ W ∧ ∃ vs n, h.get? a = some (listO vs n)
  | _, _, _, .nil, _, m => nomatch m
  | _, _, _, .cons h1 h2, _, m => (List.mem_append.mp m).elim (Rd.there h1 _) (RdAll.there h2 _)
end

/-- one step further: the heap has more, the frames' slots may have turned -/
structure Step (fr : List Addr) (s s' : Shared) : Prop where
  same : ∃ h' tk, s' = { s with heap := h', toks := tk }
  kf : KF fr s.heap s'.heap

theorem Step.refl (fr : List Addr) (s : Shared) : Step fr s s := ⟨⟨_, _, rfl⟩, .refl _ _⟩
theorem Step.trans {fr : List Addr} {s₁ s₂ s₃ : Shared} (x : Step fr s₁ s₂) (y : Step fr s₂ s₃) : Step fr s₁ s₃ := by
  obtain ⟨⟨h', tk, rfl⟩, k⟩ := x
  obtain ⟨⟨h'', tk', rfl⟩, k'⟩ := y
  exact ⟨⟨h'', tk', rfl⟩, k.trans k'⟩
theorem Step.toks {fr : List Addr} {s s' : Shared} (x : Step fr s s') (t : Nat) : Step fr s { s' with toks := t } := by
  obtain ⟨⟨h', tk, rfl⟩, k⟩ := x
  exact ⟨⟨h', t, rfl⟩, k⟩
theorem Step.of_keeps {fr : List Addr} {s : Shared} {h' : Heap} {tk : Nat} (k : ∀ b o, s.heap.get? b = some o → h'.get? b = some o) : Step fr s { s with heap := h', toks := tk } :=
  ⟨⟨_, _, rfl⟩, .of_keeps k⟩

/-- the text's own part -/
structure Gx where
  prog : Program
  w : World
  base : Heap
  mg : Str → Option Value
abbrev Gx.M (G : Gx) : Model := model G.prog G.w

/-- where a block runs -/
structure Fm where
  G : Gx
  A : Around
  env : Env
  /-- the frames of the stack, this one first -/
  envs : List Env
  s0 : Shared
  room : Nat
  sc : Scope
  /-- the block's own names that stand in cells -/
  own : List Str

def Fm.fr (K : Fm) : List Addr := K.envs.filterMap (·.frame)
abbrev Fm.M (K : Fm) : Model := K.G.M

/-- a name of the block holds a value -/
def Holds (env : Env) (h : Heap) (x : Str) (v : Value) : Prop :=
  (env.kindOf x = some .local ∧ ∃ m, h.Ns env.locals m ∧ m x = some v) ∨
  ((env.kindOf x = some .cell ∨ env.kindOf x = some .free) ∧ ∃ c, env.cells.lookup x = some c ∧ h.IsCell c (some v))

theorem KF.holds {fr : List Addr} {h h' : Heap} (x : KF fr h h') {env : Env} {y : Str} {v : Value} (r : Holds env h y v) : Holds env h' y v := by
  rcases r with ⟨k, m, n, e⟩ | ⟨k, c, e, n⟩
  · exact .inl ⟨k, m, x.ns n, e⟩
  · exact .inr ⟨k, c, e, x.cell n⟩

/-- the built-in names in use: no text of ours binds them -/
def bnames : List Str := ["len", "range", "isinstance", "all", "sum", "min", "max", "abs", "tuple", "list", "int", "str", "bool", "enumerate", "zip", "sorted", "ValueError"]
/-- what is known of the text's own part -/
structure Gx.Ok (G : Gx) : Prop where
  g : G.base.Ns mainGlobals G.mg
  b : ∃ mb, G.base.Ns builtinsNs mb ∧ ∀ x : Str, x ≠ "__name__" → mb x = bootBuiltins x
  nolimit : G.base.NoLimit
  nodigits : ∃ mc, G.base.Ns cStatics mc ∧ mc "sys.int_max_str_digits" = none
  miss : ∀ x ∈ bnames, G.mg x = none

structure Fm.Ok (K : Fm) : Prop where
  scope : K.env.scope = K.sc
  kind : K.sc.kind = .function
  globals : K.env.globals = mainGlobals
  builtins : K.env.builtins = builtinsNs
  frames : K.A.frames = some K.envs
  apart : K.env.cells.Pairwise fun x y => x.2 ≠ y.2
  base0 : K.G.base.StaysIn K.s0.heap
  locnew : K.s0.heap.get? K.env.locals = none
  ownnew : ∀ x ∈ K.own, K.sc.names.lookup x = some .cell ∧ ∃ c, K.env.cells.lookup x = some c ∧ K.s0.heap.get? c = none
  hascell : ∀ x, K.sc.names.lookup x = some .cell → ∃ c, K.env.cells.lookup x = some c
  gl : K.G.Ok
  depth : K.A.depth + K.room ≤ 800
  units : K.A.units + 16 * K.room ≤ 9000

theorem Fm.Ok.kindE {K : Fm} (k : K.Ok) : K.env.scope.kind = .function := by rw [k.scope]; exact k.kind
theorem Fm.Ok.kindOf {K : Fm} (k : K.Ok) {x : Str} {q : Option NameKind} (h : K.sc.names.lookup x = q) : K.env.kindOf x = q := by unfold Env.kindOf; rw [k.scope]; exact h
/-- no name of the machine's own -/
def plainName (x : Str) : Bool := !(x == ("__classdict__" : Str)) && !(x == ("__debug__" : Str))

/-- the block's names bear rho; nothing within lies in W -/
structure Rel (K : Fm) (rho : List (Str × Option D)) (W : List Addr) (s : Shared) : Prop where
  ok : K.Ok
  off : ∀ a ∈ W, ∃ o, s.heap.get? a = some o
  same : ∃ h' tk, s = { K.s0 with heap := h', toks := tk }
  stays : K.G.base.StaysIn s.heap
  kept : KF K.fr K.s0.heap s.heap
  frames : s.heap.FunFrames K.G.base K.envs
  fdict : ∀ b ∈ K.fr, ∃ m, s.heap.Ns b m
  loc : ∃ m, s.heap.Ns K.env.locals m
  cells : ∀ x c, K.env.cells.lookup x = some c → ∃ v, s.heap.IsCell c v
  nodup : (rho.map (·.1)).Nodup
  plain : ∀ x ∈ rho.map (·.1), plainName x = true
  vars : ∀ x d, (x, some d) ∈ rho → ∃ v as, Holds K.env s.heap x v ∧ Rd W s.heap v d as

theorem Rel.fresh_fr {K : Fm} {rho : List (Str × Option D)} {W : List Addr} {s : Shared} (r : Rel K rho W s) : ∀ b ∈ K.fr, K.G.base.get? b = none := fun _ hb => (r.frames.mem hb).1

theorem Rel.step {K : Fm} {rho : List (Str × Option D)} {W : List Addr} {s s' : Shared} (r : Rel K rho W s) (st : Step K.fr s s') : Rel K rho W s' where
  ok := r.ok
  off := fun a ha => let ⟨o, e⟩ := r.off a ha; let ⟨o', e', _⟩ := st.kf.at e; ⟨o', e'⟩
  same := by
    obtain ⟨h, tk, e⟩ := r.same
    obtain ⟨h', tk', e'⟩ := st.same
    exact ⟨h', tk', by rw [e', e]⟩
  stays := st.kf.stays r.fresh_fr r.stays
  kept := r.kept.trans st.kf
  frames := r.frames.of_keeps fun b o e _ => let ⟨o', e1, _, e3, _⟩ := st.kf.at e; ⟨o', e1, e3⟩
  fdict := fun b hb => let ⟨m, n⟩ := r.fdict b hb; ⟨m, st.kf.ns n⟩
  loc := let ⟨m, n⟩ := r.loc; ⟨m, st.kf.ns n⟩
  cells := fun x c e => let ⟨v, n⟩ := r.cells x c e; ⟨v, st.kf.cell n⟩
  nodup := r.nodup
  plain := r.plain
  vars := fun x d h1 => let ⟨v, as, q1, q2⟩ := r.vars x d h1; ⟨v, as, st.kf.holds q1, q2.kf st.kf⟩

/-- what an expression hands on -/
def Got (K : Fm) (W : List Addr) (s : Shared) (d : D) (fr : Bool) (v : Value) (s' : Shared) : Prop :=
  Step K.fr s s' ∧ ∃ as, Rd W s'.heap v d as ∧ (fr = true → as.Nodup ∧ ∀ a ∈ as, s.heap.get? a = none)

/-- the expression ends in d; fr: all its lists are new and none stands twice -/
def EV (K : Fm) (rho : List (Str × Option D)) (e : Expr) (d : D) (fr : Bool) : Prop :=
  ∀ W s, Rel K rho W s → ∀ E, wpAny K.M K.A (eval e K.env) (Got K W s d fr) E s

/-- the test ends in b -/
def TS (K : Fm) (rho : List (Str × Option D)) (e : Expr) (b : Bool) : Prop :=
  ∀ W s, Rel K rho W s → ∀ E, wpAny K.M K.A (isTrue e K.env (eval e K.env)) (fun b' s' => Step K.fr s s' ∧ b' = b) E s

/-- a datum that holds no list -/
inductive Flat : D → Prop
  | none : Flat .none
  | bool (b) : Flat (.bool b)
  | int (i) : Flat (.int i)
  | str (x) : Flat (.str x)
  | tuple {ds} : (∀ d ∈ ds, Flat d) → Flat (.tuple ds)

mutual
theorem Flat.rd {W : List Addr} {h : Heap} : ∀ {v : Value} {d : D} {as : List Addr}, Rd W h v d as → Flat d → as = []
  | _, _, _, .none, _ => rfl
  | _, _, _, .bool _, _ => rfl
  | _, _, _, .int _ _, _ => rfl
  | _, _, _, .str _ _ _, _ => rfl
  | _, _, _, .tuple _ _ h4, f => by cases f with | tuple hf => exact Flat.rdAll h4 hf
  | _, _, _, .list _ _ _, f => nomatch f
theorem Flat.rdAll {W : List Addr} {h : Heap} : ∀ {vs : List Value} {ds : List D} {as : List Addr}, RdAll W h vs ds as → (∀ d ∈ ds, Flat d) → as = []
  | _, _, _, .nil, _ => rfl
  | _, _, _, .cons h1 h2, f => by
    rw [Flat.rd h1 (f _ (.head _)), Flat.rdAll h2 fun d hd => f d (.tail _ hd)]; rfl
end
theorem Got.flat {K : Fm} {W : List Addr} {s s' : Shared} {d : D} {v : Value} (st : Step K.fr s s') (r : Rd W s'.heap v d []) (fr : Bool) : Got K W s d fr v s' :=
  ⟨st, [], r, fun _ => ⟨.nil, fun _ h => (nomatch h)⟩⟩
theorem Got.intro_int {K : Fm} {W : List Addr} {s s' : Shared} {i : Int} {t : Tok} (st : Step K.fr s s') (fr : Bool) : Got K W s (.int i) fr (.int i t) s' := .flat st (.int i t) fr
theorem Got.intro_bool {K : Fm} {W : List Addr} {s s' : Shared} {b : Bool} (st : Step K.fr s s') (fr : Bool) : Got K W s (.bool b) fr (.bool b) s' := .flat st (.bool b) fr
/-- a flat datum is as good as new -/
theorem Got.up {K : Fm} {W : List Addr} {s s' : Shared} {d : D} {v : Value} {f f' : Bool} (g : Got K W s d f v s') (fl : Flat d) : Got K W s d f' v s' := by
  obtain ⟨st, as, r, _⟩ := g
  obtain rfl := Flat.rd r fl
  exact .flat st r f'
theorem EV.up {K : Fm} {rho : List (Str × Option D)} {e : Expr} {d : D} {f f' : Bool} (x : EV K rho e d f) (fl : Flat d) : EV K rho e d f' := fun W s r E => wpAny_mono (x W s r E) (fun _ _ g => g.up fl) fun _ _ q => q
theorem Got.weak {K : Fm} {W : List Addr} {s s' : Shared} {d : D} {v : Value} {f : Bool} (g : Got K W s d f v s') : Got K W s d false v s' :=
  let ⟨st, as, r, _⟩ := g; ⟨st, as, r, fun e => nomatch e⟩
theorem EV.weak {K : Fm} {rho : List (Str × Option D)} {e : Expr} {d : D} {f : Bool} (x : EV K rho e d f) : EV K rho e d false := fun W s r E => wpAny_mono (x W s r E) (fun _ _ g => g.weak) fun _ _ q => q

/-- the rest goes on behind an expression -/
theorem EV.bind {K : Fm} {rho : List (Str × Option D)} {e : Expr} {d : D} {f : Bool} (x : EV K rho e d f) {W : List Addr} {s : Shared} (r : Rel K rho W s) {E : Value → Shared → Prop} {Q : Value → Shared → Prop}
    (k : ∀ v s', Rel K rho W s' → Got K W s d f v s' → Q v s') : wpAny K.M K.A (eval e K.env) Q E s :=
  wpAny_mono (x W s r E) (fun v s' g => k v s' (r.step g.1) g) fun _ _ q => q

theorem ev_int {K : Fm} {rho : List (Str × Option D)} {i : Int} {k : Nat} {pos : Pos} : EV K rho (.Constant (.int i) k pos) (.int i) true := fun _ s _ _ =>
  wpAny_Constant_int (.intro_int ((Step.refl _ s).toks _) _)
theorem ev_none {K : Fm} {rho : List (Str × Option D)} {k : Nat} {pos : Pos} : EV K rho (.Constant .none k pos) .none true := fun _ s _ _ =>
  wpAny_Constant_none (.flat (Step.refl _ s) .none _)
theorem ev_bool {K : Fm} {rho : List (Str × Option D)} {b : Bool} {k : Nat} {pos : Pos} : EV K rho (.Constant (.bool b) k pos) (.bool b) true := fun _ s _ _ =>
  wpAny_Constant_bool (.flat (Step.refl _ s) (.bool b) _)
theorem ev_str {K : Fm} {rho : List (Str × Option D)} {x : Str} {k : Nat} {pos : Pos} (hx : PyData.canLay0 (.str x) = true) : EV K rho (.Constant (.str x) k pos) (.str x) true := fun _ s _ _ =>
  wpAny_Constant_str (.flat ((Step.refl _ s).toks _) (.str x _ hx) _)

theorem load_holds {M : Model} {A : Around} {env : Env} {s : Shared} {x : Str} {v : Value} {Q : Value → Shared → Prop} {E : Value → Shared → Prop} (hk : env.scope.kind = .function) (h : Holds env s.heap x v) (q : Q v s)
    (hn : (x == ("__classdict__" : Str)) = false) : wpAny M A (loadName env x) Q E s := by
  rcases h with ⟨k, m, n, e⟩ | ⟨k | k, c, e, n⟩
  · exact wpAny_loadName_local hk k n e q
  · exact wpAny_loadName_cell hk k e n q
  · exact wpAny_loadName_free hk k e n q hn

theorem ev_name {K : Fm} {rho : List (Str × Option D)} {x : Str} {d : D} {pos : Pos} (a : (x, some d) ∈ rho) : EV K rho (.Name x pos) d false := fun W s r E => by
  obtain ⟨v, as, q1, q2⟩ := r.vars x d a
  have hn := r.plain x (List.mem_map.mpr ⟨_, a, rfl⟩)
  simp only [plainName, Bool.and_eq_true, Bool.not_eq_true'] at hn
  exact wpAny_Name (load_holds r.ok.kindE q1 ⟨.refl _ _, as, q2, fun e => nomatch e⟩ hn.1) hn.2

section
variable {K : Fm} {rho : List (Str × Option D)} {l r : Expr} {pos : Pos} {a b : Int} {f g : Bool}
theorem ev_bin {op : Operator} {d1 d2 d : D} {f1 f2 f : Bool} (h1 : EV K rho l d1 f1) (h2 : EV K rho r d2 f2)
    (h : ∀ W s s2 v1 v2 E, Rel K rho W s → Rel K rho W s2 → Got K W s d1 f1 v1 s2 → Got K W s d2 f2 v2 s2 → wpAny K.M K.A (binaryOp op v1 v2) (Got K W s d f) E s2) : EV K rho (.BinOp l op r pos) d f := fun W s R E =>
  wpAny_BinOp (h1.bind R fun v1 s1 R1 g1 => h2.bind R1 fun v2 s2 R2 g2 => by
    refine h W s s2 v1 v2 E R R2 ?_ ?_
    · obtain ⟨st, as, q1, q3⟩ := g1
      exact ⟨st.trans g2.1, as, q1.kf g2.1.kf, q3⟩
    · obtain ⟨st, as, q1, q3⟩ := g2
      exact ⟨g1.1.trans st, as, q1, fun e => ⟨(q3 e).1, fun a ha => g1.1.kf.fresh ((q3 e).2 a ha)⟩⟩)

/-- two ints and an operator's rule -/
theorem ev_bin_int {op : Operator} {c : Int} (h1 : EV K rho l (.int a) f) (h2 : EV K rho r (.int b) g)
    (h : ∀ (W : List Addr) (s : Shared) t u E Q, Rel K rho W s → Q (.int c s.toks) { s with toks := s.toks + 1 } → wpAny K.M K.A (binaryOp op (.int a t) (.int b u)) Q E s) : EV K rho (.BinOp l op r pos) (.int c) true :=
  ev_bin h1 h2 fun W s s2 v1 v2 E R R2 g1 g2 => by
    obtain ⟨_, _, q1, _⟩ := g1
    obtain ⟨st, _, q2, _⟩ := g2
    obtain ⟨t, rfl, _⟩ := q1.int_inv
    obtain ⟨u, rfl, _⟩ := q2.int_inv
    exact h W s2 t u E _ R2 (.intro_int (st.toks _) _)
theorem ev_add (h1 : EV K rho l (.int a) f) (h2 : EV K rho r (.int b) g) : EV K rho (.BinOp l .Add r pos) (.int (a + b)) true :=
  ev_bin_int h1 h2 fun _ _ _ _ _ _ _ q => PySem.P.add_int q
theorem ev_sub (h1 : EV K rho l (.int a) f) (h2 : EV K rho r (.int b) g) : EV K rho (.BinOp l .Sub r pos) (.int (a - b)) true :=
  ev_bin_int h1 h2 fun _ _ _ _ _ _ _ q => PySem.P.sub_int q
theorem ev_mul (h1 : EV K rho l (.int a) f) (h2 : EV K rho r (.int b) g) (hm : IntMulOk a b) : EV K rho (.BinOp l .Mult r pos) (.int (a * b)) true :=
  ev_bin_int h1 h2 fun _ _ _ _ _ _ _ q => PySem.P.mul_int q hm
theorem ev_mod (h1 : EV K rho l (.int a) f) (h2 : EV K rho r (.int b) g) (hb : b ≠ 0) : EV K rho (.BinOp l .Mod r pos) (.int (a.fmod b)) true :=
  ev_bin_int h1 h2 fun _ _ _ _ _ _ _ q => PyProof.Rows.mod_int' hb q
theorem ev_floordiv (h1 : EV K rho l (.int a) f) (h2 : EV K rho r (.int b) g) (hb : b ≠ 0) (hs : b.natAbs.log2 < 9000) : EV K rho (.BinOp l .FloorDiv r pos) (.int (a.fdiv b)) true :=
  ev_bin_int h1 h2 fun _ _ _ _ _ _ _ q => PyProof.Rows.floordiv_int hb q (.inl (PyProof.noPylong_of_log2 hs))
theorem ev_pow (h1 : EV K rho l (.int a) f) (h2 : EV K rho r (.int b) g) (hn : 0 ≤ b) (hn2 : b ≤ 1000000) (ha : a.natAbs < 2 ^ 64) : EV K rho (.BinOp l .Pow r pos) (.int (a ^ b.toNat)) true :=
  ev_bin_int h1 h2 fun _ _ _ _ _ _ _ q => PyProof.Rows.pow_int_small hn hn2 ha q
theorem ev_neg (h1 : EV K rho l (.int a) f) : EV K rho (.UnaryOp .USub l pos) (.int (-a)) true := fun W s R E =>
  wpAny_UnaryOp (h1.bind R fun v s1 R1 g1 => by
    obtain ⟨st, _, q1, _⟩ := g1
    obtain ⟨t, rfl, _⟩ := q1.int_inv
    exact PySem.P.neg_int (.intro_int (st.toks _) _))
end

/-! comparisons -/
/-- a comparison of two data ends in b -/
def CMP (K : Fm) (op : CmpOp) (d1 d2 : D) (b : Bool) : Prop :=
  ∀ W s v1 v2 as bs Q E, K.Ok → Rd W s.heap v1 d1 as → Rd W s.heap v2 d2 bs → (∀ t, Q (.bool b) { s with toks := t }) → wpAny K.M K.A (compareOp op v1 v2) Q E s

theorem cmp_int {K : Fm} {op : CmpOp} {a b : Int} {c : Bool} (h : ∀ s t u Q E, Q (.bool c) s → wpAny K.M K.A (compareOp op (.int a t) (.int b u)) Q E s) : CMP K op (.int a) (.int b) c := fun W s v1 v2 as bs Q E _ r1 r2 q => by
  obtain ⟨t, rfl, _⟩ := r1.int_inv
  obtain ⟨u, rfl, _⟩ := r2.int_inv
  exact h s t u Q E (q s.toks)
theorem cmp_lt {K : Fm} {a b : Int} : CMP K .Lt (.int a) (.int b) (decide (a < b)) := cmp_int fun _ _ _ _ _ q => PySem.P.lt_int q
theorem cmp_le {K : Fm} {a b : Int} : CMP K .LtE (.int a) (.int b) (decide (a ≤ b)) := cmp_int fun _ _ _ _ _ q => PySem.P.le_int q
theorem cmp_gt {K : Fm} {a b : Int} : CMP K .Gt (.int a) (.int b) (decide (a > b)) := cmp_int fun _ _ _ _ _ q => PySem.P.gt_int q
theorem cmp_ge {K : Fm} {a b : Int} : CMP K .GtE (.int a) (.int b) (decide (a ≥ b)) := cmp_int fun _ _ _ _ _ q => PySem.P.ge_int q
theorem cmp_eq_int {K : Fm} {a b : Int} : CMP K .Eq (.int a) (.int b) (a == b) := cmp_int fun _ _ _ _ _ q => PySem.P.eq_int q
theorem cmp_ne_int {K : Fm} {a b : Int} : CMP K .NotEq (.int a) (.int b) (a != b) := cmp_int fun _ _ _ _ _ q => PySem.P.ne_int q
theorem units_line {K : Fm} (k : K.Ok) {n : Nat} (h : n ≤ 64) : K.A.units + n < cLine := by
  have := k.units
  have e : cLine = 9900 := rfl
  omega
theorem cmp_eq {K : Fm} {d1 d2 : D} (hd : d1.depth ≤ 64) : CMP K .Eq d1 d2 (PyData.eqv d1 d2) := fun W s v1 v2 as bs Q E k r1 r2 q =>
  SeqAt.eqOverData K.G.prog K.G.w K.A E s v1 v2 d1 d2 as bs Q r1.reads r2.reads r1.lay r2.lay (Nat.lt_of_le_of_lt (Nat.add_le_add_left (Nat.min_le_left _ _) _) (units_line k hd)) (q s.toks)
theorem cmp_ne {K : Fm} {d1 d2 : D} (hd : d1.depth ≤ 64) : CMP K .NotEq d1 d2 (!PyData.eqv d1 d2) := fun W s v1 v2 as bs Q E k r1 r2 q =>
  SeqAt.neOverData K.G.prog K.G.w K.A E s v1 v2 d1 d2 as bs Q r1.reads r2.reads r1.lay r2.lay (Nat.lt_of_le_of_lt (Nat.add_le_add_left (Nat.min_le_left _ _) _) (units_line k hd)) (q s.toks)
def isNone : D → Bool
  | .none => true
  | _ => false
theorem isNone_rd {W : List Addr} {h : Heap} {v : Value} {d : D} {as : List Addr} (r : Rd W h v d as) : (v == .none) = isNone d := by cases r <;> rfl
theorem cmp_is_none {K : Fm} {d : D} : CMP K .Is d .none (isNone d) := fun W s v1 v2 as bs Q E _ r1 r2 q => by
  obtain ⟨rfl, _⟩ := r2.none_inv
  exact is_none (by rw [isNone_rd r1]; exact q s.toks)
theorem cmp_isnot_none {K : Fm} {d : D} : CMP K .IsNot d .none (!isNone d) := fun W s v1 v2 as bs Q E _ r1 r2 q => by
  obtain ⟨rfl, _⟩ := r2.none_inv
  exact isNot_none (by rw [isNone_rd r1]; exact q s.toks)
theorem cmp_in_list {K : Fm} {xs : List D} {d : D} (hd : d.depth ≤ 60) : CMP K .In d (.list xs) (xs.any fun y => PyData.eqv y d) := fun W s v1 v2 as bs Q E k r1 r2 q =>
  SeqAt.in_list_reads r2.reads r1.reads r2.lay r1.lay (by have := units_line k (n := 1 + d.depth) (by omega); have h2 : min (PyData.depthAll xs) d.depth ≤ d.depth := Nat.min_le_right _ _; omega) (q s.toks)
theorem cmp_notin_list {K : Fm} {xs : List D} {d : D} (hd : d.depth ≤ 60) : CMP K .NotIn d (.list xs) (!xs.any fun y => PyData.eqv y d) := fun W s v1 v2 as bs Q E k r1 r2 q =>
  SeqAt.notIn_list_reads r2.reads r1.reads r2.lay r1.lay (by have := units_line k (n := 1 + d.depth) (by omega); have h2 : min (PyData.depthAll xs) d.depth ≤ d.depth := Nat.min_le_right _ _; omega) (q s.toks)

section
variable {K : Fm} {rho : List (Str × Option D)} {l r : Expr} {pos : Pos} {d1 d2 d3 : D} {f g f3 : Bool} {op op2 : CmpOp} {b b2 : Bool}
theorem ev_cmp (h1 : EV K rho l d1 f) (h2 : EV K rho r d2 g) (c : CMP K op d1 d2 b) (hm : behindInMarks op r = false) : EV K rho (.Compare l [op] [r] pos) (.bool b) true := fun W s R E =>
  wpAny_Compare1 (h1.bind R fun v1 s1 R1 g1 => h2.bind R1 fun v2 s2 R2 g2 => by
    obtain ⟨st, _, q1, _⟩ := g1
    obtain ⟨st2, _, q2, _⟩ := g2
    exact c W s2 v1 v2 _ _ _ E R.ok (q1.kf st2.kf) q2 fun t => .intro_bool ((st.trans st2).toks t) _) hm
theorem ts_cmp (h1 : EV K rho l d1 f) (h2 : EV K rho r d2 g) (c : CMP K op d1 d2 b) (hm : behindInMarks op r = false) : TS K rho (.Compare l [op] [r] pos) b := fun W s R E =>
  wpAny_isTrue_Compare1 (h1.bind R fun v1 s1 R1 g1 => h2.bind R1 fun v2 s2 R2 g2 => by
    obtain ⟨st, _, q1, _⟩ := g1
    obtain ⟨st2, _, q2, _⟩ := g2
    exact c W s2 v1 v2 _ _ _ E R.ok (q1.kf st2.kf) q2 fun t => wpAny_truthy_bool ⟨(st.trans st2).toks t, rfl⟩) hm
theorem ts_not {e : Expr} (h : TS K rho e b) : TS K rho (.UnaryOp .Not e pos) (!b) := fun W s R E =>
  wpAny_isTrue_Not (wpAny_mono (h W s R E) (fun b' s' q => ⟨q.1, by rw [q.2]⟩) fun _ _ q => q)
/-- a value that is a bool -/
theorem ts_val {e : Expr} (h : EV K rho e (.bool b) f) (he : ∀ whole, isTrue e K.env whole = (do let v ← whole; standAt e.pos; holding [v] (truthy v))) : TS K rho e b := fun W s R E =>
  wpAny_isTrue_value (h.bind R fun v s1 R1 g => by
    obtain ⟨st, _, q, _⟩ := g
    obtain ⟨rfl, _⟩ := q.bool_inv
    exact wpAny_truthy_bool ⟨st, rfl⟩) (he _)
end

/-- all of some tests -/
def TSA (K : Fm) (rho : List (Str × Option D)) (es : List Expr) (b : Bool) : Prop :=
  ∀ W s, Rel K rho W s → ∀ E, wpAny K.M K.A (allTrue .And es K.env) (fun b' s' => Step K.fr s s' ∧ b' = b) E s
def TSO (K : Fm) (rho : List (Str × Option D)) (es : List Expr) (b : Bool) : Prop :=
  ∀ W s, Rel K rho W s → ∀ E, wpAny K.M K.A (allTrue .Or es K.env) (fun b' s' => Step K.fr s s' ∧ b' = b) E s
section
variable {K : Fm} {rho : List (Str × Option D)} {pos : Pos} {e : Expr} {es : List Expr} {b c : Bool}
theorem tsa_nil : TSA K rho [] true := fun _ s _ _ => wpAny_allTrue_And_nil ⟨.refl _ s, rfl⟩
theorem tso_nil : TSO K rho [] false := fun _ s _ _ => wpAny_allTrue_Or_nil ⟨.refl _ s, rfl⟩
theorem tsa_cons (h : TS K rho e b) (k : b = true → TSA K rho es c) : TSA K rho (e :: es) (b && c) := fun W s R E =>
  wpAny_allTrue_And_cons (wpAny_mono (h W s R E) (fun b' s' q => by
    obtain ⟨st, rfl⟩ := q
    cases b' with
    | false => exact ⟨st, rfl⟩
    | true => exact wpAny_mono (k rfl W s' (R.step st) E) (fun c' s2 q2 => ⟨st.trans q2.1, q2.2⟩) fun _ _ x => x) fun _ _ x => x)
theorem tso_cons (h : TS K rho e b) (k : b = false → TSO K rho es c) : TSO K rho (e :: es) (b || c) := fun W s R E =>
  wpAny_allTrue_Or_cons (wpAny_mono (h W s R E) (fun b' s' q => by
    obtain ⟨st, rfl⟩ := q
    cases b' with
    | true => exact ⟨st, rfl⟩
    | false => exact wpAny_mono (k rfl W s' (R.step st) E) (fun c' s2 q2 => ⟨st.trans q2.1, q2.2⟩) fun _ _ x => x) fun _ _ x => x)
theorem ts_and (h : TSA K rho es b) : TS K rho (.BoolOp .And es pos) b := fun W s R E => wpAny_isTrue_BoolOp (h W s R E)
theorem ts_or (h : TSO K rho es b) : TS K rho (.BoolOp .Or es pos) b := fun W s R E => wpAny_isTrue_BoolOp (h W s R E)
end
end Mine
end

section
set_option autoImplicit false
namespace Mine
open PySem

/-! chains of two comparisons -/
section
variable {K : Fm} {rho : List (Str × Option D)} {l r r2 : Expr} {pos : Pos} {d1 d2 d3 : D} {f g f3 : Bool} {op op2 : CmpOp} {b b2 : Bool}

theorem marks2 {op op2 : CmpOp} {e1 e2 : Expr} {t1 t2 : Sem Value} (hm : behindInMarks op2 e2 = false) : markedEach [op, op2] [e1, e2] [t1, t2] = [t1, t2] := by
  show [t1, markedBehindIn op2 e2 t2] = _
  rw [markedBehindIn_of_false hm]

theorem ts_cmp2 (h1 : EV K rho l d1 f) (h2 : EV K rho r d2 g) (h3 : b = true → EV K rho r2 d3 f3) (c : CMP K op d1 d2 b) (c2 : b = true → CMP K op2 d2 d3 b2) (hm : behindInMarks op2 r2 = false) :
    TS K rho (.Compare l [op, op2] [r, r2] pos) (b && b2) := fun W s R E => by
  rw [arm_isTrue_Compare]
  refine wpAny_bind (h1.bind R fun v1 s1 R1 g1 => ?_)
  show wpAny K.M K.A (testChain pos v1 [op, op2] (markedEach [op, op2] [r, r2] [eval r K.env, eval r2 K.env])) _ E s1
  rw [marks2 hm]
  unfold testChain
  refine wpAny_bind (wpAny_holding (h2.bind R1 fun v2 s2 R2 g2 => wpAny_bind (wpAny_standAt (wpAny_bind (wpAny_holding ?_)))))
  obtain ⟨st, _, q1, _⟩ := g1
  obtain ⟨st2, _, q2, _⟩ := g2
  refine c W s2 v1 v2 _ _ _ E R.ok (q1.kf st2.kf) q2 fun t => ?_
  refine wpAny_bind (wpAny_release (wpAny_bind (wpAny_holding (wpAny_truthy_bool ?_))))
  cases b with
  | false => exact wpAny_pure ⟨(st.trans st2).toks t, rfl⟩
  | true =>
    have R2' : Rel K rho W { s2 with toks := t } := R2.step ((Step.refl _ s2).toks t)
    show wpAny K.M K.A (testChain pos v2 [op2] [eval r2 K.env]) _ E _
    unfold testChain
    refine wpAny_bind (wpAny_holding ((h3 rfl).bind R2' fun v3 s3 R3 g3 => wpAny_bind (wpAny_standAt (wpAny_bind ?_))))
    obtain ⟨st3, _, q3, _⟩ := g3
    refine wpAny_operating (c2 rfl W s3 v2 v3 _ _ _ E R.ok (q2.kf st3.kf) q3 fun t' => wpAny_holding (wpAny_truthy_bool ⟨?_, rfl⟩))
    exact ((st.trans st2).trans (((Step.refl _ s2).toks t).trans st3)).toks t'

theorem ev_cmp2 (h1 : EV K rho l d1 f) (h2 : EV K rho r d2 g) (h3 : b = true → EV K rho r2 d3 f3) (c : CMP K op d1 d2 b) (c2 : b = true → CMP K op2 d2 d3 b2) (hm : behindInMarks op2 r2 = false) :
    EV K rho (.Compare l [op, op2] [r, r2] pos) (.bool (b && b2)) true := fun W s R E => by
  rw [arm_eval_Compare]
  refine wpAny_bind (h1.bind R fun v1 s1 R1 g1 => ?_)
  show wpAny K.M K.A (compareChain pos v1 [op, op2] (markedEach [op, op2] [r, r2] [eval r K.env, eval r2 K.env])) _ E s1
  rw [marks2 hm]
  unfold compareChain
  refine wpAny_bind (wpAny_holding (h2.bind R1 fun v2 s2 R2 g2 => wpAny_bind (wpAny_standAt (wpAny_bind (wpAny_holding ?_)))))
  obtain ⟨st, _, q1, _⟩ := g1
  obtain ⟨st2, _, q2, _⟩ := g2
  refine c W s2 v1 v2 _ _ _ E R.ok (q1.kf st2.kf) q2 fun t => ?_
  refine wpAny_bind (wpAny_release (wpAny_bind (wpAny_holding (wpAny_truthy_bool ?_))))
  cases b with
  | false => exact wpAny_pure (.intro_bool ((st.trans st2).toks t) _)
  | true =>
    have R2' : Rel K rho W { s2 with toks := t } := R2.step ((Step.refl _ s2).toks t)
    show wpAny K.M K.A (compareChain pos v2 [op2] [eval r2 K.env]) _ E _
    unfold compareChain
    refine wpAny_bind (wpAny_holding ((h3 rfl).bind R2' fun v3 s3 R3 g3 => wpAny_bind (wpAny_standAt ?_)))
    obtain ⟨st3, _, q3, _⟩ := g3
    refine wpAny_operating (c2 rfl W s3 v2 v3 _ _ _ E R.ok (q2.kf st3.kf) q3 fun t' => .intro_bool ?_ _)
    exact ((st.trans st2).trans (((Step.refl _ s2).toks t).trans st3)).toks t'

/-! and, or, not as values -/
def EVA (K : Fm) (rho : List (Str × Option D)) (op : BoolOp) (pos : Pos) (es : List Expr) (b : Bool) : Prop :=
  ∀ W s, Rel K rho W s → ∀ E, wpAny K.M K.A (boolOp pos op (evalEach es K.env)) (Got K W s (.bool b) true) E s
theorem eva_one {op : BoolOp} {e : Expr} (h : EV K rho e (.bool b) f) : EVA K rho op pos [e] b := fun W s R E => wpAny_mono (h W s R E) (fun _ _ g => g.up (.bool b)) fun _ _ q => q
theorem eva_and {e e2 : Expr} {es : List Expr} (h : EV K rho e (.bool b) f) (k : b = true → EVA K rho .And pos (e2 :: es) b2) : EVA K rho .And pos (e :: e2 :: es) (b && b2) := fun W s R E => by
  show wpAny K.M K.A (boolOp pos .And (eval e K.env :: eval e2 K.env :: evalEach es K.env)) _ E s
  unfold boolOp
  refine wpAny_bind (h.bind R fun v s1 R1 g1 => wpAny_bind (wpAny_standAt (wpAny_bind (wpAny_holding ?_))))
  obtain ⟨st, _, q, _⟩ := g1
  obtain ⟨rfl, _⟩ := q.bool_inv
  refine wpAny_truthy_bool ?_
  cases b with
  | false => exact wpAny_pure (.intro_bool st _)
  | true => exact wpAny_mono (k rfl W s1 R1 E) (fun v s2 g2 => by
      obtain ⟨st2, _, q2, _⟩ := g2
      obtain ⟨rfl, _⟩ := q2.bool_inv
      exact .intro_bool (st.trans st2) _) fun _ _ x => x
theorem eva_or {e e2 : Expr} {es : List Expr} (h : EV K rho e (.bool b) f) (k : b = false → EVA K rho .Or pos (e2 :: es) b2) : EVA K rho .Or pos (e :: e2 :: es) (b || b2) := fun W s R E => by
  show wpAny K.M K.A (boolOp pos .Or (eval e K.env :: eval e2 K.env :: evalEach es K.env)) _ E s
  unfold boolOp
  refine wpAny_bind (h.bind R fun v s1 R1 g1 => wpAny_bind (wpAny_standAt (wpAny_bind (wpAny_holding ?_))))
  obtain ⟨st, _, q, _⟩ := g1
  obtain ⟨rfl, _⟩ := q.bool_inv
  refine wpAny_truthy_bool ?_
  cases b with
  | true => exact wpAny_pure (.intro_bool st _)
  | false => exact wpAny_mono (k rfl W s1 R1 E) (fun v s2 g2 => by
      obtain ⟨st2, _, q2, _⟩ := g2
      obtain ⟨rfl, _⟩ := q2.bool_inv
      exact .intro_bool (st.trans st2) _) fun _ _ x => x
theorem ev_boolop {bop : BoolOp} {es : List Expr} (h : EVA K rho bop pos es b) : EV K rho (.BoolOp bop es pos) (.bool b) true := fun W s R E => by
  rw [arm_eval_BoolOp]; exact h W s R E
theorem ev_not {e : Expr} (h : EV K rho e (.bool b) f) : EV K rho (.UnaryOp .Not e pos) (.bool (!b)) true := fun W s R E =>
  wpAny_UnaryOp (h.bind R fun v s1 R1 g1 => by
    obtain ⟨st, _, q, _⟩ := g1
    obtain ⟨rfl, _⟩ := q.bool_inv
    exact not_value (wpAny_truthy_bool (.intro_bool st _)))
end

/-! several expressions in a row -/
def GotAll (K : Fm) (W : List Addr) (s : Shared) (ds : List D) (fr : Bool) (vs : List Value) (s' : Shared) : Prop :=
  Step K.fr s s' ∧ ∃ as, RdAll W s'.heap vs ds as ∧ (fr = true → as.Nodup ∧ ∀ a ∈ as, s.heap.get? a = none)
def EVs (K : Fm) (rho : List (Str × Option D)) (es : List Expr) (ds : List D) (fr : Bool) : Prop :=
  ∀ W s pos, Rel K rho W s → ∀ E, wpAny K.M K.A (spliced (backTo pos (starEach es K.env))) (GotAll K W s ds fr) E s
def noStar : Expr → Bool
  | .Starred .. => false
  | _ => true
theorem starEach_cons {e : Expr} {es : List Expr} {env : Env} (h : noStar e = true) : starEach (e :: es) env = (false, eval e env) :: starEach es env := by
  cases e <;> first | rfl | cases h
section
variable {K : Fm} {rho : List (Str × Option D)} {pos : Pos} {e : Expr} {es : List Expr} {d : D} {ds : List D} {f g : Bool}
theorem evs_nil : EVs K rho [] [] true := fun _ s _ _ _ => wpAny_items_nil ⟨.refl _ s, [], .nil, fun _ => ⟨.nil, fun _ h => nomatch h⟩⟩
theorem evs_cons (h : EV K rho e d f) (k : EVs K rho es ds g) (hn : noStar e = true) : EVs K rho (e :: es) (d :: ds) (f && g) := fun W s pos R E =>
  wpAny_items_cons (h.bind R fun v s1 R1 g1 => wpAny_mono (k W s1 pos R1 E) (fun vs s2 g2 => by
    obtain ⟨st, as, q1, q3⟩ := g1
    obtain ⟨st2, bs, r1, r3⟩ := g2
    refine ⟨st.trans st2, as ++ bs, .cons (q1.kf st2.kf) r1, fun e => ?_⟩
    · simp only [Bool.and_eq_true] at e
      refine ⟨List.nodup_append.mpr ⟨(q3 e.1).1, (r3 e.2).1, fun a ha b hb e' => ?_⟩, fun a ha => ?_⟩
      · subst e'
        obtain ⟨_, _, _, ho⟩ := q1.there a ha
        rw [(r3 e.2).2 a hb] at ho; cases ho
      · rcases List.mem_append.mp ha with ha | ha
        · exact (q3 e.1).2 a ha
        · exact st.kf.fresh ((r3 e.2).2 a ha)) fun _ _ x => x) (starEach_cons hn)

theorem kf_push {fr : List Addr} (h : Heap) (o : Obj) : KF fr h (h.push o) := .of_keeps fun _ _ e => Heap.get?_push_of_some _ e
theorem step_push {fr : List Addr} (s : Shared) (o : Obj) : Step fr s { s with heap := s.heap.push o } := ⟨⟨_, _, rfl⟩, kf_push _ _⟩
theorem get?_size (h : Heap) : h.get? h.objs.size = none := Heap.get?_none_of_le (Nat.le_refl _)

theorem off_size {s : Shared} {W : List Addr} (hW : ∀ a ∈ W, ∃ o, s.heap.get? a = some o) : s.heap.objs.size ∉ W := fun hm => by
  obtain ⟨o, e⟩ := hW _ hm
  rw [get?_size] at e; cases e
theorem off_fresh {h : Heap} {W : List Addr} (hW : ∀ a ∈ W, ∃ o, h.get? a = some o) {a : Addr} (e : h.get? a = none) : a ∉ W := fun hm => by
  obtain ⟨o, e'⟩ := hW _ hm
  rw [e] at e'; cases e'
theorem off_step {fr W : List Addr} {s s' : Shared} (st : Step fr s s') (hW : ∀ a ∈ W, ∃ o, s.heap.get? a = some o) : ∀ a ∈ W, ∃ o, s'.heap.get? a = some o := fun a ha =>
  let ⟨_, e⟩ := hW a ha; let ⟨o', e', _⟩ := st.kf.at e; ⟨o', e'⟩
/-- a new tuple out of read values -/
theorem Got.newTuple {W : List Addr} {s s1 : Shared} {vs : List Value} {fr : Bool} (hW : ∀ a ∈ W, ∃ o, s1.heap.get? a = some o) (g : GotAll K W s ds fr vs s1) : Got K W s (.tuple ds) fr (.ref s1.heap.objs.size) { s1 with heap := s1.heap.push (tupO vs 0) } := by
  obtain ⟨st, as, q1, q3⟩ := g
  exact ⟨st.trans (step_push s1 _), as, .tuple (off_size hW) (Heap.get?_push_size _ rfl) (q1.kf (kf_push (fr := K.fr) _ _)), q3⟩
theorem Got.newList {W : List Addr} {s s1 : Shared} {vs : List Value} {fr : Bool} (hW : ∀ a ∈ W, ∃ o, s1.heap.get? a = some o) (g : GotAll K W s ds fr vs s1) : Got K W s (.list ds) fr (.ref s1.heap.objs.size) { s1 with heap := s1.heap.push (listO vs 0) } := by
  obtain ⟨st, as, q1, q3⟩ := g
  have hs : s.heap.get? s1.heap.objs.size = none := st.kf.fresh (get?_size _)
  refine ⟨st.trans (step_push s1 _), s1.heap.objs.size :: as, .list (off_size hW) (Heap.get?_push_size _ rfl) (q1.kf (kf_push (fr := K.fr) _ _)), fun e => ⟨List.nodup_cons.mpr ⟨fun hm => ?_, (q3 e).1⟩, fun a ha => ?_⟩⟩
  · obtain ⟨_, _, _, ho⟩ := q1.there _ hm
    rw [get?_size] at ho; cases ho
  · rcases List.mem_cons.mp ha with rfl | ha
    · exact hs
    · exact (q3 e).2 a ha
theorem ev_tuple {k : Nat} (h : EVs K rho es ds f) (hl : ds.length ≤ sizeLine) : EV K rho (.Tuple es k pos) (.tuple ds) f := fun W s R E =>
  wpAny_Tuple (wpAny_mono (h W s pos R E) (fun vs s1 g => ⟨by rw [g.2.choose_spec.1.length]; exact hl, Got.newTuple (off_step g.1 R.off) g⟩) fun _ _ x => x)
theorem ev_list (h : EVs K rho es ds f) (hl : ds.length ≤ sizeLine) : EV K rho (.List es pos) (.list ds) f := fun W s R E =>
  wpAny_List (wpAny_mono (h W s pos R E) (fun vs s1 g => ⟨by rw [g.2.choose_spec.1.length]; exact hl, Got.newList (off_step g.1 R.off) g⟩) fun _ _ x => x)
end

/-! items -/
theorem isTup_of {h : Heap} {a : Addr} {vs : List Value} {n : Nat} (e : h.get? a = some (tupO vs n)) : PyProof.Rows.IsTup h a vs.toArray := ⟨_, e, rfl, n, rfl⟩
theorem isList_of {h : Heap} {a : Addr} {vs : List Value} {n : Nat} (e : h.get? a = some (listO vs n)) : h.IsList a vs.toArray := ⟨_, e, rfl, n, rfl⟩
def noSlice : Expr → Bool
  | .Slice .. => false
  | _ => true
theorem subscripted_plain {slice : Expr} {o i : Value} (h : noSlice slice = true) : subscripted slice false o i = operate [o, i] (getItem o i) := by
  cases slice <;> first | rfl | cases h
/-- a place that Python's index means -/
def ixOf (k : Int) (n : Nat) : Option Nat := seqIndex? k n
section
variable {K : Fm} {rho : List (Str × Option D)} {pos : Pos} {e i : Expr} {d : D} {ds : List D} {f g : Bool} {k : Int} {j : Nat}
theorem ev_item_tuple (h : EV K rho e (.tuple ds) f) (h2 : EV K rho i (.int k) g) (hj : ixOf k ds.length = some j) (hd : ds[j]? = some d) (hn : noSlice i = true) (hk : -1000000000 ≤ k ∧ k ≤ 1000000000) : EV K rho (.Subscript e i pos) d false := fun W s R E =>
  PyProof.Rows.Subscript_ (h.bind R fun v1 s1 R1 g1 => h2.bind R1 fun v2 s2 R2 g2 => by
    obtain ⟨st, as, q1, _⟩ := g1
    obtain ⟨st2, _, r1, _⟩ := g2
    obtain ⟨u, rfl, _⟩ := r1.int_inv
    obtain ⟨a, vs, n, rfl, ho, hr, _⟩ := (q1.kf st2.kf).tuple_inv
    obtain ⟨v, bs, e1, e2, e3⟩ := hr.get j d hd
    refine PyProof.Rows.item_tupleT (isTup_of ho) (by omega) (by omega) (by rw [hr.length]; exact hj) e1 ?_ (subscripted_plain hn)
    exact ⟨st.trans st2, bs, e2, fun e => nomatch e⟩)
theorem ixOf_nonneg {k : Int} {n j : Nat} (h : ixOf k n = some j) : (0 ≤ k ∧ j = k.toNat ∧ j < n) ∨ (k < 0 ∧ -(n : Int) ≤ k ∧ j = (k + n).toNat ∧ j < n) := by
  unfold ixOf seqIndex? at h
  dsimp only at h
  split at h
  · split at h
    · rename_i h0 h1
      simp only [Bool.and_eq_true, decide_eq_true_eq] at h1
      right; injection h with h; omega
    · cases h
  · split at h
    · rename_i h0 h1
      simp only [Bool.and_eq_true, decide_eq_true_eq] at h1
      left; injection h with h; omega
    · cases h
theorem ev_item_list (h : EV K rho e (.list ds) f) (h2 : EV K rho i (.int k) g) (hj : ixOf k ds.length = some j) (hd : ds[j]? = some d) (hn : noSlice i = true) (hk : -1000000000 ≤ k ∧ k ≤ 1000000000) : EV K rho (.Subscript e i pos) d false := fun W s R E =>
  PyProof.Rows.Subscript_ (h.bind R fun v1 s1 R1 g1 => h2.bind R1 fun v2 s2 R2 g2 => by
    obtain ⟨st, as, q1, _⟩ := g1
    obtain ⟨st2, _, r1, _⟩ := g2
    obtain ⟨u, rfl, _⟩ := r1.int_inv
    obtain ⟨a, vs, n, cs, rfl, rfl, ho, hr, _⟩ := (q1.kf st2.kf).list_inv
    obtain ⟨v, bs, e1, e2, e3⟩ := hr.get j d hd
    have hL := isList_of ho
    refine PyProof.Rows.tail_any hL.typeIs slot_list_getitem.lookup ?_ (subscripted_plain hn)
    have fin : Got K W s d false v s2 := ⟨st.trans st2, bs, e2, fun e => nomatch e⟩
    rcases ixOf_nonneg hj with ⟨h0, hj', _⟩ | ⟨h0, h1, hj', _⟩
    · exact wpAny_getItem_list hL h0 (by omega) (by subst hj'; simpa using e1) fin
    · exact wpAny_getItem_list_neg hL h0 (by simpa [hr.length] using h1) (by omega) (by subst hj'; simpa [hr.length] using e1) fin)
end
end Mine
end

section
set_option autoImplicit false
namespace Mine
open PySem

/-- a built-in's call upon data -/
def BC (K : Fm) (fv : Value) (ds : List D) (d : D) (fr : Bool) : Prop :=
  ∀ W s vs as E, K.Ok → K.G.base.StaysIn s.heap → (∀ a ∈ W, ∃ o, s.heap.get? a = some o) → RdAll W s.heap vs ds as → wpAny K.M K.A (call fv vs) (Got K W s d fr) E s

theorem starEach_any : ∀ {es : List Expr} {env : Env} {pos : Pos}, es.all noStar = true → (backTo pos (starEach es env)).any (·.1) = false
  | [], _, _, _ => rfl
  | e :: es, env, pos, h => by
    have h' : noStar e = true ∧ es.all noStar = true := by simpa using h
    rw [starEach_cons h'.1]
    show (false || (backTo pos (starEach es env)).any (·.1)) = false
    rw [starEach_any h'.2]; rfl

/-- a value that is called by the machine alone -/
def flatFn : Value → Bool
  | .builtin _ => true
  | .type _ => true
  | _ => false

theorem callWith_flat {M : Model} {A : Around} {E : Value → Shared → Prop} {s : Shared} {env : Env} {pos : Pos} {fv : Value} {e : Expr} {es : List Expr} {Q : Value → Shared → Prop} (hf : flatFn fv = true) (hn : (e :: es).all noStar = true)
    (h : wpAny M A (spliced (backTo pos (starEach (e :: es) env))) (fun vs s₁ => wpAny M A (call fv vs) Q E s₁) E s) :
    wpAny M A (callWith pos fv [] (backTo pos (starEach (e :: es) env)) []) Q E s := by
  have hn' : noStar e = true ∧ es.all noStar = true := by simpa using hn
  cases fv with
  | builtin id => exact PyProof.Rows.callWith_builtin1 h (starEach_cons hn'.1) (starEach_any hn'.2)
  | type T => exact PyProof.Rows.callWith_type1 h (starEach_cons hn'.1) (starEach_any hn'.2)
  | _ => cases hf

def noAttr : Expr → Bool
  | .Attribute .. => false
  | _ => true
theorem eval_Call_plain {f : Expr} {args : List Expr} {pos : Pos} {env : Env} (h : noAttr f = true) : eval (.Call f args [] pos) env = (do callWith pos (← eval f env) [] (backTo pos (starEach args env)) (backToKw pos (keywordEach [] env))) := by
  cases f <;> first | rfl | cases h

section
variable {K : Fm} {rho : List (Str × Option D)}
/-- a built-in name -/
theorem load_builtin {x : Str} {np : Pos} {fv : Value} {W : List Addr} {s : Shared} {E : Value → Shared → Prop} {Q : Value → Shared → Prop} (R : Rel K rho W s) (hx : K.sc.names.lookup x = some .globalImplicit) (hm : x ∈ bnames)
    (hb : bootBuiltins x = some fv) (hd : (x == ("__debug__" : Str)) = false) (hne : x ≠ "__name__") (q : Q fv s) : wpAny K.M K.A (eval (.Name x np) K.env) Q E s := by
  obtain ⟨mb, n, e⟩ := R.ok.gl.b
  refine Calls.Name_function_global R.ok.kindE (R.ok.kindOf hx) ?_ hd
  refine Calls.loadGlobal_builtin (mg := K.G.mg) ?_ (R.ok.gl.miss x hm) (mb := mb) ?_ ((e x hne).trans hb) q
  · rw [R.ok.globals]; exact R.ok.gl.g.keeps R.stays
  · rw [R.ok.builtins]; exact n.keeps R.stays
theorem bname_ok {x : Str} (h : x ∈ bnames) : (x == ("__debug__" : Str)) = false ∧ x ≠ "__name__" := by
  have key : bnames.all (fun x => !(x == ("__debug__" : Str)) && !(x == ("__name__" : Str))) = true := by decide +kernel
  have := List.all_eq_true.mp key x h
  simp only [Bool.and_eq_true, Bool.not_eq_true', beq_eq_false_iff_ne] at this
  exact ⟨by simpa using this.1, this.2⟩

theorem ev_bcall {x : Str} {np pos : Pos} {e : Expr} {es : List Expr} {fv : Value} {ds : List D} {d : D} {f fr : Bool} (hx : K.sc.names.lookup x = some .globalImplicit) (hm : x ∈ bnames) (hb : bootBuiltins x = some fv) (hf : flatFn fv = true)
    (h : EVs K rho (e :: es) ds f) (hn : (e :: es).all noStar = true) (c : BC K fv ds d fr) : EV K rho (.Call (.Name x np) (e :: es) [] pos) d fr := fun W s R E => by
  rw [eval_Call_plain rfl]
  refine wpAny_bind (load_builtin R hx hm hb (bname_ok hm).1 (bname_ok hm).2 ?_)
  refine callWith_flat hf hn (wpAny_mono (h W s pos R E) (fun vs s1 g => ?_) fun _ _ x => x)
  obtain ⟨st, as, q1, q3⟩ := g
  refine wpAny_mono (c W s1 vs as E R.ok (R.step st).stays (R.step st).off q1) (fun v s2 g2 => ?_) fun _ _ x => x
  obtain ⟨st2, bs, r1, r3⟩ := g2
  exact ⟨st.trans st2, bs, r1, fun e => ⟨(r3 e).1, fun b hb' => st.kf.fresh ((r3 e).2 b hb')⟩⟩
end

/-! one value in, a flat one out -/
theorem rd1 {W : List Addr} {h : Heap} {vs : List Value} {d : D} {as : List Addr} (r : RdAll W h vs [d] as) : ∃ v, vs = [v] ∧ Rd W h v d as := by
  cases r with
  | cons h1 h2 => cases h2; exact ⟨_, rfl, by simpa using h1⟩
theorem rd2 {W : List Addr} {h : Heap} {vs : List Value} {d d' : D} {as : List Addr} (r : RdAll W h vs [d, d'] as) : ∃ v v' bs cs, vs = [v, v'] ∧ Rd W h v d bs ∧ Rd W h v' d' cs ∧ as = bs ++ cs := by
  cases r with
  | cons h1 h2 =>
    cases h2 with
    | cons h3 h4 => cases h4; exact ⟨_, _, _, _, rfl, h1, h3, by simp⟩

section
variable {K : Fm}
theorem line_lt {n : Nat} (h : n ≤ sizeLine) : (n : Int) < 2 ^ 63 := by
  have : sizeLine = 16777216 := rfl
  omega
theorem bc_len_list {ds : List D} (hl : ds.length ≤ sizeLine) : BC K (.builtin "len") [.list ds] (.int ds.length) true := fun W s vs as E k _ hW r => by
  obtain ⟨v, rfl, r1⟩ := rd1 r
  obtain ⟨a, ws, n, bs, rfl, _, ho, hr, _⟩ := r1.list_inv
  have e : ws.toArray.size = ds.length := by rw [List.size_toArray]; exact hr.length
  refine PyProof.Rows.len_list (isList_of ho) (by rw [e]; exact line_lt hl) (Got.flat ((Step.refl _ s).toks _) ?_ _)
  rw [e]; exact .int _ _
theorem bc_len_tuple {ds : List D} (hl : ds.length ≤ sizeLine) : BC K (.builtin "len") [.tuple ds] (.int ds.length) true := fun W s vs as E k _ hW r => by
  obtain ⟨v, rfl, r1⟩ := rd1 r
  obtain ⟨a, ws, n, rfl, ho, hr, _⟩ := r1.tuple_inv
  have e : ws.toArray.size = ds.length := by rw [List.size_toArray]; exact hr.length
  refine PyProof.Rows.len_tuple (isTup_of ho) (by rw [e]; exact line_lt hl) (Got.flat ((Step.refl _ s).toks _) ?_ _)
  rw [e]; exact .int _ _
theorem bc_len_str {x : Str} (hl : x.length ≤ sizeLine) : BC K (.builtin "len") [.str x] (.int x.length) true := fun W s vs as E k _ hW r => by
  obtain ⟨v, rfl, r1⟩ := rd1 r
  obtain ⟨t, rfl, _⟩ := r1.str_inv
  exact PyProof.Rows.len_str (by have := line_lt hl; omega) (Got.flat ((Step.refl _ s).toks _) (.int _ _) _)
theorem bc_abs {a : Int} : BC K (.builtin "abs") [.int a] (.int (a.natAbs : Int)) true := fun W s vs as E k _ hW r => by
  obtain ⟨v, rfl, r1⟩ := rd1 r
  obtain ⟨t, rfl, _⟩ := r1.int_inv
  refine PyProof.Rows.call_abs_int fun u tk => Got.flat ((Step.refl _ s).toks _) ?_ _
  have e : (if a < 0 then -a else a) = (a.natAbs : Int) := by split <;> omega
  rw [e]; exact .int _ _
theorem bc_int_bool {b : Bool} : BC K (.type "int") [.bool b] (.int (if b then 1 else 0)) true := fun W s vs as E k _ hW r => by
  obtain ⟨v, rfl, r1⟩ := rd1 r
  obtain ⟨rfl, _⟩ := r1.bool_inv
  exact call_int_bool (Got.flat ((Step.refl _ s).toks _) (.int _ _) _)

/-! tuple(..), list(..) -/
theorem bc_tuple_list {ds : List D} (hl : ds.length ≤ sizeLine) : BC K (.type "tuple") [.list ds] (.tuple ds) false := fun W s vs as E k _ hW r => by
  obtain ⟨v, rfl, r1⟩ := rd1 r
  obtain ⟨a, ws, n, bs, rfl, e, ho, hr, _⟩ := r1.list_inv
  refine call_tuple_list (isList_of ho) (fun h' hk => ?_) (by rw [List.size_toArray, hr.length]; exact hl)
  refine ⟨⟨⟨_, _, rfl⟩, .of_keeps fun b o e => Heap.get?_push_of_some _ (hk b o e)⟩, bs, .tuple (fun hm => ?_) (Heap.get?_push_size _ rfl) ?_, fun e => nomatch e⟩
  · obtain ⟨o, e'⟩ := hW _ hm
    have := hk _ _ e'
    rw [get?_size] at this; cases this
  exact hr.kf (fr := []) (.of_keeps fun b o e => Heap.get?_push_of_some _ (hk b o e))
theorem bc_tuple_tuple {ds : List D} : BC K (.type "tuple") [.tuple ds] (.tuple ds) false := fun W s vs as E k _ hW r => by
  obtain ⟨v, rfl, r1⟩ := rd1 r
  obtain ⟨a, ws, n, rfl, ho, hr, _⟩ := id r1.tuple_inv
  exact call_tuple_same (isTup_of ho) ⟨.refl _ _, as, r1, fun e => nomatch e⟩
theorem bc_list_seq {l : Addr} {T : String} {s : Shared} {W : List Addr} {ws : List Value} {ds : List D} {bs : List Addr} {n : Nat} {E : Value → Shared → Prop} (hT : T = "list" ∨ T = "tuple") (ho : s.heap.get? l = some { cls := .type T, data := .seq ws.toArray n })
    (hW : ∀ a ∈ W, ∃ o, s.heap.get? a = some o) (hr : RdAll W s.heap ws ds bs) (hl : ds.length ≤ sizeLine) (fl : ∀ d ∈ ds, Flat d) : wpAny K.M K.A (call (.type "list") [.ref l]) (Got K W s (.list ds) true) E s := by
  refine call_list_seq l hT ho rfl rfl (fun h' c' hk hD => ?_) (by rw [List.size_toArray, hr.length]; exact hl)
  obtain rfl := Flat.rdAll hr fl
  refine ⟨⟨⟨_, _, rfl⟩, .of_keeps hk⟩, [s.heap.objs.size], .list (off_size hW) hD (hr.kf (fr := []) (.of_keeps hk)), fun _ => ⟨by simp, fun b hb => ?_⟩⟩
  obtain rfl := List.mem_singleton.mp hb; exact get?_size _
theorem bc_list_list {ds : List D} (hl : ds.length ≤ sizeLine) (fl : ∀ d ∈ ds, Flat d) : BC K (.type "list") [.list ds] (.list ds) true := fun W s vs as E k _ hW r => by
  obtain ⟨v, rfl, r1⟩ := rd1 r
  obtain ⟨a, ws, n, bs, rfl, e, ho, hr, _⟩ := r1.list_inv
  exact bc_list_seq (.inl rfl) ho hW hr hl fl
theorem bc_list_tuple {ds : List D} (hl : ds.length ≤ sizeLine) (fl : ∀ d ∈ ds, Flat d) : BC K (.type "list") [.tuple ds] (.list ds) true := fun W s vs as E k _ hW r => by
  obtain ⟨v, rfl, r1⟩ := rd1 r
  obtain ⟨a, ws, n, rfl, ho, hr, _⟩ := r1.tuple_inv
  exact bc_list_seq (.inr rfl) ho hW hr hl fl

/-! isinstance -/
/-- a datum's class -/
def clsOf : D → String
  | .none => "NoneType"
  | .bool _ => "bool"
  | .int _ => "int"
  | .str _ => "str"
  | .list _ => "list"
  | .tuple _ => "tuple"
  | .dict _ => "dict"
/-- is it one of T? (bools are ints) -/
def isA (d : D) (T : String) : Bool := clsOf d == T || (clsOf d == "bool" && T == "int")
def isaTypes : List String := ["tuple", "list", "int", "bool", "str"]
theorem rd_typeIs {W : List Addr} {s : Shared} {v : Value} {d : D} {as : List Addr} (r : Rd W s.heap v d as) : s.TypeIs v (clsOf d) := by
  cases r with
  | none => rfl
  | bool => rfl
  | int => rfl
  | str => rfl
  | list h0 h1 h2 => exact ⟨_, h1, rfl⟩
  | tuple h0 h1 h2 => exact ⟨_, h1, rfl⟩
theorem sub_of {A T : String} (h : (A == T || (A == "bool" && T == "int")) = true) (hT : T ∈ isaTypes) : isSubtype (.type A) (.type T) = pure true := by
  simp only [isaTypes, List.mem_cons, List.not_mem_nil, or_false] at hT
  simp only [Bool.or_eq_true, Bool.and_eq_true, beq_iff_eq] at h
  rcases h with rfl | ⟨rfl, rfl⟩
  · rcases hT with rfl | rfl | rfl | rfl | rfl <;> (rw [isSubtype_type]; kernel_rfl)
  · rw [isSubtype_type]; kernel_rfl
theorem meta_of {T : String} (hT : T ∈ isaTypes) : typeOf (.type T) = pure (.type "type") := by
  simp only [isaTypes, List.mem_cons, List.not_mem_nil, or_false] at hT
  rcases hT with rfl | rfl | rfl | rfl | rfl <;> kernel_rfl
end
theorem nosub_of {A T : String} (hA : A ∈ ["NoneType", "bool", "int", "str", "list", "tuple"]) (h : (A == T || (A == "bool" && T == "int")) = false) (hT : T ∈ isaTypes) : (Value.type A == Value.type T) = false ∧ isSubtype (.type A) (.type T) = pure false := by
  simp only [isaTypes, List.mem_cons, List.not_mem_nil, or_false] at hT hA
  rcases hA with rfl | rfl | rfl | rfl | rfl | rfl <;> rcases hT with rfl | rfl | rfl | rfl | rfl <;>
    first | (exact absurd h (by decide)) | exact ⟨by decide +kernel, by rw [isSubtype_type]; kernel_rfl⟩

theorem call_isa {prog : Program} {w : World} {A : Around} {E : Value → Shared → Prop} {s : Shared} {W : List Addr} {v : Value} {d : D} {as : List Addr} {T : String} {Q : Value → Shared → Prop} (r : Rd W s.heap v d as) (hT : T ∈ isaTypes)
    (q : ∀ t, Q (.bool (isA d T)) { s with toks := t }) : wpAny (model prog w) A (call (.builtin "isinstance") [v, .type T]) Q E s := by
  cases hb : isA d T with
  | true =>
    rw [hb] at q
    refine PyProof.Rows.call_isinstance_yes (rd_typeIs r) (meta_of hT) (sub_of hb hT) ?_
    exact q s.toks
  | false =>
    rw [hb] at q
    cases r with
    | none => obtain ⟨h1, h2⟩ := nosub_of (A := "NoneType") (by simp) hb hT; exact call_isinstance (isinstance_false_none h1 (meta_of hT) h2) (q _)
    | bool => obtain ⟨h1, h2⟩ := nosub_of (A := "bool") (by simp) hb hT; exact call_isinstance (isinstance_false_bool h1 (meta_of hT) h2) (q _)
    | int => obtain ⟨h1, h2⟩ := nosub_of (A := "int") (by simp) hb hT; exact call_isinstance (isinstance_false_int h1 (meta_of hT) h2) (q _)
    | str => obtain ⟨h1, h2⟩ := nosub_of (A := "str") (by simp) hb hT; exact call_isinstance (isinstance_false_str h1 (meta_of hT) h2) (q _)
    | list k0 k1 k2 => obtain ⟨h1, h2⟩ := nosub_of (A := "list") (by simp) hb hT; exact call_isinstance (isinstance_false_list h1 (meta_of hT) h2) ⟨⟨_, k1, rfl⟩, q _⟩
    | tuple k0 k1 k2 => obtain ⟨h1, h2⟩ := nosub_of (A := "tuple") (by simp) hb hT; exact call_isinstance (isinstance_false_tuple h1 (meta_of hT) h2) ⟨⟨_, k1, rfl⟩, q _⟩

theorem ev_isinstance {K : Fm} {rho : List (Str × Option D)} {np tp pos : Pos} {e : Expr} {d : D} {f : Bool} {x : Str} {T : String} (hx : K.sc.names.lookup (Str.ofString "isinstance") = some .globalImplicit) (hy : K.sc.names.lookup x = some .globalImplicit) (hm : x ∈ bnames)
    (hb : bootBuiltins x = some (.type T)) (hT : T ∈ isaTypes) (h : EV K rho e d f) (hn : noStar e = true) : EV K rho (.Call (.Name "isinstance" np) [e, .Name x tp] [] pos) (.bool (isA d T)) true := fun W s R E => by
  rw [eval_Call_plain rfl]
  have hi : (Str.ofString "isinstance") ∈ bnames := by decide +kernel
  refine wpAny_bind (load_builtin R hx hi PyProof.Rows.Boot.«isinstance» (bname_ok hi).1 (bname_ok hi).2 ?_)
  refine callWith_flat rfl (by rw [List.all_cons, hn]; rfl) (wpAny_items_cons (h.bind R fun v s1 R1 g1 => wpAny_items_cons (load_builtin R1 hy hm hb (bname_ok hm).1 (bname_ok hm).2 (wpAny_items_nil ?_))) (starEach_cons hn))
  obtain ⟨st, as, q1, _⟩ := g1
  exact call_isa q1 hT fun t => .intro_bool (st.toks t) _
end Mine
end

section
set_option autoImplicit false
namespace Mine
open PySem

theorem KS.sameBut {W : List Addr} {h h' : Heap} {a : Addr} (hs : Heap.SameBut a h h') (ha : ∀ o, h.get? a = some o → ∀ xs n, o.data ≠ .seq xs n) : KS W h h' := fun b o _ e ⟨xs, n, q⟩ =>
  (hs.2 b fun e' => by subst e'; exact ha o e xs n q).trans e

/-- a name's datum is put in -/
inductive Put : List (Str × Option D) → Str → D → List (Str × Option D) → Prop
  | here {x o d r} : Put ((x, o) :: r) x d ((x, some d) :: r)
  | there {x y o d r r'} : Put r x d r' → Put ((y, o) :: r) x d ((y, o) :: r')
theorem Put.names {r r' : List (Str × Option D)} {x : Str} {d : D} (p : Put r x d r') : r'.map (·.1) = r.map (·.1) := by
  induction p with
  | here => rfl
  | there _ ih => simp [ih]
theorem Put.mem_name {r r' : List (Str × Option D)} {x : Str} {d : D} (p : Put r x d r') : x ∈ r.map (·.1) := by
  induction p with
  | here => simp
  | there _ ih => simp only [List.map_cons, List.mem_cons]; exact .inr ih
theorem Put.cases {r r' : List (Str × Option D)} {x : Str} {d : D} (p : Put r x d r') (hn : (r.map (·.1)).Nodup) : ∀ y d', (y, some d') ∈ r' → (y = x ∧ d' = d) ∨ (y ≠ x ∧ (y, some d') ∈ r) := by
  induction p with
  | @here x o d r =>
    intro y d' hm
    simp only [List.map_cons, List.nodup_cons] at hn
    rcases List.mem_cons.mp hm with e | hm
    · cases e; exact .inl ⟨rfl, rfl⟩
    · refine .inr ⟨fun e => hn.1 (e ▸ List.mem_map.mpr ⟨_, hm, rfl⟩), .tail _ hm⟩
  | @there x y o d r r' p ih =>
    intro z d' hm
    simp only [List.map_cons, List.nodup_cons] at hn
    rcases List.mem_cons.mp hm with e | hm
    · cases e
      exact .inr ⟨fun e => hn.1 (e ▸ p.mem_name), .head _⟩
    · rcases ih hn.2 z d' hm with q | ⟨q1, q2⟩
      · exact .inl q
      · exact .inr ⟨q1, .tail _ q2⟩

/-- a name that the block itself may store -/
def Storable (K : Fm) (x : Str) : Prop := K.sc.names.lookup x = some .local ∨ x ∈ K.own
/-- where the block's own names lie -/
def Slot (K : Fm) (a : Addr) : Prop := a = K.env.locals ∨ ∃ x ∈ K.own, K.env.cells.lookup x = some a
structure Stored (K : Fm) (s s' : Shared) : Prop where
  same : ∃ h' tk, s' = { s with heap := h', toks := tk }
  but : ∃ a, Slot K a ∧ Heap.SameBut a s.heap s'.heap

theorem funFrames_of {h h' base : Heap} (k : ∀ b o, h.get? b = some o → (∀ vs, o.data ≠ .fields vs) → ∃ o', h'.get? b = some o' ∧ ∀ vs, o'.data ≠ .fields vs) : ∀ {l : List Env}, h.FunFrames base l → h'.FunFrames base l
  | [], _ => trivial
  | _ :: _, ⟨hk, ⟨L, o, hf, hn, ho, hd⟩, hr⟩ => let ⟨o', h1, h2⟩ := k L o ho hd; ⟨hk, ⟨L, o', hf, hn, h1, h2⟩, funFrames_of k hr⟩

theorem ns_ne_cell {h : Heap} {a c : Addr} {m : Str → Option Value} {v : Option Value} (n : h.Ns a m) (i : h.IsCell c v) : c ≠ a := fun e => by
  subst e
  obtain ⟨o, es, ep, ho, hd, _⟩ := n
  obtain ⟨o', ho', hd'⟩ := i
  rw [ho] at ho'; cases ho'
  rw [hd] at hd'; cases hd'

theorem slot_new {K : Fm} (k : K.Ok) {a : Addr} (h : Slot K a) : K.s0.heap.get? a = none := by
  rcases h with rfl | ⟨x, hx, e⟩
  · exact k.locnew
  · obtain ⟨_, c, e1, e2⟩ := k.ownnew x hx
    rw [e] at e1; cases e1; exact e2

/-- what stays of a relation when one of the block's own places turns -/
theorem Rel.slot {K : Fm} {rho : List (Str × Option D)} {W : List Addr} {s s' : Shared} (R : Rel K rho W s) {a : Addr} (ha : Slot K a) (hs : Heap.SameBut a s.heap s'.heap) (same : ∃ h' tk, s' = { s with heap := h', toks := tk })
    (hd : ∃ o, s.heap.get? a = some o ∧ (∀ vs, o.data ≠ .fields vs) ∧ ∀ xs n, o.data ≠ .seq xs n) (hd' : ∃ o, s'.heap.get? a = some o ∧ (∀ vs, o.data ≠ .fields vs)) (hdm : ∀ m, s.heap.Ns a m → ∃ m', s'.heap.Ns a m')
    {rho' : List (Str × Option D)} (hnm : rho'.map (·.1) = rho.map (·.1)) (loc : ∃ m, s'.heap.Ns K.env.locals m) (cells : ∀ x c, K.env.cells.lookup x = some c → ∃ v, s'.heap.IsCell c v)
    (vars : KS W s.heap s'.heap → ∀ x d, (x, some d) ∈ rho' → ∃ v as, Holds K.env s'.heap x v ∧ Rd W s'.heap v d as) : Rel K rho' W s' where
  ok := R.ok
  off := fun b hb => by
    obtain ⟨o, e⟩ := R.off b hb
    by_cases hba : b = a
    · subst hba; exact let ⟨o', h1, _⟩ := hd'; ⟨o', h1⟩
    · exact ⟨o, (hs.2 b hba).trans e⟩
  same := by
    obtain ⟨h, tk, e⟩ := R.same
    obtain ⟨h', tk', e'⟩ := same
    exact ⟨h', tk', by rw [e', e]⟩
  stays := fun b o e => (hs.2 b fun q => by
    subst q
    have := R.ok.base0 _ _ e
    rw [slot_new R.ok ha] at this; cases this).trans (R.stays b o e)
  kept := fun b o e => by
    have hb : b ≠ a := fun q => by subst q; rw [slot_new R.ok ha] at e; cases e
    rcases R.kept b o e with q | ⟨q1, q2, sl, q3⟩
    · exact .inl ((hs.2 b hb).trans q)
    · exact .inr ⟨q1, q2, sl, (hs.2 b hb).trans q3⟩
  frames := funFrames_of (fun b o e hn => by
    by_cases hb : b = a
    · subst hb; exact let ⟨o', h1, h2⟩ := hd'; ⟨o', h1, h2⟩
    · exact ⟨o, (hs.2 b hb).trans e, hn⟩) R.frames
  fdict := fun b hb => by
    obtain ⟨m, n⟩ := R.fdict b hb
    by_cases hba : b = a
    · subst hba; exact hdm m n
    · exact ⟨m, n.sameBut hs hba⟩
  loc := loc
  cells := cells
  nodup := by rw [hnm]; exact R.nodup
  plain := fun x hx => R.plain x (by rw [← hnm]; exact hx)
  vars := vars (.sameBut hs fun o e xs n => by obtain ⟨o', e', _, q⟩ := hd; rw [e] at e'; cases e'; exact q xs n)

theorem store_rel {K : Fm} {rho rho' : List (Str × Option D)} {W : List Addr} {s : Shared} {x : Str} {d : D} {v : Value} {as : List Addr} {Q : Unit → Shared → Prop} {E : Value → Shared → Prop}
    (R : Rel K rho W s) (p : Put rho x d rho') (hs : Storable K x) (r : Rd W s.heap v d as) (k : ∀ s', Rel K rho' W s' → Stored K s s' → Q () s') : wpAny K.M K.A (storeName K.env x v) Q E s := by
  obtain ⟨m, n⟩ := R.loc
  rcases hs with hl | ho
  · refine wpAny_storeName_local (R.ok.kindOf hl) n (fun h' n' sb => k _ ?_ ⟨⟨_, _, rfl⟩, _, .inl rfl, sb⟩) (by rw [R.ok.kindE]; rfl)
    obtain ⟨o, es, ep, ho, hd, _⟩ := id n
    obtain ⟨o', es', ep', ho', hd', _⟩ := id n'
    have e1 : ∀ vs, o.data ≠ .fields vs := fun vs e => by rw [hd] at e; cases e
    have e2 : ∀ xs n, o.data ≠ .seq xs n := fun xs n e => by rw [hd] at e; cases e
    have e3 : ∀ vs, o'.data ≠ .fields vs := fun vs e => by rw [hd'] at e; cases e
    refine R.slot (.inl rfl) sb ⟨_, _, rfl⟩ ⟨o, ho, e1, e2⟩ ⟨o', ho', e3⟩ (fun _ _ => ⟨_, n'⟩) p.names ⟨_, n'⟩
      (fun y c e => let ⟨w, i⟩ := R.cells y c e; ⟨w, i.sameBut sb (ns_ne_cell n i)⟩) fun ks y d' hm => ?_
    rcases p.cases R.nodup y d' hm with ⟨rfl, rfl⟩ | ⟨hne, hm'⟩
    · exact ⟨v, as, .inl ⟨R.ok.kindOf hl, _, n', by simp⟩, r.ks ks⟩
    · obtain ⟨w, bs, q1, q2⟩ := R.vars y d' hm'
      refine ⟨w, bs, ?_, q2.ks ks⟩
      rcases q1 with ⟨k1, m1, n1, e1⟩ | ⟨k1, c, e1, i1⟩
      · refine .inl ⟨k1, _, n', ?_⟩
        have hm1 : m1 = m := by
          obtain ⟨o1, es1, ep1, ho1, hd1, _, f1⟩ := n1
          obtain ⟨o2, es2, ep2, ho2, hd2, _, f2⟩ := n
          rw [ho1] at ho2; cases ho2
          rw [hd1] at hd2; cases hd2
          funext z; rw [← f1 z, ← f2 z]
        subst hm1
        rw [if_neg hne]; exact e1
      · exact .inr ⟨k1, c, e1, i1.sameBut sb (ns_ne_cell n i1)⟩
  · obtain ⟨hk, c, hc, hnew⟩ := R.ok.ownnew x ho
    obtain ⟨v0, i0⟩ := R.cells x c hc
    refine wpAny_storeName_cell R.ok.kindE (R.ok.kindOf hk) hc i0 fun h' i' sb => k _ ?_ ⟨⟨_, _, rfl⟩, c, .inr ⟨x, ho, hc⟩, sb⟩
    obtain ⟨o, ho1, hd⟩ := id i0
    obtain ⟨o', ho', hd'⟩ := id i'
    have hcL := ns_ne_cell n i0
    have e1 : ∀ vs, o.data ≠ .fields vs := fun vs e => by rw [hd] at e; cases e
    have e2 : ∀ xs n, o.data ≠ .seq xs n := fun xs n e => by rw [hd] at e; cases e
    have e3 : ∀ vs, o'.data ≠ .fields vs := fun vs e => by rw [hd'] at e; cases e
    refine R.slot (.inr ⟨x, ho, hc⟩) sb ⟨_, _, rfl⟩ ⟨o, ho1, e1, e2⟩ ⟨o', ho', e3⟩ (fun m1 n1 => absurd rfl (ns_ne_cell n1 i0)) p.names ⟨m, n.sameBut sb (Ne.symm hcL)⟩
      (fun y c' e => ?_) fun ks y d' hm => ?_
    · by_cases hcc : c' = c
      · subst hcc; exact ⟨_, i'⟩
      · exact let ⟨w, i⟩ := R.cells y c' e; ⟨w, i.sameBut sb hcc⟩
    rcases p.cases R.nodup y d' hm with ⟨rfl, rfl⟩ | ⟨hne, hm'⟩
    · exact ⟨v, as, .inr ⟨.inl (R.ok.kindOf hk), c, hc, i'⟩, r.ks ks⟩
    · obtain ⟨w, bs, q1, q2⟩ := R.vars y d' hm'
      refine ⟨w, bs, ?_, q2.ks ks⟩
      rcases q1 with ⟨k1, m1, n1, e1⟩ | ⟨k1, c', e1, i1⟩
      · exact .inl ⟨k1, m1, n1.sameBut sb (Ne.symm hcL), e1⟩
      · exact .inr ⟨k1, c', e1, i1.sameBut sb fun e => hne (name_of_addr R.ok.apart (mem_of_lookup e1) (e ▸ mem_of_lookup hc))⟩

theorem Stored.kept {K : Fm} {s s' : Shared} (x : Stored K s s') {b : Addr} {o : Obj} (hb : ∀ a, Slot K a → b ≠ a) (e : s.heap.get? b = some o) : s'.heap.get? b = some o := by
  obtain ⟨_, a, ha, sb⟩ := x
  exact (sb.2 b (hb a ha)).trans e
end Mine
end

section
set_option autoImplicit false
namespace Mine
open PySem

/-! an iterator over n values, as zip and enumerate draw from it -/
structure Nxt (prog : Program) (w : World) (A : Around) (i : Addr) (fp : List Addr) (vs : Array Value) (St : Nat → Heap → Prop) : Prop where
  self : i ∈ fp
  frame : ∀ k h h', St k h → (∀ b ∈ fp, ∀ o, h.get? b = some o → h'.get? b = some o) → St k h'
  item : ∀ k (s : Shared) x (Q : Value → Shared → Prop) (E : Value → Shared → Prop), vs[k]? = some x → St k s.heap → (∀ h', St (k + 1) h' → Heap.SameBut i s.heap h' → Q x { s with heap := h' }) → wpAny (model prog w) A (Builtin.SmallTypes.nextOf (.ref i)) Q E s
  done : ∀ (s : Shared) (Q : Value → Shared → Prop) (E : Value → Shared → Prop), St vs.size s.heap → (∀ h' e, Heap.ExtBut i s.heap h' → (∃ o, h'.get? e = some o ∧ o.cls = .type "StopIteration") → E (.ref e) { s with heap := h' }) →
    wpAny (model prog w) A (Builtin.SmallTypes.nextOf (.ref i)) Q E s
  there : ∀ k h, St k h → ∃ o, h.get? i = some o

section
variable {prog : Program} {w : World} {A : Around} {E : Value → Shared → Prop} {s : Shared}

theorem Nxt.list (hh : A.handled = none) (i l : Addr) (hne : l ≠ i) (vs : Array Value) : Nxt prog w A i [i, l] vs (fun k h => h.IsListIter i l k ∧ h.IsList l vs) where
  self := by simp
  frame := fun k h h' st hk => ⟨st.1.at fun o e => hk i (by simp) o e, st.2.at fun o e => hk l (by simp) o e⟩
  item := fun k s x Q E hx st hQ => wpAny_nextOf_list_item st.1 st.2 hx fun h' q1 q2 => hQ h' ⟨q1, st.2.extBut q2.extBut hne⟩ q2
  done := fun s Q E st hE => wpAny_nextOf_list_end hh st.1 st.2 (by simp) hE
  there := fun k h st => let ⟨o, e, _⟩ := st.1; ⟨o, e⟩

/-- one draw of a tuple's iterator -/
theorem nextOf_tuple {i t : Addr} {k : Nat} {vs : Array Value} {x : Value} {Q : Value → Shared → Prop} (hi : s.heap.IsTupleIter i t k) (ht : s.heap.IsTuple t vs) (hx : vs[k]? = some x)
    (hQ : ∀ h', h'.IsTupleIter i t (k + 1) → Heap.SameBut i s.heap h' → Q x { s with heap := h' }) : wpAny (model prog w) A (Builtin.SmallTypes.nextOf (.ref i)) Q E s := by
  obtain ⟨o, ho, hc, hd⟩ := id hi
  obtain ⟨ot, hot, _, nt, hdt⟩ := ht
  unfold Builtin.SmallTypes.nextOf
  refine wpAny_bind (wpAny_callSpecial?_slot (name := Str.ofString "__next__") hi.typeIs F.slot_tuple_iterator_next (wpAny_call_entry F.slot_tuple_iterator_next hi.typeIs F.entry_tuple_iterator_next ?_ (F.args_tuple_iterator_next_1 _)))
  show wpAny _ _ (field (.ref i) 0 >>= _) _ _ s
  refine wpAny_bind (wpAny_field ho hd (x := .ref t) rfl ?_)
  show wpAny _ _ (if (Value.ref t == Value.none) = true then _ else _) _ _ s
  rw [if_neg (show ¬ ((Value.ref t == Value.none) = true) from Bool.false_ne_true)]
  show wpAny _ _ (field (.ref i) 1 >>= _) _ _ s
  refine wpAny_bind (wpAny_field ho hd (x := .int k 0) rfl ?_)
  show wpAny _ _ (seqItems? (.ref t) >>= _) _ _ s
  refine wpAny_bind (wpAny_seqItems hot hdt ?_)
  simp only [Int.toNat_natCast, hx]
  refine wpAny_bind (wpAny_setField ho hd (by simp) (wpAny_pure ⟨x, rfl, wpAny_pure (hQ _ ?_ (Heap.SameBut.update ..))⟩))
  exact ⟨_, Heap.get?_update_self _ ho (Obj.isFreed_of_fields (Obj.data_mapFields hd _)), (Obj.cls_mapFields ..).trans hc, by rw [Obj.data_mapFields hd]; simp [rawInt]⟩

theorem nextOf_tuple_end {i t : Addr} {k : Nat} {vs : Array Value} {Q : Value → Shared → Prop} (hh : A.handled = none) (hi : s.heap.IsTupleIter i t k) (ht : s.heap.IsTuple t vs) (hx : vs[k]? = none)
    (hE : ∀ h' e, Heap.ExtBut i s.heap h' → (∃ o, h'.get? e = some o ∧ o.cls = .type "StopIteration") → E (.ref e) { s with heap := h' }) : wpAny (model prog w) A (Builtin.SmallTypes.nextOf (.ref i)) Q E s := by
  obtain ⟨o, ho, hc, hd⟩ := id hi
  obtain ⟨ot, hot, _, nt, hdt⟩ := ht
  unfold Builtin.SmallTypes.nextOf
  refine wpAny_bind (wpAny_callSpecial?_slot (name := Str.ofString "__next__") hi.typeIs F.slot_tuple_iterator_next (wpAny_call_entry F.slot_tuple_iterator_next hi.typeIs F.entry_tuple_iterator_next ?_ (F.args_tuple_iterator_next_1 _)))
  show wpAny _ _ (field (.ref i) 0 >>= _) _ _ s
  refine wpAny_bind (wpAny_field ho hd (x := .ref t) rfl ?_)
  show wpAny _ _ (if (Value.ref t == Value.none) = true then _ else _) _ _ s
  rw [if_neg (show ¬ ((Value.ref t == Value.none) = true) from Bool.false_ne_true)]
  show wpAny _ _ (field (.ref i) 1 >>= _) _ _ s
  refine wpAny_bind (wpAny_field ho hd (x := .int k 0) rfl ?_)
  show wpAny _ _ (seqItems? (.ref t) >>= _) _ _ s
  refine wpAny_bind (wpAny_seqItems hot hdt ?_)
  simp only [Int.toNat_natCast, hx]
  refine wpAny_bind (wpAny_rule (wpAny_bind (wpAny_setField ho hd (by simp) ?_)))
  show wpAny _ _ (newExc (.type "StopIteration") [] >>= _) _ _ _
  refine wpAny_bind ?_
  simp only [newExc, newTuple]
  refine wpAny_bind (wpAny_newObj_type ?_ (by size_fits))
  refine wpAny_bind (m := firstArgMember _ _) (wpAny_of_eq (a := Value.none) (by first | rfl | (simp only [firstArgMember]; rfl)) ?_)
  refine wpAny_newObj_type ?_ (by size_fits)
  simp only [raiseNew]
  refine wpAny_bind (wpAny_handled ?_)
  first | rw [show A.in1.handled = none from hh] | rw [hh]
  refine wpAny_bind (wpAny_pure (wpAny_throw ?_))
  exact hE _ _ (((Heap.SameBut.update ..).extBut.push _).push _) ⟨_, Heap.get?_push_size _ rfl, rfl⟩

theorem Nxt.tuple (hh : A.handled = none) (i t : Addr) (hne : t ≠ i) (vs : Array Value) : Nxt prog w A i [i, t] vs (fun k h => h.IsTupleIter i t k ∧ h.IsTuple t vs) where
  self := by simp
  frame := fun k h h' st hk => ⟨st.1.at fun o e => hk i (by simp) o e, st.2.at fun o e => hk t (by simp) o e⟩
  item := fun k s x Q E hx st hQ => nextOf_tuple st.1 st.2 hx fun h' q1 q2 => hQ h' ⟨q1, st.2.extBut q2.extBut hne⟩ q2
  done := fun s Q E st hE => nextOf_tuple_end hh st.1 st.2 (by simp) hE
  there := fun k h st => let ⟨o, e, _⟩ := st.1; ⟨o, e⟩
theorem Nxt.in1 {i : Addr} {fp : List Addr} {vs : Array Value} {St : Nat → Heap → Prop} (N : Nxt prog w A.in1 i fp vs St) : Nxt prog w A i fp vs St where
  self := N.self
  frame := N.frame
  item := fun k s x Q E hx st hQ => wpAny_of_in1 (N.item k s x Q E hx st hQ)
  done := fun s Q E st hE => wpAny_of_in1 (N.done s Q E st hE)
  there := N.there
end

/-! enumerate over such an iterator -/
section
variable {prog : Program} {w : World} {A : Around} {E : Value → Shared → Prop} {s : Shared}
theorem enum_item {e i : Addr} {fp : List Addr} {vs : Array Value} {St : Nat → Heap → Prop} (N : Nxt prog w A i fp vs St) {k : Nat} {x old : Value} {Q : Value → Shared → Prop}
    (he : IsEnum s.heap e i k old) (st : St k s.heap) (hx : vs[k]? = some x) (hef : e ∉ fp)
    (hQ : ∀ h', IsEnumOut h' e i ((k : Int) + 1) x s.heap.objs.size → St (k + 1) h' → h'.get? s.heap.objs.size = some { cls := .type "tuple", data := .seq #[.int k s.toks, x] } →
      (∀ b o, b ≠ e → b ≠ i → s.heap.get? b = some o → h'.get? b = some o) → Q (.ref s.heap.objs.size) { s with heap := h', toks := s.toks + 1 }) :
    wpAny (model prog w) A (Builtin.«enumerate.__next__» ⟨[.ref e], []⟩) (fun fin s' => ∃ v, fin = .done (.ret v) ∧ Q v s') E s := by
  obtain ⟨hp, g, d, tk, os⟩ := s
  have hne : e ≠ i := fun q => hef (q ▸ N.self)
  show wpAny _ _ (field (.ref e) 2 >>= _) _ _ _
  refine wpAny_bind (wpAny_field he rfl (x := .ref i) rfl ?_)
  refine wpAny_bind (N.item k _ x _ _ hx st fun h₁ st₁ hs₁ => ?_)
  replace hs₁ : Heap.SameBut i hp h₁ := hs₁
  have he₁ : IsEnum h₁ e i k old := (hs₁.2 e hne).trans he
  show wpAny _ _ (field (.ref e) 3 >>= _) _ _ ⟨h₁, g, d, tk, os⟩
  refine wpAny_bind (wpAny_field he₁ rfl (x := rawInt k) rfl ?_)
  show wpAny _ _ (field (.ref e) 4 >>= _) _ _ ⟨h₁, g, d, tk, os⟩
  refine wpAny_bind (wpAny_field he₁ rfl (x := .none) rfl ?_)
  show wpAny _ _ (mkInt k >>= _) _ _ ⟨h₁, g, d, tk, os⟩
  refine wpAny_bind (wpAny_mkInt ?_)
  show wpAny _ _ (setField (.ref e) 3 (rawInt ((k : Int) + 1)) >>= _) _ _ ⟨h₁, g, d, tk + 1, os⟩
  refine wpAny_bind (wpAny_setField_rec he₁ (by simp) fun h₂ he₂ hs₂ => ?_)
  replace hs₂ : Heap.SameBut e h₁ h₂ := hs₂
  replace he₂ : IsEnum h₂ e i ((k : Int) + 1) old := he₂
  show wpAny _ _ (setField (.ref e) 4 .none >>= _) _ _ ⟨h₂, g, d, tk + 1, os⟩
  refine wpAny_bind (wpAny_setField_rec he₂ (by simp) fun h₃ he₃ hs₃ => ?_)
  replace hs₃ : Heap.SameBut e h₂ h₃ := hs₃
  replace he₃ : IsEnum h₃ e i ((k : Int) + 1) old := he₃
  show wpAny _ _ (newTuple [.int k tk, x] >>= _) _ _ ⟨h₃, g, d, tk + 1, os⟩
  refine wpAny_bind (wpAny_newTuple ?_)
  have he₄ : IsEnum (h₃.push { cls := .type "tuple", data := .seq #[.int k tk, x] }) e i ((k : Int) + 1) old := Heap.get?_push_of_some _ he₃
  generalize hh₄ : h₃.push { cls := .type "tuple", data := .seq #[.int k tk, x] } = h₄ at he₄
  have hsz : h₃.objs.size = hp.objs.size := by rw [hs₃.1, hs₂.1, hs₁.1]
  have hel : e < hp.objs.size := Heap.lt_size he
  have ht₄ : h₄.get? hp.objs.size = some { cls := .type "tuple", data := .seq #[.int k tk, x] } := by rw [← hh₄, ← hsz]; exact Heap.get?_push_size _ rfl
  have up₄ : ∀ b o, b ≠ e → h₁.get? b = some o → h₄.get? b = some o := fun b o hb q => by
    rw [← hh₄]; exact Heap.get?_push_of_some _ (hs₃.extBut b o hb (hs₂.extBut b o hb q))
  show wpAny _ _ (Builtin.SmallTypes.ownedTupleIsFree (.ref e) >>= _) _ _ ⟨h₄, g, d, tk + 1, os⟩
  rw [hsz]
  refine wpAny_bind ?_
  unfold Builtin.SmallTypes.ownedTupleIsFree
  refine wpAny_bind (wpAny_field he₄ rfl (x := .none) rfl (wpAny_pure ?_))
  simp only [if_true]
  refine wpAny_bind (wpAny_rule ?_)
  refine wpAny_bind (wpAny_field he₄ rfl (x := old) rfl ?_)
  refine wpAny_bind (wpAny_setField_rec he₄ (by simp) fun h₅ he₅ hs₅ => ?_)
  replace hs₅ : Heap.SameBut e h₄ h₅ := hs₅
  replace he₅ : IsEnum h₅ e i ((k : Int) + 1) x := he₅
  show wpAny _ _ (Builtin.SmallTypes.ownedTupleHandOut (.ref e) (.ref hp.objs.size) >>= _) _ _ ⟨h₅, g, d, tk + 1, os⟩
  refine wpAny_bind ?_
  unfold Builtin.SmallTypes.ownedTupleHandOut
  refine wpAny_bind (wpAny_setField_rec he₅ (by simp) fun h₆ he₆ hs₆ => ?_)
  replace hs₆ : Heap.SameBut e h₅ h₆ := hs₆
  replace he₆ : IsEnumOut h₆ e i ((k : Int) + 1) x hp.objs.size := he₆
  refine wpAny_setField_rec he₆ (by simp) fun h₇ he₇ hs₇ => ?_
  replace hs₇ : Heap.SameBut e h₆ h₇ := hs₇
  replace he₇ : IsEnumOut h₇ e i ((k : Int) + 1) x hp.objs.size := he₇
  have up : ∀ b o, b ≠ e → h₄.get? b = some o → h₇.get? b = some o := fun b o hb q => hs₇.extBut b o hb (hs₆.extBut b o hb (hs₅.extBut b o hb q))
  refine wpAny_bind (wpAny_letGo (wpAny_pure ⟨_, rfl, hQ h₇ he₇ (N.frame _ _ _ st₁ fun b hb o q => ?_) (up _ _ (Nat.ne_of_gt hel) ht₄) fun b o hbe hbi hb => ?_⟩))
  · have hbe : b ≠ e := fun q' => hef (q' ▸ hb)
    exact up b o hbe (up₄ b o hbe q)
  · exact up b o hbe (up₄ b o hbe (hs₁.extBut b o hbi hb))

theorem WalksT.enumN {e i : Addr} {fp : List Addr} {vs : Array Value} {St : Nat → Heap → Prop} (N : Nxt prog w A.in1 i fp vs St) (hef : e ∉ fp) :
    WalksT prog w A e (e :: fp) [e, i] vs.size (fun k vals => ∃ t x, vs[k]? = some x ∧ vals = #[.int k t, x])
      (fun k h => (∃ old, IsEnum h e i k old) ∧ St k h) (fun k T h => (∃ x, IsEnumOut h e i ((k : Int) + 1) x T) ∧ St (k + 1) h ∧ T ≠ e ∧ T ≠ i) where
  sub := fun b hb => by
    rcases List.mem_cons.mp hb with rfl | hb
    · exact List.mem_cons_self ..
    · rcases List.mem_cons.mp hb with rfl | hb
      · exact List.mem_cons_of_mem _ N.self
      · cases hb
  frame := fun k h h' ⟨⟨old, he⟩, st⟩ hk => ⟨⟨old, hk e (List.mem_cons_self ..) _ he⟩, N.frame _ _ _ st fun b hb o q => hk b (List.mem_cons_of_mem _ hb) o q⟩
  item := fun k s Q E hi ⟨⟨old, he⟩, st⟩ hQ => by
    have hT : s.TypeIs (.ref e) "enumerate" := ⟨_, he, rfl⟩
    have hx : vs[k]? = some vs[k] := Array.getElem?_eq_getElem hi
    obtain ⟨oi, hoi⟩ := N.there _ _ st
    unfold pyNext
    refine wpAny_bind (wpAny_attempt (wpAny_callSpecial?_slot (name := Str.ofString "__next__") hT F.slot_enumerate_next (wpAny_call_entry F.slot_enumerate_next hT F.entry_enumerate_next
      (enum_item N he st hx hef fun h' a b c k' => wpAny_pure (hQ _ #[.int k s.toks, vs[k]] h' (s.toks + 1) ⟨_, _, hx, rfl⟩ (Nat.le_refl _) ⟨_, c, rfl, _, rfl⟩ ⟨⟨_, a⟩, b, Nat.ne_of_gt (Heap.lt_size he), Nat.ne_of_gt (Heap.lt_size hoi)⟩
        fun b o hb q => k' b o (fun q' => hb (by simp [q'])) (fun q' => hb (by simp [q'])) q)) (F.args_enumerate_next_1 _))))
  go := fun elts k pos j T s Q E ⟨⟨x, ho⟩, st, hTe, hTi⟩ hQ => by
    refine wpAny_letOwnedTupleGo_enum ho fun h' he' hs' => hQ h' ⟨⟨x, by simpa using he'⟩, N.frame _ _ _ st fun b hb o q => (hs'.2 b fun q' => hef (q' ▸ hb)).trans q⟩ fun b o hb q => (hs'.2 b fun q' => hb (by simp [q'])).trans q
  apart := fun j T h ⟨_, _, hTe, hTi⟩ hT => by
    rcases List.mem_cons.mp hT with rfl | hT
    · exact hTe rfl
    · rcases List.mem_cons.mp hT with rfl | hT
      · exact hTi rfl
      · cases hT
  done := fun s Q E ⟨⟨old, he⟩, st⟩ hQ => by
    have hT : s.TypeIs (.ref e) "enumerate" := ⟨_, he, rfl⟩
    unfold pyNext
    refine wpAny_bind (wpAny_attempt (wpAny_callSpecial?_slot (name := Str.ofString "__next__") hT F.slot_enumerate_next (wpAny_call_entry F.slot_enumerate_next hT F.entry_enumerate_next ?_ (F.args_enumerate_next_1 _))))
    show wpAny _ _ (field (.ref e) 2 >>= _) _ _ _
    refine wpAny_bind (wpAny_field he rfl (x := .ref i) rfl ?_)
    refine wpAny_bind (N.done s _ _ st fun h' x he' hx' => ?_)
    obtain ⟨o, ho, hc⟩ := hx'
    refine wpAny_bind (wpAny_isInstance (T := "StopIteration") (b := true) ⟨o, ho, hc⟩ isSubtype_stop ?_)
    exact wpAny_pure (hQ h' s.toks fun b o hb q => he' b o (fun q' => hb (by simp [q'])) q)
  self := fun k s Q E ⟨⟨old, he⟩, _⟩ hQ => wpAny_pyIter_enum he hQ
end

/-! zip over two such iterators -/
structure ZOff (z TI TO i1 i2 : Addr) (f1 f2 : List Addr) : Prop where
  z1 : z ∉ f1
  z2 : z ∉ f2
  o1 : TO ∉ f1
  o2 : TO ∉ f2
  i12 : i1 ∉ f2
  i21 : i2 ∉ f1
  TIz : TI ≠ z
  TOz : TO ≠ z
  TITO : TI ≠ TO
  TIi1 : TI ≠ i1
  TIi2 : TI ≠ i2

section
variable {prog : Program} {w : World} {A : Around} {E : Value → Shared → Prop} {s : Shared} {z TI TO i1 i2 : Addr} {f1 f2 : List Addr} {xs ys : Array Value} {S1 S2 : Nat → Heap → Prop}
theorem zip_item (N1 : Nxt prog w A i1 f1 xs S1) (N2 : Nxt prog w A i2 f2 ys S2) (D : ZOff z TI TO i1 i2 f1 f2) {k : Nat} {x y a b : Value} {Q : Value → Shared → Prop}
    (hz : IsZip s.heap z TI TO .none) (hTI : IsPair s.heap TI (.ref i1) (.ref i2)) (hTO : IsPair s.heap TO a b) (st1 : S1 k s.heap) (st2 : S2 k s.heap) (hx : xs[k]? = some x) (hy : ys[k]? = some y)
    (hQ : ∀ h', IsZip h' z TI TO (rawInt s.heap.objs.size) → IsPair h' TO x y → S1 (k + 1) h' → S2 (k + 1) h' → IsPair h' s.heap.objs.size x y →
      (∀ c o, c ≠ z → c ≠ TO → c ≠ i1 → c ≠ i2 → s.heap.get? c = some o → h'.get? c = some o) → Q (.ref s.heap.objs.size) { s with heap := h' }) :
    wpAny (model prog w) A (Builtin.«zip.__next__» ⟨[.ref z], []⟩) (fun fin s' => ∃ v, fin = .done (.ret v) ∧ Q v s') E s := by
  have n1 : z ≠ i1 := fun q => D.z1 (q ▸ N1.self)
  have n2 : z ≠ i2 := fun q => D.z2 (q ▸ N2.self)
  have n3 : TO ≠ i1 := fun q => D.o1 (q ▸ N1.self)
  have n4 : TO ≠ i2 := fun q => D.o2 (q ▸ N2.self)
  have n5 : i1 ≠ i2 := fun q => D.i12 (q ▸ N2.self)
  show wpAny _ _ (field (.ref z) 2 >>= _) _ _ _
  refine wpAny_bind (wpAny_field hz rfl (x := .bool false) rfl ?_)
  show wpAny _ _ (field (.ref z) 3 >>= _) _ _ _
  refine wpAny_bind (wpAny_field hz rfl (x := .ref TI) rfl ?_)
  refine wpAny_bind (wpAny_seqItems hTI rfl ?_)
  show wpAny _ _ (Builtin.SmallTypes.ownedTupleIsFree (.ref z) >>= _) _ _ _
  refine wpAny_bind ?_
  unfold Builtin.SmallTypes.ownedTupleIsFree
  refine wpAny_bind (wpAny_field hz rfl (x := .none) rfl (wpAny_pure ?_))
  simp only [if_true]
  refine wpAny_bind (wpAny_rule ?_)
  refine wpAny_bind (wpAny_field hz rfl (x := .ref TO) rfl ?_)
  refine wpAny_bind (wpAny_setField_rec hz (by simp) fun h₁ hz₁ hs₁ => ?_)
  replace hz₁ : IsZip h₁ z TI TO .ellipsis := hz₁
  refine wpAny_bind ?_
  simp only [List.zipIdx_cons, List.zipIdx_nil, List.forIn_cons, List.forIn_nil]
  refine wpAny_bind (wpAny_bind (wpAny_onRaise ?_))
  show wpAny _ _ (Builtin.SmallTypes.nextOf (.ref i1) >>= _) _ _ _
  have a1 : S1 k h₁ := N1.frame _ _ _ st1 fun c hc o q => hs₁.extBut c o (fun q' => D.z1 (q' ▸ hc)) q
  have b1 : S2 k h₁ := N2.frame _ _ _ st2 fun c hc o q => hs₁.extBut c o (fun q' => D.z2 (q' ▸ hc)) q
  refine wpAny_bind (N1.item k _ x _ _ hx a1 fun h₂ a2 hs₂ => wpAny_pure ?_)
  have b2 : S2 k h₂ := N2.frame _ _ _ b1 fun c hc o q => hs₂.extBut c o (fun q' => D.i12 (q' ▸ hc)) q
  have hTO₂ : IsPair h₂ TO a b := hs₂.extBut _ _ n3 (hs₁.extBut _ _ D.TOz hTO)
  refine wpAny_bind (wpAny_seqItems hTO₂ rfl ?_)
  refine wpAny_bind (wpAny_updateSeq_pair hTO₂ fun h₃ hTO₃ hs₃ => ?_)
  replace hTO₃ : IsPair h₃ TO x b := hTO₃
  refine wpAny_bind (wpAny_letGo (wpAny_pure ?_))
  refine wpAny_bind (wpAny_bind (wpAny_onRaise ?_))
  show wpAny _ _ (Builtin.SmallTypes.nextOf (.ref i2) >>= _) _ _ _
  have a3 : S1 (k + 1) h₃ := N1.frame _ _ _ a2 fun c hc o q => hs₃.extBut c o (fun q' => D.o1 (q' ▸ hc)) q
  have b3 : S2 k h₃ := N2.frame _ _ _ b2 fun c hc o q => hs₃.extBut c o (fun q' => D.o2 (q' ▸ hc)) q
  refine wpAny_bind (N2.item k _ y _ _ hy b3 fun h₄ b4 hs₄ => wpAny_pure ?_)
  have a4 : S1 (k + 1) h₄ := N1.frame _ _ _ a3 fun c hc o q => hs₄.extBut c o (fun q' => D.i21 (q' ▸ hc)) q
  have hTO₄ : IsPair h₄ TO x b := hs₄.extBut _ _ n4 hTO₃
  refine wpAny_bind (wpAny_seqItems hTO₄ rfl ?_)
  refine wpAny_bind (wpAny_updateSeq_pair hTO₄ fun h₅ hTO₅ hs₅ => ?_)
  replace hTO₅ : IsPair h₅ TO x y := hTO₅
  refine wpAny_bind (wpAny_letGo (wpAny_pure (wpAny_pure ?_)))
  refine wpAny_bind (wpAny_seqItems hTO₅ rfl ?_)
  refine wpAny_bind (wpAny_newTuple ?_)
  have a5 : S1 (k + 1) h₅ := N1.frame _ _ _ a4 fun c hc o q => hs₅.extBut c o (fun q' => D.o1 (q' ▸ hc)) q
  have b5 : S2 (k + 1) h₅ := N2.frame _ _ _ b4 fun c hc o q => hs₅.extBut c o (fun q' => D.o2 (q' ▸ hc)) q
  have hsz : h₅.objs.size = s.heap.objs.size := by rw [hs₅.1, hs₄.1, hs₃.1, hs₂.1, hs₁.1]
  have hz₅ : IsZip h₅ z TI TO .ellipsis := hs₅.extBut _ _ D.TOz.symm (hs₄.extBut _ _ n2 (hs₃.extBut _ _ D.TOz.symm (hs₂.extBut _ _ n1 hz₁)))
  have hk₅ : ∀ c o, c ≠ z → c ≠ TO → c ≠ i1 → c ≠ i2 → s.heap.get? c = some o → h₅.get? c = some o := fun c o c1 c2 c3 c4 e =>
    hs₅.extBut _ _ c2 (hs₄.extBut _ _ c4 (hs₃.extBut _ _ c2 (hs₂.extBut _ _ c3 (hs₁.extBut _ _ c1 e))))
  have hzlt : z < h₅.objs.size := Heap.lt_size hz₅
  show wpAny _ _ (Builtin.SmallTypes.ownedTupleHandOut (.ref z) (.ref h₅.objs.size) >>= _) _ _ _
  refine wpAny_bind ?_
  unfold Builtin.SmallTypes.ownedTupleHandOut
  have hz₆ : IsZip (h₅.push { cls := .type "tuple", data := .seq #[x, y] }) z TI TO .ellipsis := Heap.get?_push_of_some _ hz₅
  refine wpAny_bind (wpAny_setField_rec hz₆ (by simp) fun h₇ hz₇ hs₇ => ?_)
  replace hz₇ : IsZip h₇ z TI TO (rawInt h₅.objs.size) := hz₇
  refine wpAny_setField_rec hz₇ (by simp) fun h₈ hz₈ hs₈ => ?_
  replace hz₈ : IsZip h₈ z TI TO (rawInt h₅.objs.size) := hz₈
  have up : ∀ c o, c ≠ z → h₅.get? c = some o → h₈.get? c = some o := fun c o c1 e => hs₈.extBut _ _ c1 (hs₇.extBut _ _ c1 (Heap.get?_push_of_some _ e))
  have hT₈ : IsPair h₈ h₅.objs.size x y := hs₈.extBut _ _ (Nat.ne_of_gt hzlt) (hs₇.extBut _ _ (Nat.ne_of_gt hzlt) (Heap.get?_push_size _ rfl))
  rw [hsz] at hz₈ hT₈
  refine wpAny_pure ⟨_, rfl, ?_⟩
  show Q (.ref h₅.objs.size) _
  rw [hsz]
  exact hQ h₈ hz₈ (up _ _ D.TOz hTO₅) (N1.frame _ _ _ a5 fun c hc o q => up c o (fun q' => D.z1 (q' ▸ hc)) q) (N2.frame _ _ _ b5 fun c hc o q => up c o (fun q' => D.z2 (q' ▸ hc)) q) hT₈
    fun c o c1 c2 c3 c4 e => up c o c1 (hk₅ c o c1 c2 c3 c4 e)

theorem zip_end (N1 : Nxt prog w A i1 f1 xs S1) (N2 : Nxt prog w A i2 f2 ys S2) (D : ZOff z TI TO i1 i2 f1 f2) {a b : Value} {Q : Fin → Shared → Prop} {k : Nat}
    (hz : IsZip s.heap z TI TO .none) (hTI : IsPair s.heap TI (.ref i1) (.ref i2)) (hTO : IsPair s.heap TO a b) (st1 : S1 k s.heap) (st2 : S2 k s.heap) (hend : k = xs.size ∨ (k < xs.size ∧ k = ys.size))
    (hE : ∀ h' e, (∀ c o, c ≠ z → c ≠ TO → c ≠ i1 → c ≠ i2 → s.heap.get? c = some o → h'.get? c = some o) → (∃ o, h'.get? e = some o ∧ o.cls = .type "StopIteration") → E (.ref e) { s with heap := h' }) :
    wpAny (model prog w) A (Builtin.«zip.__next__» ⟨[.ref z], []⟩) Q E s := by
  have n1 : z ≠ i1 := fun q => D.z1 (q ▸ N1.self)
  have n2 : z ≠ i2 := fun q => D.z2 (q ▸ N2.self)
  have n3 : TO ≠ i1 := fun q => D.o1 (q ▸ N1.self)
  have n4 : TO ≠ i2 := fun q => D.o2 (q ▸ N2.self)
  show wpAny _ _ (field (.ref z) 2 >>= _) _ _ _
  refine wpAny_bind (wpAny_field hz rfl (x := .bool false) rfl ?_)
  show wpAny _ _ (field (.ref z) 3 >>= _) _ _ _
  refine wpAny_bind (wpAny_field hz rfl (x := .ref TI) rfl ?_)
  refine wpAny_bind (wpAny_seqItems hTI rfl ?_)
  show wpAny _ _ (Builtin.SmallTypes.ownedTupleIsFree (.ref z) >>= _) _ _ _
  refine wpAny_bind ?_
  unfold Builtin.SmallTypes.ownedTupleIsFree
  refine wpAny_bind (wpAny_field hz rfl (x := .none) rfl (wpAny_pure ?_))
  simp only [if_true]
  refine wpAny_bind (wpAny_rule ?_)
  refine wpAny_bind (wpAny_field hz rfl (x := .ref TO) rfl ?_)
  refine wpAny_bind (wpAny_setField_rec hz (by simp) fun h₁ hz₁ hs₁ => ?_)
  replace hz₁ : IsZip h₁ z TI TO .ellipsis := hz₁
  refine wpAny_bind ?_
  simp only [List.zipIdx_cons, List.zipIdx_nil, List.forIn_cons, List.forIn_nil]
  refine wpAny_bind (wpAny_bind (wpAny_onRaise ?_))
  show wpAny _ _ (Builtin.SmallTypes.nextOf (.ref i1) >>= _) _ _ _
  have a1 : S1 k h₁ := N1.frame _ _ _ st1 fun c hc o q => hs₁.extBut c o (fun q' => D.z1 (q' ▸ hc)) q
  have b1 : S2 k h₁ := N2.frame _ _ _ st2 fun c hc o q => hs₁.extBut c o (fun q' => D.z2 (q' ▸ hc)) q
  rcases hend with rfl | ⟨hlt, rfl⟩
  · refine wpAny_bind (N1.done _ _ _ a1 fun h₂ e hs₂ he => ?_)
    obtain ⟨oe, hoe, hce⟩ := he
    have hz₂ : IsZip h₂ z TI TO .ellipsis := hs₂ _ _ n1 hz₁
    have hez : e ≠ z := fun x => by subst x; rw [hz₂] at hoe; cases hoe; simp at hce
    refine wpAny_setField_rec hz₂ (by simp) fun h₃ _ hs₃ => hE h₃ e (fun c o c1 _ c3 _ x => hs₃.extBut _ _ c1 (hs₂ _ _ c3 (hs₁.extBut _ _ c1 x))) ⟨oe, hs₃.extBut _ _ hez hoe, hce⟩
  · have hx : xs[ys.size]? = some xs[ys.size] := Array.getElem?_eq_getElem hlt
    refine wpAny_bind (N1.item _ _ _ _ _ hx a1 fun h₂ a2 hs₂ => wpAny_pure ?_)
    have b2 : S2 ys.size h₂ := N2.frame _ _ _ b1 fun c hc o q => hs₂.extBut c o (fun q' => D.i12 (q' ▸ hc)) q
    have hTO₂ : IsPair h₂ TO a b := hs₂.extBut _ _ n3 (hs₁.extBut _ _ D.TOz hTO)
    refine wpAny_bind (wpAny_seqItems hTO₂ rfl ?_)
    refine wpAny_bind (wpAny_updateSeq_pair hTO₂ fun h₃ hTO₃ hs₃ => ?_)
    refine wpAny_bind (wpAny_letGo (wpAny_pure ?_))
    refine wpAny_bind (wpAny_bind (wpAny_onRaise ?_))
    show wpAny _ _ (Builtin.SmallTypes.nextOf (.ref i2) >>= _) _ _ _
    have b3 : S2 ys.size h₃ := N2.frame _ _ _ b2 fun c hc o q => hs₃.extBut c o (fun q' => D.o2 (q' ▸ hc)) q
    refine wpAny_bind (N2.done _ _ _ b3 fun h₄ e hs₄ he => ?_)
    obtain ⟨oe, hoe, hce⟩ := he
    have hz₄ : IsZip h₄ z TI TO .ellipsis := hs₄ _ _ n2 (hs₃.extBut _ _ D.TOz.symm (hs₂.extBut _ _ n1 hz₁))
    have hez : e ≠ z := fun x => by subst x; rw [hz₄] at hoe; cases hoe; simp at hce
    refine wpAny_setField_rec hz₄ (by simp) fun h₅ _ hs₅ => hE h₅ e (fun c o c1 c2 c3 c4 x => hs₅.extBut _ _ c1 (hs₄ _ _ c4 (hs₃.extBut _ _ c2 (hs₂.extBut _ _ c3 (hs₁.extBut _ _ c1 x))))) ⟨oe, hs₅.extBut _ _ hez hoe, hce⟩

theorem WalksT.zipN (N1 : Nxt prog w A.in1 i1 f1 xs S1) (N2 : Nxt prog w A.in1 i2 f2 ys S2) (D : ZOff z TI TO i1 i2 f1 f2) :
    WalksT prog w A z (z :: TI :: TO :: (f1 ++ f2)) [z, TO, i1, i2] (min xs.size ys.size) (fun k vals => ∃ x y, xs[k]? = some x ∧ ys[k]? = some y ∧ vals = #[x, y])
      (fun k h => IsZip h z TI TO .none ∧ IsPair h TI (.ref i1) (.ref i2) ∧ (∃ a b, IsPair h TO a b) ∧ S1 k h ∧ S2 k h)
      (fun k T h => IsZip h z TI TO (rawInt T) ∧ IsPair h TI (.ref i1) (.ref i2) ∧ (∃ a b, IsPair h TO a b) ∧ S1 (k + 1) h ∧ S2 (k + 1) h ∧ T ≠ z ∧ T ≠ TO ∧ T ≠ i1 ∧ T ≠ i2) where
  sub := fun c hc => by
    simp only [List.mem_cons, List.not_mem_nil, or_false] at hc
    rcases hc with rfl | rfl | rfl | rfl
    · simp
    · simp
    · simp [N1.self]
    · simp [N2.self]
  frame := fun k h h' ⟨hz, hTI, ⟨a, b, hTO⟩, q1, q2⟩ hk => ⟨hk z (by simp) _ hz, hk TI (by simp) _ hTI, ⟨a, b, hk TO (by simp) _ hTO⟩, N1.frame _ _ _ q1 fun c hc o e => hk c (by simp [hc]) o e, N2.frame _ _ _ q2 fun c hc o e => hk c (by simp [hc]) o e⟩
  item := fun k s Q E hi ⟨hz, hTI, ⟨a, b, hTO⟩, q1, q2⟩ hQ => by
    have hT : s.TypeIs (.ref z) "zip" := ⟨_, hz, rfl⟩
    have hx : xs[k]? = some xs[k] := Array.getElem?_eq_getElem (Nat.lt_of_lt_of_le hi (Nat.min_le_left ..))
    have hy : ys[k]? = some ys[k] := Array.getElem?_eq_getElem (Nat.lt_of_lt_of_le hi (Nat.min_le_right ..))
    obtain ⟨o1, e1⟩ := N1.there _ _ q1
    obtain ⟨o2, e2⟩ := N2.there _ _ q2
    have lt : ∀ {c o}, s.heap.get? c = some o → s.heap.objs.size ≠ c := fun e => Nat.ne_of_gt (Heap.lt_size e)
    unfold pyNext
    refine wpAny_bind (wpAny_attempt (wpAny_callSpecial?_slot (name := Str.ofString "__next__") hT F.slot_zip_next (wpAny_call_entry F.slot_zip_next hT F.entry_zip_next
      (zip_item N1 N2 D hz hTI hTO q1 q2 hx hy fun h' r1 r2 r3 r4 r5 hk => wpAny_pure ?_) (F.args_zip_next_1 _))))
    exact hQ s.heap.objs.size #[xs[k], ys[k]] h' s.toks ⟨_, _, hx, hy, rfl⟩ (Nat.le_refl _) ⟨_, r5, rfl, _, rfl⟩
      ⟨r1, hk _ _ D.TIz D.TITO D.TIi1 D.TIi2 hTI, ⟨_, _, r2⟩, r3, r4, lt hz, lt hTO, lt e1, lt e2⟩
      fun c o hc e => hk c o (fun x => hc (by simp [x])) (fun x => hc (by simp [x])) (fun x => hc (by simp [x])) (fun x => hc (by simp [x])) e
  go := fun elts k pos j T s Q E ⟨hz, hTI, ⟨a, b, hTO⟩, q1, q2, _⟩ hQ => by
    refine wpAny_letOwnedTupleGo_zip hz fun h' hz' hs' => hQ h' ⟨hz', hs'.extBut _ _ D.TIz hTI, ⟨a, b, hs'.extBut _ _ D.TOz hTO⟩, N1.frame _ _ _ q1 fun c hc o e => hs'.extBut c o (fun q' => D.z1 (q' ▸ hc)) e,
      N2.frame _ _ _ q2 fun c hc o e => hs'.extBut c o (fun q' => D.z2 (q' ▸ hc)) e⟩ fun c o hc e => hs'.extBut _ _ (fun x => hc (by simp [x])) e
  apart := fun j T h ⟨_, _, _, _, _, t1, t2, t3, t4⟩ hT => by
    simp only [List.mem_cons, List.not_mem_nil, or_false] at hT
    rcases hT with rfl | rfl | rfl | rfl
    · exact t1 rfl
    · exact t2 rfl
    · exact t3 rfl
    · exact t4 rfl
  done := fun s Q E ⟨hz, hTI, ⟨a, b, hTO⟩, q1, q2⟩ hQ => by
    have hT : s.TypeIs (.ref z) "zip" := ⟨_, hz, rfl⟩
    unfold pyNext
    refine wpAny_bind (wpAny_attempt (wpAny_callSpecial?_slot (name := Str.ofString "__next__") hT F.slot_zip_next
      (wpAny_call_entry F.slot_zip_next hT F.entry_zip_next (zip_end N1 N2 D hz hTI hTO q1 q2 (by omega) fun h' e hk he => ?_) (F.args_zip_next_1 _))))
    obtain ⟨o, ho, hc⟩ := he
    refine wpAny_bind (wpAny_isInstance (T := "StopIteration") (b := true) ⟨o, ho, hc⟩ isSubtype_stop ?_)
    exact wpAny_pure (hQ h' s.toks fun c o hc e => hk c o (fun x => hc (by simp [x])) (fun x => hc (by simp [x])) (fun x => hc (by simp [x])) (fun x => hc (by simp [x])) e)
  self := fun k s Q E ⟨hz, _⟩ hQ => wpAny_pyIter_zip hz hQ
end

/-! the iterators of zip and enumerate over tuples, made -/
section
open AutoSeq1 (wpAny_loadPart')
abbrev tIt (t : Addr) : Obj := { cls := .type "tuple_iterator", data := .fields #[.ref t, .int 0 0] }
abbrev zt1 (h : Heap) (a : Addr) : Heap := h.push (tIt a)
abbrev zt2 (h : Heap) (a b : Addr) : Heap := (zt1 h a).push (tIt b)
abbrev zt3 (h : Heap) (a b : Addr) : Heap := (zt2 h a b).push { cls := .type "tuple", data := .seq #[.ref h.objs.size, .ref (zt1 h a).objs.size] }
abbrev zt4 (h : Heap) (a b : Addr) : Heap := (zt3 h a b).push { cls := .type "tuple", data := .seq #[.none, .none] }
abbrev zt5 (h : Heap) (a b : Addr) : Heap := (zt4 h a b).push { cls := .type "zip", data := .fields #[.none, .bool false, .bool false, .ref (zt2 h a b).objs.size, .ref (zt3 h a b).objs.size] }
theorem meets_zip_tuples (t1 t2 : Addr) (xs ys : Array Value) :
    Meets (Builtin.«zip.__new__» ⟨[.type "zip", .ref t1, .ref t2], []⟩) (fun _ R s => s.heap.IsTuple t1 xs ∧ s.heap.IsTuple t2 ys ∧
      R (.ok (.ret (.ref (zt4 s.heap t1 t2).objs.size))) { s with heap := zt5 s.heap t1 t2 }) :=
  .of_wp fun prog w A R s h => by
    obtain ⟨hp, g, d, tk, os⟩ := s; obtain ⟨hl1, hl2, h⟩ := h
    have hsub := sub_zip
    have hL1 : Heap.IsTuple (Shared.heap ⟨hp, g, d, tk, os⟩) t1 xs := hl1
    have hL2 : Heap.IsTuple (Shared.heap ⟨hp.push (tIt t1), g, d, tk, os⟩) t2 ys := Heap.IsTuple.push hl2 _
    wp_walk using wpAny_pyIter_tuple hL1, wpAny_pyIter_tuple hL2
    exact ⟨_, rfl, h⟩
theorem call_zip_tuples {prog : Program} {w : World} {A : Around} {E : Value → Shared → Prop} {s : Shared} {t1 t2 : Addr} {xs ys : Array Value} {Q : Value → Shared → Prop} (h1 : s.heap.IsTuple t1 xs) (h2 : s.heap.IsTuple t2 ys)
    (h : ∀ h', IsZip h' (s.heap.objs.size + 4) (s.heap.objs.size + 2) (s.heap.objs.size + 3) .none → IsPair h' (s.heap.objs.size + 2) (.ref s.heap.objs.size) (.ref (s.heap.objs.size + 1)) →
      IsPair h' (s.heap.objs.size + 3) .none .none → h'.IsTupleIter s.heap.objs.size t1 0 → h'.IsTupleIter (s.heap.objs.size + 1) t2 0 → h'.objs.size = s.heap.objs.size + 5 →
      (∀ c o, s.heap.get? c = some o → h'.get? c = some o) → Q (.ref (s.heap.objs.size + 4)) { s with heap := h' }) :
    wpAny (model prog w) A (call (.type "zip") [.ref t1, .ref t2]) Q E s := by
  refine callType_new F.called_zip (by decide) (F.typeCall_zip_2 _ _) (F.newCall_zip_2 _ _) (fun obj => F.args_object_init_3 obj _ _) F.entry_zip_new (meets_zip_tuples t1 t2 xs ys) ⟨h1, h2, ?_⟩
  have z1 : (zt1 s.heap t1).objs.size = s.heap.objs.size + 1 := Heap.size_push ..
  have z2 : (zt2 s.heap t1 t2).objs.size = s.heap.objs.size + 2 := by rw [Heap.size_push, z1]
  have z3 : (zt3 s.heap t1 t2).objs.size = s.heap.objs.size + 3 := by rw [Heap.size_push, z2]
  have z4 : (zt4 s.heap t1 t2).objs.size = s.heap.objs.size + 4 := by rw [Heap.size_push, z3]
  have z5 : (zt5 s.heap t1 t2).objs.size = s.heap.objs.size + 5 := by rw [Heap.size_push, z4]
  have g5 : (zt5 s.heap t1 t2).get? (zt4 s.heap t1 t2).objs.size = some _ := Heap.get?_push_size _ rfl
  have g4 : (zt5 s.heap t1 t2).get? (zt3 s.heap t1 t2).objs.size = some _ := Heap.get?_push_of_some _ (Heap.get?_push_size _ rfl)
  have g3 : (zt5 s.heap t1 t2).get? (zt2 s.heap t1 t2).objs.size = some _ := Heap.get?_push_of_some _ (Heap.get?_push_of_some _ (Heap.get?_push_size _ rfl))
  have g2 : (zt5 s.heap t1 t2).get? (zt1 s.heap t1).objs.size = some _ := Heap.get?_push_of_some _ (Heap.get?_push_of_some _ (Heap.get?_push_of_some _ (Heap.get?_push_size _ rfl)))
  have g1 : (zt5 s.heap t1 t2).get? s.heap.objs.size = some _ := Heap.get?_push_of_some _ (Heap.get?_push_of_some _ (Heap.get?_push_of_some _ (Heap.get?_push_of_some _ (Heap.get?_push_size _ rfl))))
  show _ ∧ _
  rw [z2, z3, z4] at g5
  rw [z1, z2] at g3
  rw [z3] at g4
  rw [z1] at g2
  rw [z4]
  exact ⟨⟨_, g5, rfl⟩, h _ g5 g3 g4 ⟨_, g1, rfl, rfl⟩ ⟨_, g2, rfl, rfl⟩ z5 fun c o x =>
    Heap.get?_push_of_some _ (Heap.get?_push_of_some _ (Heap.get?_push_of_some _ (Heap.get?_push_of_some _ (Heap.get?_push_of_some _ x))))⟩

theorem meets_enum_tuple (t : Addr) (xs : Array Value) (n : Nat) :
    Meets (Builtin.«enumerate.__new__» ⟨[.type "enumerate", .ref t], []⟩) (fun _ R s => s.heap.get? t = some { cls := .type "tuple", dict := none, data := .seq xs n, slots := #[] } ∧
      R (.ok (.ret (.ref (s.heap.push (tIt t)).objs.size)))
        { s with heap := (s.heap.push (tIt t)).push { cls := .type "enumerate", data := .fields #[.none, .bool false, .ref s.heap.objs.size, rawInt 0, .none, .none] } }) :=
  .of_wp fun prog w A R s h => by
    obtain ⟨hp, g, d, tk, os⟩ := s; obtain ⟨hl, h⟩ := h
    have hsub := sub_enumerate
    have hL : Heap.IsTuple (Shared.heap ⟨hp, g, d, tk, os⟩) t xs := ⟨_, hl, rfl, n, rfl⟩
    wp_walk using wpAny_loadPart' hl
    refine wpAny_stack_any fun st => wpAny_pure ?_
    split
    · rename_i c _ _ _ _ _
      cases (c == Value.type "enumerate")
      · wp_walk using wpAny_loadPart' hl, wpAny_pyIter_tuple hL
        exact ⟨_, rfl, h⟩
      · wp_walk using wpAny_loadPart' hl, wpAny_pyIter_tuple hL
        exact ⟨_, rfl, h⟩
    · wp_walk using wpAny_loadPart' hl, wpAny_pyIter_tuple hL
      exact ⟨_, rfl, h⟩
theorem call_enum_tuple {prog : Program} {w : World} {A : Around} {E : Value → Shared → Prop} {s : Shared} {t : Addr} {xs : Array Value} {n : Nat} {Q : Value → Shared → Prop}
    (hl : s.heap.get? t = some { cls := .type "tuple", dict := none, data := .seq xs n, slots := #[] })
    (h : ∀ h', IsEnum h' (s.heap.objs.size + 1) s.heap.objs.size 0 .none → h'.IsTupleIter s.heap.objs.size t 0 → h'.objs.size = s.heap.objs.size + 2 →
      (∀ b o, s.heap.get? b = some o → h'.get? b = some o) → Q (.ref (s.heap.objs.size + 1)) { s with heap := h' }) :
    wpAny (model prog w) A (call (.type "enumerate") [.ref t]) Q E s := by
  refine callType_new F.called_enumerate (by decide) (F.typeCall_enumerate_1 _) (F.newCall_enumerate_1 _) (fun obj => F.args_object_init_2 obj _) F.entry_enumerate_new (meets_enum_tuple t xs n) ⟨hl, ?_⟩
  have hz : (s.heap.push (tIt t)).objs.size = s.heap.objs.size + 1 := Heap.size_push ..
  show _ ∧ _
  rw [hz]
  have he : IsEnum ((s.heap.push (tIt t)).push { cls := .type "enumerate", data := .fields #[.none, .bool false, .ref s.heap.objs.size, rawInt 0, .none, .none] }) (s.heap.objs.size + 1) s.heap.objs.size 0 .none := by
    have := Heap.get?_push_size (s.heap.push (tIt t)) (o := { cls := .type "enumerate", data := .fields #[.none, .bool false, .ref s.heap.objs.size, rawInt 0, .none, .none] }) rfl
    rw [hz] at this; exact this
  exact ⟨⟨_, he, rfl⟩, h _ he ⟨_, Heap.get?_push_of_some _ (Heap.get?_push_size _ rfl), rfl, rfl⟩ (by rw [Heap.size_push, hz]) fun b o x => Heap.get?_push_of_some _ (Heap.get?_push_of_some _ x)⟩
end
end Mine
end

section
set_option autoImplicit false
namespace Mine
open PySem

/-- a sequence or a record -/
def Solid (o : Obj) : Prop := (∃ xs n, o.data = .seq xs n) ∨ ∃ vs, o.data = .fields vs
/-- addresses that are none of the block's own places -/
def OffK (K : Fm) (X : List Addr) : Prop := ∀ a ∈ X, a ≠ K.env.locals ∧ (∀ y c, K.env.cells.lookup y = some c → a ≠ c) ∧ a ∉ K.fr
theorem offK_of {K : Fm} {rho : List (Str × Option D)} {W X : List Addr} {s : Shared} (R : Rel K rho W s) (h : ∀ a ∈ X, ∃ o, s.heap.get? a = some o ∧ Solid o) : OffK K X := fun a ha => by
  obtain ⟨o, e, sol⟩ := h a ha
  refine ⟨fun q => ?_, fun y c hc q => ?_, fun hm => ?_⟩
  · subst q
    obtain ⟨m, o', es, ep, e', hd, _⟩ := R.loc
    rw [e] at e'; cases e'
    rcases sol with ⟨_, _, q⟩ | ⟨_, q⟩ <;> (rw [hd] at q; cases q)
  · subst q
    obtain ⟨v, o', e', hd⟩ := R.cells y a hc
    rw [e] at e'; cases e'
    rcases sol with ⟨_, _, q⟩ | ⟨_, q⟩ <;> (rw [hd] at q; cases q)
  · obtain ⟨m, o', es, ep, e', hd, _⟩ := R.fdict a hm
    rw [e] at e'; cases e'
    rcases sol with ⟨_, _, q⟩ | ⟨_, q⟩ <;> (rw [hd] at q; cases q)

/-- things off the block's names turn -/
theorem Rel.turn {K : Fm} {rho : List (Str × Option D)} {W X : List Addr} {s s' : Shared} (R : Rel K rho W s) (hX : ∀ a ∈ X, a ∈ W) (off : OffK K X) (new : ∀ a ∈ X, K.s0.heap.get? a = none) (same : ∃ h' tk, s' = { s with heap := h', toks := tk })
    (keep : ∀ b o, b ∉ X → s.heap.get? b = some o → s'.heap.get? b = some o) (live : ∀ a ∈ X, ∃ o, s'.heap.get? a = some o) : Rel K rho W s' where
  ok := R.ok
  off := fun a ha => by
    by_cases hx : a ∈ X
    · exact live a hx
    · exact let ⟨o, e⟩ := R.off a ha; ⟨o, keep a o hx e⟩
  same := by
    obtain ⟨h, tk, e⟩ := R.same
    obtain ⟨h', tk', e'⟩ := same
    exact ⟨h', tk', by rw [e', e]⟩
  stays := fun b o e => keep b o (fun hx => by have := R.ok.base0 b o e; rw [new b hx] at this; cases this) (R.stays b o e)
  kept := fun b o e => by
    have hb : b ∉ X := fun hx => by rw [new b hx] at e; cases e
    rcases R.kept b o e with q | ⟨q1, q2, sl, q3⟩
    · exact .inl (keep b o hb q)
    · exact .inr ⟨q1, q2, sl, keep b _ hb q3⟩
  frames := by
    have : ∀ {l : List Env}, (∀ b ∈ l.filterMap (·.frame), b ∉ X) → s.heap.FunFrames K.G.base l → s'.heap.FunFrames K.G.base l := by
      intro l
      induction l with
      | nil => intro _ _; trivial
      | cons env r ih =>
        intro hl h
        obtain ⟨hk, ⟨L, o, hf, hn, ho, hd⟩, hr⟩ := h
        exact ⟨hk, ⟨L, o, hf, hn, keep L o (hl L (by simp [hf])) ho, hd⟩, ih (fun b hb => hl b (by
          obtain ⟨e', he', hfe⟩ := List.mem_filterMap.mp hb
          exact List.mem_filterMap.mpr ⟨e', List.mem_cons_of_mem _ he', hfe⟩)) hr⟩
    exact this (fun b hb hx => (off b hx).2.2 hb) R.frames
  fdict := fun b hb => let ⟨m, n⟩ := R.fdict b hb; ⟨m, n.at' fun o e => keep b o (fun hx => (off b hx).2.2 hb) e⟩
  loc := let ⟨m, n⟩ := R.loc; ⟨m, n.at' fun o e => keep _ o (fun hx => (off _ hx).1 rfl) e⟩
  cells := fun y c e => let ⟨v, o, ho, hd⟩ := R.cells y c e; ⟨v, o, keep c o (fun hx => (off c hx).2.1 y c e rfl) ho, hd⟩
  nodup := R.nodup
  plain := R.plain
  vars := fun y d hm => by
    obtain ⟨v, as, q1, q2⟩ := R.vars y d hm
    refine ⟨v, as, ?_, q2.ks fun b o hb e _ => keep b o (fun hx => hb (hX b hx)) e⟩
    rcases q1 with ⟨k, m, n, e⟩ | ⟨k, c, e, o, ho, hd⟩
    · exact .inl ⟨k, m, n.at' fun o e => keep _ o (fun hx => (off _ hx).1 rfl) e, e⟩
    · exact .inr ⟨k, c, e, o, keep c o (fun hx => (off c hx).2.1 y c e rfl) ho, hd⟩

/-- what is new may be told off -/
theorem Rel.ext {K : Fm} {rho : List (Str × Option D)} {W X : List Addr} {s s' : Shared} (R : Rel K rho W s) (st : Step K.fr s s') (new : ∀ a ∈ X, s.heap.get? a = none) (live : ∀ a ∈ X, ∃ o, s'.heap.get? a = some o) : Rel K rho (W ++ X) s' :=
  have R' := R.step st
  { R' with
    off := fun a ha => (List.mem_append.mp ha).elim (R'.off a) (live a)
    vars := fun y d hm => let ⟨v, as, q1, q2⟩ := R.vars y d hm; ⟨v, as, st.kf.holds q1, (q2.ext new).kf st.kf⟩ }
theorem Rel.sub {K : Fm} {rho : List (Str × Option D)} {W W' : List Addr} {s : Shared} (R : Rel K rho W s) (hs : ∀ a ∈ W', a ∈ W) : Rel K rho W' s :=
  { R with
    off := fun a ha => R.off a (hs a ha)
    vars := fun y d hm => let ⟨v, as, q1, q2⟩ := R.vars y d hm; ⟨v, as, q1, q2.sub hs⟩ }

/-! sources of a loop -/
structure Src (W : List Addr) (s s2 : Shared) (fp wr : List Addr) (St : Nat → Heap → Prop) : Prop where
  new : ∀ b ∈ wr, s.heap.get? b = none
  there : ∀ b ∈ fp, ∃ o, s2.heap.get? b = some o ∧ Solid o
  lists : ∀ b ∈ fp, ∀ vs n, s2.heap.get? b = some (listO vs n) → b ∉ W
  live : ∀ i h, St i h → ∀ b ∈ wr, ∃ o, h.get? b = some o
def Iter1 (K : Fm) (W : List Addr) (s : Shared) (ds : List D) (it : Value) (s2 : Shared) : Prop :=
  Step K.fr s s2 ∧ ∃ I fp wr Pv St, it = .ref I ∧ Walks K.G.prog K.G.w K.A I fp wr ds.length Pv St ∧ St 0 s2.heap ∧ Src W s s2 fp wr St ∧ ∀ i v, Pv i v → ∃ d as, ds[i]? = some d ∧ Rd (W ++ wr) s2.heap v d as
def Iter2 (K : Fm) (W : List Addr) (s : Shared) (ds : List (D × D)) (it : Value) (s2 : Shared) : Prop :=
  Step K.fr s s2 ∧ ∃ I fp wr Pt St Mid, it = .ref I ∧ WalksU K.G.prog K.G.w K.A I fp wr ds.length Pt St Mid ∧ St 0 s2.heap ∧ Src W s s2 fp wr St ∧
    ∀ i vals, Pt i vals → ∃ v1 v2 d1 d2 as bs, vals = #[v1, v2] ∧ ds[i]? = some (d1, d2) ∧ Rd (W ++ wr) s2.heap v1 d1 as ∧ Rd (W ++ wr) s2.heap v2 d2 bs
/-- the items of a for's source, one name a turn -/
def IT (K : Fm) (rho : List (Str × Option D)) (e : Expr) (ds : List D) : Prop :=
  ∀ W s, Rel K rho W s → ∀ E, wpAny K.M K.A (eval e K.env) (fun x s1 => wpAny K.M K.A (pyIter x) (Iter1 K W s ds) E s1) E s
/-- pairs of items, two names a turn -/
def IT2 (K : Fm) (rho : List (Str × Option D)) (e : Expr) (ds : List (D × D)) : Prop :=
  ∀ W s, Rel K rho W s → ∀ E, wpAny K.M K.A (eval e K.env) (fun x s1 => wpAny K.M K.A (pyIter x) (Iter2 K W s ds) E s1) E s

section
variable {K : Fm} {rho : List (Str × Option D)} {e e2 : Expr} {ds es : List D} {f g : Bool}
theorem fresh_push {s s1 : Shared} {fr : List Addr} (st : Step fr s s1) : s.heap.get? s1.heap.objs.size = none := st.kf.fresh (get?_size _)

theorem it_list (hh : K.A.handled = none) (h : EV K rho e (.list ds) f) : IT K rho e ds := fun W s R E =>
  h.bind R fun v s1 R1 g => by
    obtain ⟨st, as, q, _⟩ := g
    obtain ⟨l, vs, n, bs, rfl, _, ho, hr, hlW⟩ := q.list_inv
    have hlen : vs.toArray.size = ds.length := by rw [List.size_toArray]; exact hr.length
    refine wpAny_pyIter_list (isList_of ho) ⟨st.trans (step_push s1 _), s1.heap.objs.size, [s1.heap.objs.size, l], [s1.heap.objs.size], _, _, rfl, hlen ▸ Walks.list hh s1.heap.objs.size l (Nat.ne_of_lt (Heap.lt_size ho)) vs.toArray, ?_, ⟨?_, ?_, ?_, ?_⟩, ?_⟩
    · exact ⟨⟨_, Heap.get?_push_size _ rfl, rfl, rfl⟩, (isList_of ho).push _⟩
    · intro b hb; obtain rfl := List.mem_singleton.mp hb; exact fresh_push st
    · intro b hb
      simp only [List.mem_cons, List.not_mem_nil, or_false] at hb
      rcases hb with rfl | rfl
      · exact ⟨_, Heap.get?_push_size _ rfl, .inr ⟨_, rfl⟩⟩
      · exact ⟨_, Heap.get?_push_of_some _ ho, .inl ⟨_, _, rfl⟩⟩
    · intro b hb vs' n' eb
      simp only [List.mem_cons, List.not_mem_nil, or_false] at hb
      rcases hb with rfl | rfl
      · exact off_size R1.off
      · exact hlW
    · intro i h' st' b hb; obtain rfl := List.mem_singleton.mp hb; obtain ⟨⟨o, eo, _⟩, _⟩ := st'; exact ⟨o, eo⟩
    · intro i v hv
      obtain ⟨d, cs, e1, e2, _⟩ := hr.getv i v (by simpa using hv)
      refine ⟨d, cs, e1, (e2.ext (W' := [s1.heap.objs.size]) fun a ha => ?_).kf (kf_push (fr := []) _ _)⟩
      obtain rfl := List.mem_singleton.mp ha; exact get?_size _
theorem it_tuple (hh : K.A.handled = none) (h : EV K rho e (.tuple ds) f) : IT K rho e ds := fun W s R E =>
  h.bind R fun v s1 R1 g => by
    obtain ⟨st, as, q, _⟩ := g
    obtain ⟨l, vs, n, rfl, ho, hr, hlW⟩ := q.tuple_inv
    have hlen : vs.toArray.size = ds.length := by rw [List.size_toArray]; exact hr.length
    refine wpAny_pyIter_tuple (isTup_of ho) ⟨st.trans (step_push s1 _), s1.heap.objs.size, [s1.heap.objs.size, l], [s1.heap.objs.size], _, _, rfl, hlen ▸ Walks.tuple hh s1.heap.objs.size l (Nat.ne_of_lt (Heap.lt_size ho)) vs.toArray, ?_, ⟨?_, ?_, ?_, ?_⟩, ?_⟩
    · exact ⟨⟨_, Heap.get?_push_size _ rfl, rfl, rfl⟩, Heap.IsTuple.push (isTup_of ho) _⟩
    · intro b hb; obtain rfl := List.mem_singleton.mp hb; exact fresh_push st
    · intro b hb
      simp only [List.mem_cons, List.not_mem_nil, or_false] at hb
      rcases hb with rfl | rfl
      · exact ⟨_, Heap.get?_push_size _ rfl, .inr ⟨_, rfl⟩⟩
      · exact ⟨_, Heap.get?_push_of_some _ ho, .inl ⟨_, _, rfl⟩⟩
    · intro b hb vs' n' eb
      simp only [List.mem_cons, List.not_mem_nil, or_false] at hb
      rcases hb with rfl | rfl
      · exact off_size R1.off
      · exact hlW
    · intro i h' st' b hb; obtain rfl := List.mem_singleton.mp hb; obtain ⟨⟨o, eo, _⟩, _⟩ := st'; exact ⟨o, eo⟩
    · intro i v hv
      obtain ⟨d, cs, e1, e2, _⟩ := hr.getv i v (by simpa using hv)
      refine ⟨d, cs, e1, (e2.ext (W' := [s1.heap.objs.size]) fun a ha => ?_).kf (kf_push (fr := []) _ _)⟩
      obtain rfl := List.mem_singleton.mp ha; exact get?_size _
end
end Mine
end

section
set_option autoImplicit false
namespace Mine
open PySem

/-- what a name of a block bears: nothing known, a datum, a datum all its own -/
inductive Sl
  | no
  | fz (d : D)
  | ow (d : D)
def Sl.full : Sl → Option D
  | .no => none
  | .fz d => some d
  | .ow d => some d
def Sl.froz : Sl → Option D
  | .fz d => some d
  | _ => none
abbrev Sg := List (Str × Sl)
def fullOf (g : Sg) : List (Str × Option D) := g.map fun p => (p.1, p.2.full)
def frozOf (g : Sg) : List (Str × Option D) := g.map fun p => (p.1, p.2.froz)
theorem full_names (g : Sg) : (fullOf g).map (·.1) = g.map (·.1) := by simp [fullOf, Function.comp_def]
theorem froz_names (g : Sg) : (frozOf g).map (·.1) = g.map (·.1) := by simp [frozOf, Function.comp_def]

/-- the own data's lists, name by name -/
inductive SegG (env : Env) (W0 : List Addr) (h : Heap) : Sg → List Addr → Prop
  | nil : SegG env W0 h [] []
  | no {x g W} : SegG env W0 h g W → SegG env W0 h ((x, .no) :: g) W
  | fz {x d g W} : SegG env W0 h g W → SegG env W0 h ((x, .fz d) :: g) W
  | ow {x d v as g W} : Holds env h x v → Rd W0 h v d as → SegG env W0 h g W → SegG env W0 h ((x, .ow d) :: g) (as ++ W)

theorem SegG.step {env : Env} {W0 fr : List Addr} {h h' : Heap} (k : KF fr h h') {g : Sg} {W : List Addr} (x : SegG env W0 h g W) : SegG env W0 h' g W := by
  induction x with
  | nil => exact .nil
  | no _ ih => exact .no ih
  | fz _ ih => exact .fz ih
  | ow a b _ ih => exact .ow (k.holds a) (b.kf k) ih
theorem SegG.get {env : Env} {W0 : List Addr} {h : Heap} {g : Sg} {W : List Addr} (q : SegG env W0 h g W) {x : Str} {d : D} (hm : (x, Sl.ow d) ∈ g) : ∃ v as, Holds env h x v ∧ Rd W0 h v d as ∧ ∀ a ∈ as, a ∈ W := by
  induction q with
  | nil => cases hm
  | no _ ih => rcases List.mem_cons.mp hm with e | hm; · cases e
               · exact ih hm
  | fz _ ih => rcases List.mem_cons.mp hm with e | hm; · cases e
               · exact ih hm
  | @ow y d' v as g W a b _ ih =>
    rcases List.mem_cons.mp hm with e | hm
    · cases e; exact ⟨v, as, a, b, fun a ha => List.mem_append_left _ ha⟩
    · exact let ⟨v, bs, q1, q2, q3⟩ := ih hm; ⟨v, bs, q1, q2, fun a ha => List.mem_append_right _ (q3 a ha)⟩
theorem SegG.lists {env : Env} {W0 : List Addr} {h : Heap} {g : Sg} {W : List Addr} (q : SegG env W0 h g W) : ∀ a ∈ W, a ∉ W0 ∧ ∃ vs n, h.get? a = some (listO vs n) := by
  induction q with
  | nil => intro a ha; cases ha
  | no _ ih => exact ih
  | fz _ ih => exact ih
  | ow _ b _ ih => intro a ha; exact (List.mem_append.mp ha).elim (b.there a) (ih a)

/-- the block's names bear g -/
def OR (K : Fm) (W0 : List Addr) (g : Sg) (s : Shared) : Prop :=
  ∃ W1, Rel K (frozOf g) (W0 ++ W1) s ∧ SegG K.env W0 s.heap g W1 ∧ W1.Nodup ∧ ∀ a ∈ W1, K.s0.heap.get? a = none

theorem mem_full {g : Sg} {x : Str} {d : D} : (x, some d) ∈ fullOf g ↔ (x, Sl.fz d) ∈ g ∨ (x, Sl.ow d) ∈ g := by
  simp only [fullOf, List.mem_map, Prod.mk.injEq, Prod.exists]
  constructor
  · rintro ⟨y, sl, hm, rfl, e⟩
    cases sl with
    | no => cases e
    | fz d' => cases e; exact .inl hm
    | ow d' => cases e; exact .inr hm
  · rintro (hm | hm)
    · exact ⟨_, _, hm, rfl, rfl⟩
    · exact ⟨_, _, hm, rfl, rfl⟩
theorem mem_froz {g : Sg} {x : Str} {d : D} : (x, some d) ∈ frozOf g ↔ (x, Sl.fz d) ∈ g := by
  simp only [frozOf, List.mem_map, Prod.mk.injEq, Prod.exists]
  constructor
  · rintro ⟨y, sl, hm, rfl, e⟩
    cases sl with
    | no => cases e
    | fz d' => cases e; exact hm
    | ow d' => cases e
  · intro hm; exact ⟨_, _, hm, rfl, rfl⟩

section
variable {K : Fm} {W0 : List Addr} {g g' : Sg} {s s' : Shared}
theorem OR.full (r : OR K W0 g s) : Rel K (fullOf g) W0 s := by
  obtain ⟨W1, R, sg, _, _⟩ := r
  have R0 := R.sub (W' := W0) fun a ha => List.mem_append_left _ ha
  exact { R0 with
    nodup := by rw [full_names, ← froz_names]; exact R.nodup
    plain := fun x hx => R.plain x (by rw [froz_names, ← full_names]; exact hx)
    vars := fun x d hm => by
      rcases mem_full.mp hm with hm | hm
      · exact R0.vars x d (mem_froz.mpr hm)
      · exact let ⟨v, as, a, b, _⟩ := sg.get hm; ⟨v, as, a, b⟩ }
theorem OR.step (r : OR K W0 g s) (st : Step K.fr s s') : OR K W0 g s' :=
  let ⟨W1, R, sg, nd, nw⟩ := r; ⟨W1, R.step st, sg.step st.kf, nd, nw⟩
theorem OR.ok (r : OR K W0 g s) : K.Ok := let ⟨_, R, _⟩ := r; R.ok

theorem tup_ne_list {vs ws : List Value} {n m : Nat} (e : tupO vs n = listO ws m) : False := by
  have := congrArg Obj.cls e
  simp at this
mutual
/-- lists told off besides -/
theorem Rd.widen {W0 W1 : List Addr} {h : Heap} (hl : ∀ a ∈ W1, ∃ vs n, h.get? a = some (listO vs n)) : ∀ {v : Value} {d : D} {as : List Addr}, Rd W0 h v d as → (∀ a ∈ as, a ∉ W1) → Rd (W0 ++ W1) h v d as
  | _, _, _, .none, _ => .none
  | _, _, _, .bool b, _ => .bool b
  | _, _, _, .int i t, _ => .int i t
  | _, _, _, .str s t c, _ => .str s t c
  | _, _, _, .list h0 h1 h2, n => .list (fun hm => (List.mem_append.mp hm).elim h0 (n _ (.head _))) h1 (RdAll.widen hl h2 fun a ha => n a (.tail _ ha))
  | _, _, _, .tuple h0 h1 h2, n => .tuple (fun hm => (List.mem_append.mp hm).elim h0 fun hm => by obtain ⟨vs, n, e⟩ := hl _ hm; rw [h1] at e; exact tup_ne_list (Option.some.inj e)) h1 (RdAll.widen hl h2 n)
theorem RdAll.widen {W0 W1 : List Addr} {h : Heap} (hl : ∀ a ∈ W1, ∃ vs n, h.get? a = some (listO vs n)) : ∀ {vs : List Value} {ds : List D} {as : List Addr}, RdAll W0 h vs ds as → (∀ a ∈ as, a ∉ W1) → RdAll (W0 ++ W1) h vs ds as
  | _, _, _, .nil, _ => .nil
  | _, _, _, .cons h1 h2, n => .cons (Rd.widen hl h1 fun a ha => n a (List.mem_append_left _ ha)) (RdAll.widen hl h2 fun a ha => n a (List.mem_append_right _ ha))
end

/-- a name's slot is put in -/
inductive PutS : Sg → Str → Sl → Sg → Prop
  | here {x o d r} : PutS ((x, o) :: r) x d ((x, d) :: r)
  | there {x y o d r r'} : PutS r x d r' → PutS ((y, o) :: r) x d ((y, o) :: r')
theorem PutS.names {r r' : Sg} {x : Str} {d : Sl} (p : PutS r x d r') : r'.map (·.1) = r.map (·.1) := by
  induction p with
  | here => rfl
  | there _ ih => simp [ih]
theorem PutS.mem_name {r r' : Sg} {x : Str} {d : Sl} (p : PutS r x d r') : x ∈ r.map (·.1) := by
  induction p with
  | here => simp
  | there _ ih => simp only [List.map_cons, List.mem_cons]; exact .inr ih
theorem PutS.froz {g g' : Sg} {x : Str} {d : D} (p : PutS g x (.fz d) g') : Put (frozOf g) x d (frozOf g') := by
  generalize hs : Sl.fz d = sl at p
  induction p with
  | here => subst hs; exact .here
  | there _ ih => exact .there (ih hs)
end

/-- a name is stored: what stays -/
theorem store_core {K : Fm} {rho : List (Str × Option D)} {W : List Addr} {s : Shared} {x : Str} {v : Value} {Q : Unit → Shared → Prop} {E : Value → Shared → Prop}
    (R : Rel K rho W s) (hs : Storable K x)
    (k : ∀ s', (∃ h' tk, s' = { s with heap := h', toks := tk }) → (∀ W, KS W s.heap s'.heap) → Holds K.env s'.heap x v → (∀ y w, y ≠ x → Holds K.env s.heap y w → Holds K.env s'.heap y w) →
      (∀ rho', rho'.map (·.1) = rho.map (·.1) → (∀ y d, (y, some d) ∈ rho' → ∃ v as, Holds K.env s'.heap y v ∧ Rd W s'.heap v d as) → Rel K rho' W s') → Q () s') : wpAny K.M K.A (storeName K.env x v) Q E s := by
  obtain ⟨m, n⟩ := R.loc
  rcases hs with hl | ho
  · refine wpAny_storeName_local (R.ok.kindOf hl) n (fun h' n' sb => ?_) (by rw [R.ok.kindE]; rfl)
    obtain ⟨o, es, ep, ho, hd, _⟩ := id n
    obtain ⟨o', es', ep', ho', hd', _⟩ := id n'
    have e1 : ∀ vs, o.data ≠ .fields vs := fun vs e => by rw [hd] at e; cases e
    have e2 : ∀ xs n, o.data ≠ .seq xs n := fun xs n e => by rw [hd] at e; cases e
    have e3 : ∀ vs, o'.data ≠ .fields vs := fun vs e => by rw [hd'] at e; cases e
    have ks : ∀ W, KS W s.heap h' := fun W => .sameBut sb fun o2 e xs n => by rw [ho] at e; cases e; exact e2 xs n
    refine k _ ⟨h', _, rfl⟩ ks (.inl ⟨R.ok.kindOf hl, _, n', by simp⟩) (fun y w hne q1 => ?_) fun rho' hnm vars => ?_
    · rcases q1 with ⟨k1, m1, n1, e1⟩ | ⟨k1, c, e1, i1⟩
      · refine .inl ⟨k1, _, n', ?_⟩
        have hm1 : m1 = m := by
          obtain ⟨o1, es1, ep1, ho1, hd1, _, f1⟩ := n1
          obtain ⟨o2, es2, ep2, ho2, hd2, _, f2⟩ := n
          rw [ho1] at ho2; cases ho2
          rw [hd1] at hd2; cases hd2
          funext z; rw [← f1 z, ← f2 z]
        subst hm1
        rw [if_neg hne]; exact e1
      · exact .inr ⟨k1, c, e1, i1.sameBut sb (ns_ne_cell n i1)⟩
    · exact R.slot (.inl rfl) sb ⟨_, _, rfl⟩ ⟨o, ho, e1, e2⟩ ⟨o', ho', e3⟩ (fun _ _ => ⟨_, n'⟩) hnm ⟨_, n'⟩
        (fun y c e => let ⟨w, i⟩ := R.cells y c e; ⟨w, i.sameBut sb (ns_ne_cell n i)⟩) fun _ => vars
  · obtain ⟨hk, c, hc, hnew⟩ := R.ok.ownnew x ho
    obtain ⟨v0, i0⟩ := R.cells x c hc
    refine wpAny_storeName_cell R.ok.kindE (R.ok.kindOf hk) hc i0 fun h' i' sb => ?_
    obtain ⟨o, ho1, hd⟩ := id i0
    obtain ⟨o', ho', hd'⟩ := id i'
    have hcL := ns_ne_cell n i0
    have e1 : ∀ vs, o.data ≠ .fields vs := fun vs e => by rw [hd] at e; cases e
    have e2 : ∀ xs n, o.data ≠ .seq xs n := fun xs n e => by rw [hd] at e; cases e
    have e3 : ∀ vs, o'.data ≠ .fields vs := fun vs e => by rw [hd'] at e; cases e
    have ks : ∀ W, KS W s.heap h' := fun W => .sameBut sb fun o2 e xs n => by rw [ho1] at e; cases e; exact e2 xs n
    refine k _ ⟨h', _, rfl⟩ ks (.inr ⟨.inl (R.ok.kindOf hk), c, hc, i'⟩) (fun y w hne q1 => ?_) fun rho' hnm vars => ?_
    · rcases q1 with ⟨k1, m1, n1, e1⟩ | ⟨k1, c', e1, i1⟩
      · exact .inl ⟨k1, m1, n1.sameBut sb (Ne.symm hcL), e1⟩
      · exact .inr ⟨k1, c', e1, i1.sameBut sb fun e => hne (name_of_addr R.ok.apart (mem_of_lookup e1) (e ▸ mem_of_lookup hc))⟩
    · refine R.slot (.inr ⟨x, ho, hc⟩) sb ⟨_, _, rfl⟩ ⟨o, ho1, e1, e2⟩ ⟨o', ho', e3⟩ (fun m1 n1 => absurd rfl (ns_ne_cell n1 i0)) hnm ⟨m, n.sameBut sb (Ne.symm hcL)⟩
        (fun y c' e => ?_) fun _ => vars
      by_cases hcc : c' = c
      · subst hcc; exact ⟨_, i'⟩
      · exact let ⟨w, i⟩ := R.cells y c' e; ⟨w, i.sameBut sb hcc⟩

/-- the own data of the other names -/
theorem SegG.stored {env : Env} {W0 : List Addr} {h h' : Heap} {x : Str} (ks : KS W0 h h') (hh : ∀ y w, y ≠ x → Holds env h y w → Holds env h' y w) {g : Sg} {W : List Addr} (q : SegG env W0 h g W) (hn : x ∉ g.map (·.1)) : SegG env W0 h' g W := by
  induction q with
  | nil => exact .nil
  | no _ ih => exact .no (ih fun hm => hn (by simp only [List.map_cons, List.mem_cons]; exact .inr hm))
  | fz _ ih => exact .fz (ih fun hm => hn (by simp only [List.map_cons, List.mem_cons]; exact .inr hm))
  | ow a b _ ih =>
    simp only [List.map_cons, List.mem_cons, not_or] at hn
    exact .ow (hh _ _ (Ne.symm hn.1) a) (b.ks ks) (ih hn.2)
/-- a name's slot turns -/
theorem SegG.put {env : Env} {W0 : List Addr} {h h' : Heap} {x : Str} {sl : Sl} (ks : KS W0 h h') (hh : ∀ y w, y ≠ x → Holds env h y w → Holds env h' y w) {g g' : Sg} (p : PutS g x sl g') : ∀ {W : List Addr}, SegG env W0 h g W → (g.map (·.1)).Nodup → W.Nodup →
    (match sl with
      | .ow d => ∀ v as, Holds env h' x v → Rd W0 h' v d as → as.Nodup → (∀ a ∈ as, a ∉ W) → ∃ W', SegG env W0 h' g' W' ∧ W'.Nodup ∧ ∀ a ∈ W', a ∈ as ∨ a ∈ W
      | _ => ∃ W', SegG env W0 h' g' W' ∧ W'.Nodup ∧ ∀ a ∈ W', a ∈ W) := by
  have none_ : ∀ {W : List Addr}, (∃ W', SegG env W0 h' g' W' ∧ W'.Nodup ∧ ∀ a ∈ W', a ∈ W) → ∃ W', SegG env W0 h' g' W' ∧ W'.Nodup ∧ ∀ a ∈ W', a ∈ W := fun q => q
  clear none_
  induction p with
  | @here x o d r =>
    intro W q hn nd
    simp only [List.map_cons, List.nodup_cons] at hn
    have tail : ∃ W', SegG env W0 h' r W' ∧ W'.Nodup ∧ ∀ a ∈ W', a ∈ W := by
      cases q with
      | no q => exact ⟨_, q.stored ks hh hn.1, nd, fun _ h => h⟩
      | fz q => exact ⟨_, q.stored ks hh hn.1, nd, fun _ h => h⟩
      | ow _ _ q => exact ⟨_, q.stored ks hh hn.1, (List.nodup_append.mp nd).2.1, fun _ h => List.mem_append_right _ h⟩
    obtain ⟨W', q', nd', sub⟩ := tail
    cases d with
    | no => exact ⟨W', .no q', nd', sub⟩
    | fz d => exact ⟨W', .fz q', nd', sub⟩
    | ow d =>
      intro v as hv hr hnd hnew
      refine ⟨as ++ W', .ow hv hr q', List.nodup_append.mpr ⟨hnd, nd', fun a ha b hb e => ?_⟩, fun a ha => ?_⟩
      · subst e; exact hnew a ha (sub a hb)
      · exact (List.mem_append.mp ha).imp id (sub a)
  | @there x y o d r r' p ih =>
    intro W q hn nd
    simp only [List.map_cons, List.nodup_cons] at hn
    have hyx : y ≠ x := fun e => hn.1 (e ▸ p.mem_name)
    cases q with
    | no q =>
      have := ih hh q hn.2 nd
      cases d with
      | no => exact let ⟨W', a, b, c⟩ := this; ⟨W', .no a, b, c⟩
      | fz d => exact let ⟨W', a, b, c⟩ := this; ⟨W', .no a, b, c⟩
      | ow d => exact fun v as h1 h2 h3 h4 => let ⟨W', a, b, c⟩ := this v as h1 h2 h3 h4; ⟨W', .no a, b, c⟩
    | fz q =>
      have := ih hh q hn.2 nd
      cases d with
      | no => exact let ⟨W', a, b, c⟩ := this; ⟨W', .fz a, b, c⟩
      | fz d => exact let ⟨W', a, b, c⟩ := this; ⟨W', .fz a, b, c⟩
      | ow d => exact fun v as h1 h2 h3 h4 => let ⟨W', a, b, c⟩ := this v as h1 h2 h3 h4; ⟨W', .fz a, b, c⟩
    | @ow _ _ v0 as0 _ W0' hv0 hr0 q =>
      obtain ⟨n1, n2, n3⟩ := List.nodup_append.mp nd
      have := ih hh q hn.2 n2
      have add : ∀ {P : Addr → Prop} {W' : List Addr}, SegG env W0 h' r' W' → W'.Nodup → (∀ a ∈ W', a ∉ as0) → SegG env W0 h' ((y, .ow _) :: r') (as0 ++ W') ∧ (as0 ++ W').Nodup := fun a b c =>
        ⟨.ow (hh _ _ hyx hv0) (hr0.ks ks) a, List.nodup_append.mpr ⟨n1, b, fun a ha b hb e => c b hb (e ▸ ha)⟩⟩
      cases d with
      | no =>
        obtain ⟨W', a, b, c⟩ := this
        obtain ⟨a1, a2⟩ := add (P := fun _ => True) a b fun z hz hz' => n3 z hz' z (c z hz) rfl
        exact ⟨_, a1, a2, fun z hz => (List.mem_append.mp hz).elim (List.mem_append_left _) fun hz => List.mem_append_right _ (c z hz)⟩
      | fz d =>
        obtain ⟨W', a, b, c⟩ := this
        obtain ⟨a1, a2⟩ := add (P := fun _ => True) a b fun z hz hz' => n3 z hz' z (c z hz) rfl
        exact ⟨_, a1, a2, fun z hz => (List.mem_append.mp hz).elim (List.mem_append_left _) fun hz => List.mem_append_right _ (c z hz)⟩
      | ow d =>
        intro v as h1 h2 h3 h4
        obtain ⟨W', a, b, c⟩ := this v as h1 h2 h3 fun z hz hz' => h4 z hz (List.mem_append_right _ hz')
        obtain ⟨a1, a2⟩ := add (P := fun _ => True) a b fun z hz hz' => (c z hz).elim (fun q => h4 z q (List.mem_append_left _ hz')) fun q => n3 z hz' z q rfl
        exact ⟨_, a1, a2, fun z hz => (List.mem_append.mp hz).elim (fun q => .inr (List.mem_append_left _ q)) fun hz => (c z hz).imp id fun q => List.mem_append_right _ q⟩

/-! statements -/
/-- how a row of statements ends -/
inductive Out
  | next (g : Sg)
  | cont (g : Sg)
  | brk (g : Sg)
  | ret (d : D) (fr : Bool)
def Meets (K : Fm) (W0 : List Addr) : Out → Flow → Shared → Prop
  | .next g, .next, s => OR K W0 g s
  | .cont g, .cont, s => OR K W0 g s
  | .brk g, .brk, s => OR K W0 g s
  | .ret d fr, .ret v, s => Got K W0 K.s0 d fr v s
  | _, _, _ => False
def SX (K : Fm) (g : Sg) (body : List Stmt) (P : Out → Prop) : Prop :=
  ∀ W0 s, OR K W0 g s → ∀ E, wpAny K.M K.A (execs body K.env) (fun f s' => ∃ o, P o ∧ Meets K W0 o f s') E s
/-- the rest goes on behind -/
def Seq (K : Fm) (rest : List Stmt) (P : Out → Prop) : Out → Prop
  | .next g => SX K g rest P
  | o => P o

section
variable {K : Fm} {g g' : Sg} {rest body orelse : List Stmt} {P Q : Out → Prop} {pos pos' : Pos} {x : Str} {e : Expr} {d : D} {f b : Bool}
theorem SX.mono (h : SX K g body P) (k : ∀ o, P o → Q o) : SX K g body Q := fun W0 s r E => wpAny_mono (h W0 s r E) (fun f s' ⟨o, a, b⟩ => ⟨o, k o a, b⟩) fun _ _ q => q
theorem sx_nil (h : P (.next g)) : SX K g [] P := fun W0 s r E => wpAny_execs_nil ⟨_, h, r⟩
/-- one statement, then the rest -/
theorem sx_cons {st : Stmt} (h : ∀ W0 s, OR K W0 g s → ∀ E, wpAny K.M K.A (exec st K.env) (fun f s' => ∃ o, Seq K rest P o ∧ Meets K W0 o f s') E s) : SX K g (st :: rest) P := fun W0 s r E =>
  wpAny_execs_cons (wpAny_mono (h W0 s r E) (fun f s' ⟨o, a, b⟩ => by
    cases f with
    | next => cases o <;> first | exact a W0 s' b E | exact absurd b id
    | cont => cases o <;> first | exact ⟨_, a, b⟩ | exact absurd b id
    | brk => cases o <;> first | exact ⟨_, a, b⟩ | exact absurd b id
    | ret v => cases o <;> first | exact ⟨_, a, b⟩ | exact absurd b id) fun _ _ q => q)
theorem sx_if (t : TS K (fullOf g) e b) (h1 : b = true → SX K g body (Seq K rest P)) (h2 : b = false → SX K g orelse (Seq K rest P)) : SX K g (.If e body orelse pos :: rest) P := sx_cons fun W0 s r E =>
  wpAny_If (wpAny_mono (t W0 s r.full E) (fun b' s' q => by
    obtain ⟨st, rfl⟩ := q
    cases b' with
    | true => exact h1 rfl W0 s' (r.step st) E
    | false => exact h2 rfl W0 s' (r.step st) E) fun _ _ q => q)
theorem sx_pass (h : SX K g rest P) : SX K g (.Pass pos :: rest) P := sx_cons fun W0 s r E => by
  rw [exec_Pass]; exact wpAny_bind (wpAny_standAt (wpAny_pure ⟨.next g, h, r⟩))

theorem Got.from0 {W0 : List Addr} {s s' : Shared} {v : Value} (r : OR K W0 g s) (h : Got K W0 s d f v s') : Got K W0 K.s0 d f v s' := by
  obtain ⟨W1, R, _⟩ := r
  obtain ⟨st, as, q1, q2⟩ := h
  have R' := R.step st
  exact ⟨⟨R'.same, R'.kept⟩, as, q1, fun e => ⟨(q2 e).1, fun a ha => R.kept.fresh ((q2 e).2 a ha)⟩⟩
theorem sx_return (h : EV K (fullOf g) e d f) (k : P (.ret d f)) : SX K g (.Return (some e) pos :: rest) P := sx_cons fun W0 s r E =>
  wpAny_Return_some (wpAny_mono (h W0 s r.full E) (fun v s' q => ⟨.ret d f, k, q.from0 r⟩) fun _ _ q => q)
theorem sx_return_none (k : P (.ret .none true)) : SX K g (.Return none pos :: rest) P := sx_cons fun W0 s r E =>
  wpAny_Return_none ⟨.ret .none true, k, by
    obtain ⟨W1, R, _⟩ := r
    exact .flat ⟨R.same, R.kept⟩ .none _⟩
/-- an own datum is handed out -/
theorem SegG.get2 {env : Env} {W0 : List Addr} {h : Heap} {g : Sg} {W : List Addr} (q : SegG env W0 h g W) {x : Str} {d : D} (hm : (x, Sl.ow d) ∈ g) (nd : W.Nodup) : ∃ v as, Holds env h x v ∧ Rd W0 h v d as ∧ as.Nodup ∧ ∀ a ∈ as, a ∈ W := by
  induction q with
  | nil => cases hm
  | no _ ih => rcases List.mem_cons.mp hm with e | hm; · cases e
               · exact ih hm nd
  | fz _ ih => rcases List.mem_cons.mp hm with e | hm; · cases e
               · exact ih hm nd
  | @ow y d' v as g W a b _ ih =>
    rcases List.mem_cons.mp hm with e | hm
    · cases e; exact ⟨v, as, a, b, (List.nodup_append.mp nd).1, fun a ha => List.mem_append_left _ ha⟩
    · exact let ⟨v, bs, q1, q2, q3, q4⟩ := ih hm (List.nodup_append.mp nd).2.1; ⟨v, bs, q1, q2, q3, fun a ha => List.mem_append_right _ (q4 a ha)⟩
theorem sx_return_own (hm : (x, Sl.ow d) ∈ g) (k : P (.ret d true)) : SX K g (.Return (some (.Name x pos')) pos :: rest) P := sx_cons fun W0 s r E => by
  have R0 := r.full
  obtain ⟨W1, R, sg, nd, nw⟩ := r
  obtain ⟨v, as, q1, q2, q3, q4⟩ := sg.get2 hm nd
  have hn := R0.plain x (List.mem_map.mpr ⟨_, mem_full.mpr (.inr hm), rfl⟩)
  simp only [plainName, Bool.and_eq_true, Bool.not_eq_true'] at hn
  exact wpAny_Return_some (wpAny_Name (load_holds R.ok.kindE q1 ⟨.ret d true, k, ⟨R.same, R.kept⟩, as, q2, fun _ => ⟨q3, fun a ha => nw a (q4 a ha)⟩⟩ hn.1) hn.2)

/-- no value that the machine swaps in -/
def noComp : Expr → Bool
  | .ListComp .. => false
  | .SetComp .. => false
  | .DictComp .. => false
  | _ => true
theorem swaps_no {t : Option Expr} {n : Nat} {env : Env} (h : noComp e = true) : swapsWith e t n env = pure false := by
  cases e <;> first | rfl | cases h

theorem OR.nodup {W0 : List Addr} {s : Shared} (r : OR K W0 g s) : (g.map (·.1)).Nodup := by
  obtain ⟨_, R, _⟩ := r
  have := R.nodup
  rwa [froz_names] at this
/-- a name is stored: what it holds from now on -/
theorem store_sg {W0 W1 : List Addr} {s : Shared} {v : Value} {sl : Sl} {Q : Unit → Shared → Prop} {E : Value → Shared → Prop} (R : Rel K (frozOf g) (W0 ++ W1) s) (sg : SegG K.env W0 s.heap g W1) (nd : W1.Nodup) (nw : ∀ a ∈ W1, K.s0.heap.get? a = none)
    (p : PutS g x sl g') (hs : Storable K x) (as : List Addr)
    (hv : match sl with
      | .no => True
      | .fz d => Rd (W0 ++ W1) s.heap v d as
      | .ow d => Rd W0 s.heap v d as ∧ as.Nodup ∧ (∀ a ∈ as, K.s0.heap.get? a = none) ∧ (∀ a ∈ as, a ∉ W1) ∧ Rel K (frozOf g) ((W0 ++ W1) ++ as) s)
    (k : ∀ s', OR K W0 g' s' → Q () s') : wpAny K.M K.A (storeName K.env x v) Q E s := by
  have hnd := OR.nodup ⟨W1, R, sg, nd, nw⟩
  refine store_core R hs fun s' same ks hx hy mk => k s' ?_
  have hnm : (frozOf g').map (·.1) = (frozOf g).map (·.1) := by rw [froz_names, froz_names, p.names]
  have hput : ∀ {y : Str} {sl' : Sl}, (y, sl') ∈ g' → (y = x ∧ sl' = sl) ∨ (y ≠ x ∧ (y, sl') ∈ g) := by
    intro y sl' hm
    clear hv mk hnm sg R k ks hx hy
    induction p with
    | @here x o d r =>
      simp only [List.map_cons, List.nodup_cons] at hnd
      rcases List.mem_cons.mp hm with e | hm
      · cases e; exact .inl ⟨rfl, rfl⟩
      · exact .inr ⟨fun e => hnd.1 (e ▸ List.mem_map.mpr ⟨_, hm, rfl⟩), .tail _ hm⟩
    | @there x z o d r r' p ih =>
      simp only [List.map_cons, List.nodup_cons] at hnd
      rcases List.mem_cons.mp hm with e | hm
      · cases e; exact .inr ⟨fun e => hnd.1 (e ▸ p.mem_name), .head _⟩
      · rcases ih hs hnd.2 hm with q | ⟨q1, q2⟩
        · exact .inl q
        · exact .inr ⟨q1, .tail _ q2⟩
  have hl : ∀ a ∈ W1, ∃ vs n, s.heap.get? a = some (listO vs n) := fun a ha => (sg.lists a ha).2
  have old : ∀ y d', y ≠ x → (y, Sl.fz d') ∈ g → ∃ v as, Holds K.env s'.heap y v ∧ Rd (W0 ++ W1) s'.heap v d' as := fun y d' hne hm => by
    obtain ⟨w, bs, q1, q2⟩ := R.vars y d' (mem_froz.mpr hm)
    exact ⟨w, bs, hy y w hne q1, q2.ks (ks _)⟩
  cases sl with
  | no =>
    obtain ⟨W', a1, a2, a3⟩ := SegG.put (sl := .no) (ks W0) hy p sg hnd nd
    have R' := mk (frozOf g') hnm fun y d' hm => by
      rcases hput (mem_froz.mp hm) with ⟨_, e⟩ | ⟨hne, hm⟩
      · cases e
      · exact old y d' hne hm
    exact ⟨W', R'.sub fun a ha => (List.mem_append.mp ha).elim (List.mem_append_left _) fun h => List.mem_append_right _ (a3 a h), a1, a2, fun a ha => nw a (a3 a ha)⟩
  | fz d =>
    obtain ⟨W', a1, a2, a3⟩ := SegG.put (sl := .fz d) (ks W0) hy p sg hnd nd
    have R' := mk (frozOf g') hnm fun y d' hm => by
      rcases hput (mem_froz.mp hm) with ⟨rfl, e⟩ | ⟨hne, hm⟩
      · cases e; exact ⟨v, as, hx, hv.ks (ks _)⟩
      · exact old y d' hne hm
    exact ⟨W', R'.sub fun a ha => (List.mem_append.mp ha).elim (List.mem_append_left _) fun h => List.mem_append_right _ (a3 a h), a1, a2, fun a ha => nw a (a3 a ha)⟩
  | ow d =>
    obtain ⟨h1, h2, h3, h5, h6⟩ := hv
    obtain ⟨W', a1, a2, a3⟩ := SegG.put (sl := .ow d) (ks W0) hy p sg hnd nd v as hx (h1.ks (ks W0)) h2 h5
    have R' := mk (frozOf g') hnm fun y d' hm => by
      rcases hput (mem_froz.mp hm) with ⟨_, e⟩ | ⟨hne, hm⟩
      · cases e
      · exact old y d' hne hm
    refine ⟨W', { R' with off := fun a ha => ?_, vars := fun y d' hm => ?_ }, a1, a2, fun a ha => (a3 a ha).elim (h3 a) (nw a)⟩
    · rcases List.mem_append.mp ha with ha | ha
      · exact R'.off a (List.mem_append_left _ ha)
      · exact let ⟨_, vs, n, e⟩ := a1.lists a ha; ⟨_, e⟩
    · rcases hput (mem_froz.mp hm) with ⟨_, e⟩ | ⟨hne, hm⟩
      · cases e
      · obtain ⟨w, bs, q1, q2⟩ := h6.vars y d' (mem_froz.mpr hm)
        refine ⟨w, bs, hy y w hne q1, (q2.ks (ks _)).sub fun a ha => ?_⟩
        rcases List.mem_append.mp ha with ha | ha
        · exact List.mem_append_left _ (List.mem_append_left _ ha)
        · exact (a3 a ha).elim (List.mem_append_right _) fun q => List.mem_append_left _ (List.mem_append_right _ q)

theorem exec_name {W0 : List Addr} {s : Shared} {E : Value → Shared → Prop} {Q : Flow → Shared → Prop} (hc : noComp e = true)
    (h : wpAny K.M K.A (eval e K.env) (fun v s1 => wpAny K.M K.A (storeName K.env x v) (fun _ s2 => Q .next s2) E s1) E s) : wpAny K.M K.A (exec (.Assign [.Name x pos'] e pos) K.env) Q E s := by
  rw [exec_Assign_Name _ _ _ _ _ (swaps_no hc)]
  refine wpAny_bind (wpAny_standAt (wpAny_bind (wpAny_mono h (fun v s1 h1 => wpAny_bind (wpAny_standAt (wpAny_bind (wpAny_bindName ?_)))) fun _ _ q => q)))
  exact wpAny_mono h1 (fun _ s2 h2 => wpAny_pure h2) fun _ _ q => q

/-- a new datum, or one without lists, is stored -/
theorem sx_assign (h : EV K (fullOf g) e d true) (p : PutS g x (.fz d) g') (hs : Storable K x) (hc : noComp e = true) (k : SX K g' rest P) : SX K g (.Assign [.Name x pos'] e pos :: rest) P := sx_cons fun W0 s r E => by
  refine exec_name (W0 := W0) hc (wpAny_mono (h W0 s r.full E) (fun v s1 q => ?_) fun _ _ q => q)
  obtain ⟨st, as, q1, q2⟩ := q
  obtain ⟨W1, R, sg, nd, nw⟩ := r
  have sg1 := sg.step st.kf
  refine store_sg (R.step st) sg1 nd nw p hs as (q1.widen (fun a ha => (sg1.lists a ha).2) fun a ha hm => ?_) fun s2 r2 => ⟨.next g', k, r2⟩
  obtain ⟨_, _, _, e⟩ := sg.lists a hm
  rw [(q2 rfl).2 a ha] at e; cases e
/-- a datum that is shared is stored -/
theorem sx_assign_alias (h : EV K (frozOf g) e d f) (p : PutS g x (.fz d) g') (hs : Storable K x) (hc : noComp e = true) (k : SX K g' rest P) : SX K g (.Assign [.Name x pos'] e pos :: rest) P := sx_cons fun W0 s r E => by
  obtain ⟨W1, R, sg, nd, nw⟩ := r
  refine exec_name (W0 := W0) hc (wpAny_mono (h (W0 ++ W1) s R E) (fun v s1 q => ?_) fun _ _ q => q)
  obtain ⟨st, as, q1, q2⟩ := q
  exact store_sg (R.step st) (sg.step st.kf) nd nw p hs as q1 fun s2 r2 => ⟨.next g', k, r2⟩
/-- a new datum is stored, to be changed later -/
theorem sx_assign_own (h : EV K (fullOf g) e d true) (p : PutS g x (.ow d) g') (hs : Storable K x) (hc : noComp e = true) (k : SX K g' rest P) : SX K g (.Assign [.Name x pos'] e pos :: rest) P := sx_cons fun W0 s r E => by
  refine exec_name (W0 := W0) hc (wpAny_mono (h W0 s r.full E) (fun v s1 q => ?_) fun _ _ q => q)
  obtain ⟨st, as, q1, q2⟩ := q
  obtain ⟨q2, q3⟩ := q2 rfl
  obtain ⟨W1, R, sg, nd, nw⟩ := r
  have sg1 := sg.step st.kf
  refine store_sg (R.step st) sg1 nd nw p hs as ⟨q1, q2, fun a ha => R.kept.fresh (q3 a ha), fun a ha hm => ?_, R.ext st q3 fun a ha => let ⟨_, vs, n, e⟩ := q1.there a ha; ⟨_, e⟩⟩ fun s2 r2 => ⟨.next g', k, r2⟩
  obtain ⟨_, _, _, e⟩ := sg.lists a hm
  rw [q3 a ha] at e; cases e

/-! while -/
theorem sx_while (I : Nat → Sg → Prop) (turn : ∀ n g, I n g → ∃ b, TS K (fullOf g) e b ∧
      (b = true → SX K g body fun o => match o with
        | .next g' => ∃ m, m < n ∧ I m g'
        | .cont g' => ∃ m, m < n ∧ I m g'
        | .brk g' => SX K g' rest P
        | .ret d f => P (.ret d f)) ∧ (b = false → SX K g rest P)) (n : Nat) (h : I n g) : SX K g (.While e body [] pos :: rest) P := sx_cons fun W0 s r E => by
  refine wpAny_While (codeAny_whileLoop (fun n s => ∃ g, I n g ∧ OR K W0 g s) (fun n s hI => ?_) n ⟨g, h, r⟩)
  obtain ⟨g, hI, r⟩ := hI
  obtain ⟨b, t, h1, h2⟩ := turn n g hI
  refine wpAny_mono (t W0 s r.full _) (fun b' s' q => ?_) fun _ _ q => q
  obtain ⟨st, rfl⟩ := q
  cases b' with
  | false =>
    simp only [Bool.false_eq_true, if_false]
    exact wpAny_execs_nil ⟨.next g, h2 rfl, r.step st⟩
  | true =>
    simp only [if_true]
    refine wpAny_mono (h1 rfl W0 s' (r.step st) _) (fun f s3 hq => ?_) fun _ _ q => q
    obtain ⟨o, a, b⟩ := hq
    cases f with
    | next => cases o <;> first | exact let ⟨m, hm, hI⟩ := a; ⟨m, hm, _, hI, b⟩ | exact absurd b id
    | cont => cases o <;> first | exact let ⟨m, hm, hI⟩ := a; ⟨m, hm, _, hI, b⟩ | exact absurd b id
    | brk => cases o <;> first | exact ⟨.next _, a, b⟩ | exact absurd b id
    | ret v => cases o <;> first | exact ⟨.ret _ _, a, b⟩ | exact absurd b id
end
end Mine
end

section
set_option autoImplicit false
namespace Mine
open PySem

def frs (envs : List Env) : List Addr := envs.filterMap (·.frame)
/-- where a call stands -/
structure Site (G : Gx) (A : Around) (envs : List Env) (n : Nat) (s : Shared) : Prop where
  frames : A.frames = some envs
  handled : A.handled = none
  depth : A.depth + n ≤ 800
  units : A.units + 16 * n ≤ 9000
  ff : s.heap.FunFrames G.base envs
  fdict : ∀ b ∈ frs envs, ∃ m, s.heap.Ns b m
  stays : G.base.StaysIn s.heap
/-- the def x, called upon ds, ends in d; n: how deep it goes -/
def Calls (G : Gx) (n : Nat) (x : Str) (ds : List D) (d : D) (fr : Bool) : Prop :=
  ∃ a o fd, G.mg x = some (.ref a) ∧ G.base.get? a = some o ∧ o.data = .func fd ∧ ∀ A envs W s vs as E, Site G A envs n s → (∀ b ∈ W, ∃ o, s.heap.get? b = some o) → RdAll W s.heap vs ds as →
    wpAny G.M A (call (.ref a) vs) (fun v s' => Step (frs envs) s s' ∧ ∃ bs, Rd W s'.heap v d bs ∧ (fr = true → bs.Nodup ∧ ∀ a ∈ bs, s.heap.get? a = none)) E s

theorem Calls.more {G : Gx} {n m : Nat} {x : Str} {ds : List D} {d : D} {fr : Bool} (h : Calls G n x ds d fr) (hm : n ≤ m) : Calls G m x ds d fr := by
  obtain ⟨a, o, fd, h1, h2, h3, h4⟩ := h
  exact ⟨a, o, fd, h1, h2, h3, fun A envs W s vs as E st => h4 A envs W s vs as E { st with depth := by have := st.depth; omega, units := by have := st.units; omega }⟩

theorem Rel.site {K : Fm} {rho : List (Str × Option D)} {W : List Addr} {s : Shared} (R : Rel K rho W s) (hh : K.A.handled = none) {n : Nat} (hn : n ≤ K.room) : Site K.G K.A K.envs n s :=
  ⟨R.ok.frames, hh, by have := R.ok.depth; omega, by have := R.ok.units; omega, R.frames, R.fdict, R.stays⟩

theorem callWith_def {M : Model} {A : Around} {E : Value → Shared → Prop} {s : Shared} {env : Env} {pos : Pos} {a : Addr} {o : Obj} {fd : FuncData} {e : Expr} {es : List Expr} {Q : Value → Shared → Prop} (hn : noStar e = true) (hd : o.data = .func fd)
    (h : wpAny M A (spliced (backTo pos (starEach (e :: es) env))) (fun vs s₁ => s₁.heap.get? a = some o ∧ wpAny M A (call (.ref a) vs) Q E s₁) E s) :
    wpAny M A (callWith pos (.ref a) [] (backTo pos (starEach (e :: es) env)) []) Q E s := by
  refine Calls.callWith_function (o := o) (fd := fd) ?_
  rw [starEach_cons hn] at h ⊢
  exact Calls.evalArgs_plain (wpAny_mono h (fun vs s₁ q => ⟨⟨q.1, hd⟩, q.2⟩) fun _ _ q => q)

/-- the text's own names -/
def gnameOk (x : Str) : Bool := !(x == ("__debug__" : Str))
theorem ev_call {K : Fm} {rho : List (Str × Option D)} {x : Str} {np pos : Pos} {e : Expr} {es : List Expr} {ds : List D} {d : D} {f fr : Bool} {n : Nat} (hh : K.A.handled = none) (hx : K.sc.names.lookup x = some .globalImplicit) (hxd : gnameOk x = true)
    (h : EVs K rho (e :: es) ds f) (hn : noStar e = true) (c : Calls K.G n x ds d fr) (hr : n ≤ K.room) : EV K rho (.Call (.Name x np) (e :: es) [] pos) d fr := fun W s R E => by
  obtain ⟨a, o, fd, h1, h2, h3, h4⟩ := c
  rw [eval_Call_plain rfl]
  refine wpAny_bind (Calls.Name_function_global R.ok.kindE (R.ok.kindOf hx) ?_ (by simpa [gnameOk] using hxd))
  refine Calls.loadGlobal_global (mg := K.G.mg) (by rw [R.ok.globals]; exact R.ok.gl.g.keeps R.stays) h1 ?_
  refine callWith_def hn h3 (wpAny_mono (h W s pos R E) (fun vs s1 g => ?_) fun _ _ x => x)
  obtain ⟨st, as, q1, q3⟩ := g
  have R1 := R.step st
  refine ⟨R1.stays _ _ h2, wpAny_mono (h4 K.A K.envs W s1 vs as E (R1.site hh hr) R1.off q1) (fun v s2 g2 => ?_) fun _ _ x => x⟩
  obtain ⟨st2, bs, r1, r3⟩ := g2
  exact ⟨st.trans st2, bs, r1, fun e => ⟨(r3 e).1, fun b hb' => st.kf.fresh ((r3 e).2 b hb')⟩⟩

/-! a def's own body -/
theorem bindL_off {k : Str → Option NameKind} {x : Str} : ∀ {b : List (Str × Value)} {m : Str → Option Value}, x ∉ b.map (·.1) → bindL k b m x = m x
  | [], _, _ => rfl
  | (n, v) :: r, m, h => by
    simp only [List.map_cons, List.mem_cons, not_or] at h
    unfold bindL
    rw [bindL_off h.2]
    split
    · exact if_neg h.1
    · rfl
theorem bindC_off {k : Str → Option NameKind} {x : Str} : ∀ {b : List (Str × Value)} {m : Str → Option Value}, x ∉ b.map (·.1) → bindC k b m x = m x
  | [], _, _ => rfl
  | (n, v) :: r, m, h => by
    simp only [List.map_cons, List.mem_cons, not_or] at h
    unfold bindC
    rw [bindC_off h.2]
    split
    · rfl
    · exact if_neg h.1
theorem bindL_at {k : Str → Option NameKind} {x : Str} {v : Value} : ∀ {b : List (Str × Value)} {m : Str → Option Value}, (b.map (·.1)).Nodup → (x, v) ∈ b → k x = some .local → bindL k b m x = some v
  | (n, w) :: r, m, hn, hm, hk => by
    simp only [List.map_cons, List.nodup_cons] at hn
    unfold bindL
    rcases List.mem_cons.mp hm with e | hm
    · cases e
      rw [bindL_off hn.1, if_pos hk]
      exact if_pos rfl
    · exact bindL_at hn.2 hm hk
theorem bindC_at {k : Str → Option NameKind} {x : Str} {v : Value} : ∀ {b : List (Str × Value)} {m : Str → Option Value}, (b.map (·.1)).Nodup → (x, v) ∈ b → k x ≠ some .local → bindC k b m x = some v
  | (n, w) :: r, m, hn, hm, hk => by
    simp only [List.map_cons, List.nodup_cons] at hn
    unfold bindC
    rcases List.mem_cons.mp hm with e | hm
    · cases e
      rw [bindC_off hn.1, if_neg hk]
      exact if_pos rfl
    · exact bindC_at hn.2 hm hk
theorem cells_some {x : Str} : ∀ (names : List (Str × NameKind)) (n : Nat) (acc : List (Str × Addr)), names.lookup x = some .cell ∨ (acc.lookup x).isSome = true → ((cellsFrom n names acc).lookup x).isSome = true
  | [], _, _, h => h.elim (fun e => by cases e) id
  | (y, k) :: r, n, acc, h => by
    unfold cellsFrom
    by_cases hk : (k == .cell) = true
    · rw [if_pos hk]
      refine cells_some r (n + 1) ((y, n) :: acc) ?_
      by_cases hy : (x == y) = true
      · exact .inr (by rw [List.lookup_cons, hy]; rfl)
      · refine h.imp (fun e => ?_) fun e => ?_
        · rw [List.lookup_cons] at e; simpa only [hy] using e
        · rw [List.lookup_cons]; simpa only [hy] using e
    · rw [if_neg hk]
      refine cells_some r n acc ?_
      by_cases hy : (x == y) = true
      · refine .inr (h.elim (fun e => ?_) id)
        rw [List.lookup_cons, hy] at e
        exact absurd (by rw [Option.some.inj e]; rfl) hk
      · refine h.imp (fun e => ?_) id
        rw [List.lookup_cons] at e; simpa only [hy] using e

/-- the names at a def's start -/
def gStart (ps : List Str) (ds : List D) (rest : List Str) : Sg := (ps.zip ds).map (fun p => (p.1, Sl.fz p.2)) ++ rest.map fun x => (x, Sl.no)
theorem gStart_names {ps : List Str} {ds : List D} {rest : List Str} (h : ps.length = ds.length) : (gStart ps ds rest).map (·.1) = ps ++ rest := by
  simp only [gStart, List.map_append, List.map_map, Function.comp_def, List.map_id']
  rw [show (fun (x : Str × D) => x.1) = Prod.fst from rfl, List.map_fst_zip (by omega)]
theorem seg_rest {env : Env} {W0 : List Addr} {h : Heap} {rest : List Str} : SegG env W0 h (rest.map fun x => (x, Sl.no)) [] := by
  induction rest with
  | nil => exact .nil
  | cons x r ih => exact .no ih
theorem seg_fz {env : Env} {W0 : List Addr} {h : Heap} {g : Sg} (q : SegG env W0 h g []) : ∀ {l : List (Str × D)}, SegG env W0 h (l.map (fun p => (p.1, Sl.fz p.2)) ++ g) []
  | [] => q
  | _ :: _ => .fz (seg_fz q)
theorem seg_start {env : Env} {W0 : List Addr} {h : Heap} {ps : List Str} {ds : List D} {rest : List Str} : SegG env W0 h (gStart ps ds rest) [] := seg_fz seg_rest
theorem mem_zip_get {ps : List Str} : ∀ {ds : List D} {x : Str} {d : D}, (x, d) ∈ ps.zip ds → ∃ i : Nat, ps[i]? = some x ∧ ds[i]? = some d := by
  induction ps with
  | nil => intro ds x d h; simp at h
  | cons p ps ih =>
    intro ds x d h
    cases ds with
    | nil => simp at h
    | cons e ds =>
      rcases List.mem_cons.mp h with q | q
      · cases q; exact ⟨0, rfl, rfl⟩
      · exact let ⟨i, a, b⟩ := ih q; ⟨i + 1, a, b⟩
theorem get_mem_zip {ps : List Str} : ∀ {vs : List Value} {i : Nat} {x : Str} {v : Value}, ps[i]? = some x → vs[i]? = some v → (x, v) ∈ ps.zip vs := by
  induction ps with
  | nil => intro vs i x v h; simp at h
  | cons p ps ih =>
    intro vs i x v h1 h2
    cases vs with
    | nil => simp at h2
    | cons w vs =>
      cases i with
      | zero => cases h1; cases h2; exact .head _
      | succ i => exact .tail _ (ih h1 h2)
/-- a def ends so -/
def Rets (d : D) (fr : Bool) : Out → Prop
  | .ret d' f' => d' = d ∧ (fr = true → f' = true)
  | .next _ => d = .none
  | _ => False

/-- the block of a def that is called -/
def callFm (G : Gx) (A : Around) (envs : List Env) (s : Shared) (n : Nat) (fd : FuncData) (a : Addr) (own : List Str) : Fm :=
  { G := G, A := A.deeper (callEnvC fd s.heap.objs.size a), env := callEnvC fd s.heap.objs.size a, envs := callEnvC fd s.heap.objs.size a :: envs, s0 := s, room := n, sc := fd.scope, own := own }

structure DefOk (sc : Scope) (ps rest own : List Str) : Prop where
  kind : sc.kind = .function
  co : sc.isCoroutine = false
  gen : sc.isGenerator = false
  nodup : (ps ++ rest).Nodup
  plain : ∀ x ∈ ps ++ rest, plainName x = true
  stor : ∀ x ∈ ps, sc.names.lookup x = some .local ∨ sc.names.lookup x = some .cell
  own : ∀ x ∈ own, sc.names.lookup x = some .cell

def defOkB (sc : Scope) (ps rest own : List Str) : Bool :=
  (match sc.kind with | .function => true | _ => false) && !sc.isCoroutine && !sc.isGenerator && decide (ps ++ rest).Nodup && (ps ++ rest).all plainName &&
    ps.all (fun x => sc.names.lookup x == some .local || sc.names.lookup x == some .cell) && own.all (fun x => sc.names.lookup x == some .cell)
theorem defOk_of {sc : Scope} {ps rest own : List Str} (h : defOkB sc ps rest own = true) : DefOk sc ps rest own := by
  simp only [defOkB, Bool.and_eq_true, Bool.not_eq_true', List.all_eq_true, decide_eq_true_eq, Bool.or_eq_true, beq_iff_eq] at h
  obtain ⟨⟨⟨⟨⟨⟨h1, h2⟩, h3⟩, h4⟩, h5⟩, h6⟩, h7⟩ := h
  refine ⟨?_, h2, h3, h4, h5, h6, h7⟩
  revert h1
  cases sc.kind <;> simp

theorem calls_of {G : Gx} (gk : G.Ok) {x : Str} {params : Arguments} {body : List Stmt} {sc : Scope} {ps rest own : List Str} {ds : List D} {d : D} {fr : Bool} {n : Nat}
    (hf : ∃ a o pm code doc, G.mg x = some (.ref a) ∧ G.base.get? a = some o ∧ o.data = .func (Calls.docDef x params body sc pm code doc) ∧ G.base.CodeRec code x)
    (ok : DefOk sc ps rest own) (hl : ps.length = ds.length)
    (hb : ∀ vals : List Value, vals.length = ps.length → ∀ pm code doc, bindArgs (Calls.docDef x params body sc pm code doc) ⟨vals, []⟩ = pure (ps.zip vals))
    (h : ∀ K : Fm, K.G = G → K.sc = sc → K.own = own → K.room = n → K.A.handled = none → SX K (gStart ps ds rest) body (Rets d fr)) : Calls G (n + 1) x ds d fr := by
  obtain ⟨a, o, pm, code, doc, h1, h2, h3, h4⟩ := hf
  refine ⟨a, o, _, h1, h2, h3, fun A envs W s vs as E st off rd => ?_⟩
  generalize hfd : Calls.docDef x params body sc pm code doc = fd at h3
  have hlen : vs.length = ps.length := by rw [rd.length, hl]
  have esc : fd.scope = sc := by rw [← hfd]; rfl
  have kinds : ∀ y ∈ ps.zip vs, fd.scope.names.lookup y.1 = some .local ∨ (fd.scope.names.lookup y.1 = some .cell ∧ ((cellsFrom (s.heap.objs.size + 1) fd.scope.names []).lookup y.1).isSome = true) := fun y hy => by
    rw [esc]
    have hp : y.1 ∈ ps := (List.of_mem_zip hy).1
    rcases ok.stor y.1 hp with q | q
    · exact .inl q
    · exact .inr ⟨q, cells_some _ _ _ (.inl q)⟩
  refine wpAny_call (codeAny_call_cells (o := o) (fd := fd) (body := body) (binds := ps.zip vs) (by have := st.depth; show A.depth < 1000; omega) (st.stays _ _ h2) h3 (gk.nolimit.keeps st.stays)
    (by rw [← hfd]; exact h4.keeps st.stays) (by rw [← hfd]; rfl) (by rw [← hfd]; exact hb vs hlen pm code doc) (by rw [← hfd]; rfl) kinds (fun s₁ ic => ?_) (by rw [esc]; exact ok.co) (by rw [esc]; exact ok.gen) (by rw [esc]; exact ok.kind))
  generalize hK : callFm G A envs s n fd a own = K
  have eA : K.A = A.deeper (callEnvC fd s.heap.objs.size a) := by rw [← hK]; rfl
  have eE : K.env = callEnvC fd s.heap.objs.size a := by rw [← hK]; rfl
  have eV : K.envs = callEnvC fd s.heap.objs.size a :: envs := by rw [← hK]; rfl
  have eG : K.G = G := by rw [← hK]; rfl
  have eS : K.sc = sc := by rw [← hK]; exact esc
  have eO : K.own = own := by rw [← hK]; rfl
  have e0 : K.s0 = s := by rw [← hK]; rfl
  have eR : K.room = n := by rw [← hK]; rfl
  rw [← eE] at ic
  rw [← eA, ← eE]
  have keep := ic.toInCall.keep
  have eL : K.env.locals = s.heap.objs.size := by rw [eE]; rfl
  have eF : K.env.frame = some s.heap.objs.size := by rw [eE]; rfl
  have eC : K.env.cells = cellsFrom (s.heap.objs.size + 1) sc.names [] := by rw [eE, ← esc]; rfl
  have eK : K.env.scope = sc := by rw [eE, ← esc]; rfl
  have kok : K.Ok := {
    scope := by rw [eK, eS]
    kind := by rw [eS]; exact ok.kind
    globals := by rw [eE, ← hfd]; rfl
    builtins := by rw [eE, ← hfd]; rfl
    frames := by rw [eA, eV]; exact Around.frames_deeper st.frames
    apart := ic.apart
    base0 := by rw [eG, e0]; exact st.stays
    locnew := by rw [e0, eL]; exact get?_size _
    ownnew := fun y hy => by
      rw [eO] at hy
      rw [eS, e0]
      refine ⟨ok.own y hy, ?_⟩
      obtain ⟨c, hc⟩ := Option.isSome_iff_exists.mp (cells_some sc.names (s.heap.objs.size + 1) [] (.inl (ok.own y hy)))
      rw [eC]
      refine ⟨c, hc, ?_⟩
      have := ic.above y c (by rw [eC]; exact mem_of_lookup hc)
      rw [eL] at this
      exact Heap.get?_none_of_le (Nat.le_of_lt this)
    hascell := fun y hy => by
      rw [eS] at hy
      rw [eC]
      exact Option.isSome_iff_exists.mp (cells_some sc.names (s.heap.objs.size + 1) [] (.inl hy))
    gl := by rw [eG]; exact gk
    depth := by rw [eA, eR]; show A.depth + 1 + n ≤ 800; have := st.depth; omega
    units := by rw [eA, eR]; show A.units + 3 + 16 * n ≤ 9000; have := st.units; omega }
  have ns := ic.toInCall.ns
  have keepB : G.base.StaysIn s₁.heap := fun b o e => keep b o (st.stays b o e)
  have hrd : ∀ y d', (y, some d') ∈ frozOf (gStart ps ds rest) → ∃ v as, Holds K.env s₁.heap y v ∧ Rd W s₁.heap v d' as := fun y d' hm => by
    have hm' : (y, d') ∈ ps.zip ds := by
      have := mem_froz.mp hm
      rcases List.mem_append.mp this with q | q
      · obtain ⟨p, hp, e⟩ := List.mem_map.mp q
        cases e; exact hp
      · obtain ⟨p, hp, e⟩ := List.mem_map.mp q
        cases e
    obtain ⟨i, i1, i2⟩ := mem_zip_get hm'
    obtain ⟨v, bs, v1, v2, _⟩ := rd.get i d' i2
    have hz := get_mem_zip i1 v1
    have nd : ((ps.zip vs).map (·.1)).Nodup := by
      rw [show (fun (x : Str × Value) => x.1) = Prod.fst from rfl, List.map_fst_zip (by omega)]
      exact (List.nodup_append.mp ok.nodup).1
    refine ⟨v, bs, ?_, v2.kf (fr := []) (.of_keeps keep)⟩
    have kindK : ∀ {q}, sc.names.lookup y = q → K.env.kindOf y = q := fun e => by unfold Env.kindOf; rw [eK]; exact e
    rcases ok.stor y (List.of_mem_zip hz).1 with q | q
    · exact .inl ⟨kindK q, _, ns, bindL_at nd hz (kindK q)⟩
    · obtain ⟨c, hc⟩ := Option.isSome_iff_exists.mp (cells_some sc.names (s.heap.objs.size + 1) [] (.inl q))
      refine .inr ⟨.inl (kindK q), c, by rw [eC]; exact hc, ?_⟩
      have := ic.cell y c (by rw [eC]; exact hc)
      rwa [bindC_at nd hz (by rw [kindK q]; decide)] at this
  have rel : Rel K (frozOf (gStart ps ds rest)) (W ++ []) s₁ := {
    ok := kok
    off := fun b hb => let ⟨o, e⟩ := off b (by simpa using hb); ⟨o, keep b o e⟩
    same := by rw [e0]; exact ic.toInCall.same
    stays := by rw [eG]; exact keepB
    kept := by rw [e0]; exact .of_keeps keep
    frames := by
      rw [eG, eV, ← eE]
      refine Heap.FunFrames.cons (by rw [eK, ok.kind]; decide) eF (by rw [← eL]; exact ns) st.stays.fresh ?_
      exact st.ff.of_keeps fun b o e _ => ⟨o, keep b o e, rfl⟩
    fdict := fun b hb => by
      have : b ∈ s.heap.objs.size :: frs envs := by
        have e : K.fr = s.heap.objs.size :: frs envs := by
          unfold Fm.fr frs
          rw [eV, ← eE, List.filterMap_cons, eF]
        rw [← e]; exact hb
      rcases List.mem_cons.mp this with rfl | hb
      · exact ⟨_, by rw [← eL]; exact ns⟩
      · exact let ⟨m, n⟩ := st.fdict b hb; ⟨m, n.keeps keep⟩
    loc := ⟨_, ns⟩
    cells := fun y c hc => ⟨_, ic.cell y c hc⟩
    nodup := by rw [froz_names, gStart_names hl]; exact ok.nodup
    plain := fun y hy => by rw [froz_names, gStart_names hl] at hy; exact ok.plain y hy
    vars := by rw [List.append_nil]; exact hrd }
  have frE : K.fr = s.heap.objs.size :: frs envs := by
    unfold Fm.fr frs
    rw [eV, ← eE, List.filterMap_cons, eF]
  have main := h K eG eS eO eR (by rw [eA]; exact st.handled) W s₁ ⟨[], rel, seg_start, .nil, fun a ha => nomatch ha⟩
  have back : ∀ {v : Value} {s' : Shared} {f' : Bool}, (fr = true → f' = true) → Got K W K.s0 d f' v s' → Step (frs envs) s s' ∧ ∃ bs, Rd W s'.heap v d bs ∧ (fr = true → bs.Nodup ∧ ∀ a ∈ bs, s.heap.get? a = none) := fun hf' q => by
    obtain ⟨st', bs, q1, q2⟩ := q
    rw [e0] at st' q2
    refine ⟨⟨st'.same, fun b o e => ?_⟩, bs, q1, fun e => q2 (hf' e)⟩
    rcases st'.kf b o e with q | ⟨q1, q2⟩
    · exact .inl q
    · rw [frE] at q1
      rcases List.mem_cons.mp q1 with rfl | q1
      · rw [get?_size] at e; cases e
      · exact .inr ⟨q1, q2⟩
  have e' : K.M = model G.prog G.w := by unfold Fm.M; rw [eG]
  rw [e'] at main
  refine wpAny_mono (main _) (fun f s' hq => ?_) fun _ _ q => q
  obtain ⟨ou, p, m⟩ := hq
  cases f with
  | next =>
    cases ou <;> first | exact absurd m id | skip
    obtain rfl : d = .none := p
    have R' : Rel K _ _ s' := m.full
    exact back (f' := true) (fun _ => rfl) (.flat ⟨R'.same, R'.kept⟩ .none true)
  | ret v =>
    cases ou <;> first | exact absurd m id | skip
    obtain ⟨rfl, hf'⟩ := p
    exact back hf' m
  | brk => cases ou <;> first | exact absurd m id | exact absurd p id
  | cont => cases ou <;> first | exact absurd m id | exact absurd p id
end Mine
end

section
set_option autoImplicit false
namespace Mine
open PySem

/-- the defs of a text -/
structure Has (G : Gx) (rs : List DefRec) : Prop where
  ok : G.Ok
  fn : ∀ d ∈ rs, ∃ a o pm code doc, G.mg d.name = some (.ref a) ∧ G.base.get? a = some o ∧ o.data = .func (Calls.docDef d.name d.params d.body d.scope pm code doc) ∧ G.base.CodeRec code d.name
theorem Has.at {G : Gx} {rs : List DefRec} (h : Has G rs) (x : Str) {d : DefRec} (e : rs.find? (fun e => e.name == x) = some d) :
    ∃ a o pm code doc, G.mg x = some (.ref a) ∧ G.base.get? a = some o ∧ o.data = .func (Calls.docDef x d.params d.body d.scope pm code doc) ∧ G.base.CodeRec code x := by
  have hx : d.name = x := by have := List.find?_some e; simpa using this
  have := h.fn d (List.mem_of_find?_eq_some e)
  rwa [hx] at this

theorem nameOk {K : Fm} {sc : Scope} {x : Str} {q : Option NameKind} (e : K.sc = sc) (h : sc.names.lookup x = q) : K.sc.names.lookup x = q := by rw [e]; exact h
theorem stor_local {K : Fm} {sc : Scope} {x : Str} (e : K.sc = sc) (h : sc.names.lookup x = some .local) : Storable K x := .inl (nameOk e h)
theorem stor_own {K : Fm} {own : List Str} {x : Str} (e : K.own = own) (h : x ∈ own) : Storable K x := .inr (e ▸ h)

theorem ixOf_pos {k : Int} {n : Nat} (h0 : 0 ≤ k) (h1 : k < n) : ixOf k n = some k.toNat := by
  unfold ixOf seqIndex?
  have : ¬ k < 0 := by omega
  simp [this, h0, h1]
theorem ixOf_neg {k : Int} {n : Nat} (h0 : k < 0) (h1 : -(n : Int) ≤ k) : ixOf k n = some (k + n).toNat := by
  unfold ixOf seqIndex?
  have a : 0 ≤ k + n := by omega
  have b : k + n < n := by omega
  simp [h0, a, b]
section
variable {K : Fm} {rho : List (Str × Option D)} {e i : Expr} {es : List Expr} {pos np p p2 : Pos} {f g : Bool} {a b k : Int} {L : List Int} {ds : List D}
/-- a row of ints -/
def EVI (K : Fm) (rho : List (Str × Option D)) (es : List Expr) (L : List Int) : Prop := EVs K rho es (L.map .int) true
theorem evi_nil : EVI K rho [] [] := evs_nil
theorem evi_cons (h : EV K rho e (.int a) f) (k : EVI K rho es L) (hn : noStar e = true) : EVI K rho (e :: es) (a :: L) := evs_cons (h.up (f' := true) (.int a)) k hn
theorem ev_ints (h : EVI K rho es L) (hl : L.length ≤ sizeLine) : EV K rho (.List es pos) (.list (L.map .int)) true := ev_list h (by simpa using hl)
theorem ev_pick (h : EVI K rho es L) (h2 : EV K rho i (.int k) g) (h0 : 0 ≤ k) (h1 : k < L.length) (hl : L.length ≤ 1000) (hn : noSlice i = true) : EV K rho (.Subscript (.List es p) i pos) (.int (L.getD k.toNat 0)) true := by
  have hk : k.toNat < L.length := by omega
  refine (ev_item_list (ev_ints h (by have : sizeLine = 16777216 := rfl; omega)) h2 (j := k.toNat) ?_ (d := .int (L.getD k.toNat 0)) ?_ hn (by omega)).up (.int _)
  · exact ixOf_pos h0 (by simpa using h1)
  · simp [List.getD, hk]
theorem bc_max2 (hh : K.A.handled = none) : BC K (.builtin "max") [.int a, .int b] (.int (max a b)) true := fun W s vs as E kk _ hW r => by
  obtain ⟨v, v', _, _, rfl, r1, r2, _⟩ := rd2 r
  obtain ⟨t, rfl, _⟩ := r1.int_inv
  obtain ⟨u, rfl, _⟩ := r2.int_inv
  refine max_two_ints hh fun h' tk hk => ?_
  have hst : Step K.fr s { s with heap := h', toks := tk } := .of_keeps hk
  split
  · rw [show max a b = b by omega]; exact .intro_int hst _
  · rw [show max a b = a by omega]; exact .intro_int hst _
theorem bc_min2 (hh : K.A.handled = none) : BC K (.builtin "min") [.int a, .int b] (.int (min a b)) true := fun W s vs as E kk _ hW r => by
  obtain ⟨v, v', _, _, rfl, r1, r2, _⟩ := rd2 r
  obtain ⟨t, rfl, _⟩ := r1.int_inv
  obtain ⟨u, rfl, _⟩ := r2.int_inv
  refine min_two_ints hh fun h' tk hk => ?_
  have hst : Step K.fr s { s with heap := h', toks := tk } := .of_keeps hk
  split
  · rw [show min a b = b by omega]; exact .intro_int hst _
  · rw [show min a b = a by omega]; exact .intro_int hst _

abbrev GN (K : Fm) (x : Str) : Prop := K.sc.names.lookup x = some .globalImplicit
theorem ev_max2 (hx : GN K "max") (hh : K.A.handled = none) {e1 e2 : Expr} (h1 : EV K rho e1 (.int a) f) (h2 : EV K rho e2 (.int b) g) (n1 : noStar e1 = true) (n2 : noStar e2 = true) : EV K rho (.Call (.Name "max" np) [e1, e2] [] pos) (.int (max a b)) true :=
  ev_bcall hx (by decide +kernel) PyProof.Rows.Boot.«max» rfl (evs_cons h1 (evs_cons h2 evs_nil n2) n1) (by simp [n1, n2]) (bc_max2 hh)
theorem ev_min2 (hx : GN K "min") (hh : K.A.handled = none) {e1 e2 : Expr} (h1 : EV K rho e1 (.int a) f) (h2 : EV K rho e2 (.int b) g) (n1 : noStar e1 = true) (n2 : noStar e2 = true) : EV K rho (.Call (.Name "min" np) [e1, e2] [] pos) (.int (min a b)) true :=
  ev_bcall hx (by decide +kernel) PyProof.Rows.Boot.«min» rfl (evs_cons h1 (evs_cons h2 evs_nil n2) n1) (by simp [n1, n2]) (bc_min2 hh)
theorem ev_abs (hx : GN K "abs") (h1 : EV K rho e (.int a) f) (n1 : noStar e = true) : EV K rho (.Call (.Name "abs" np) [e] [] pos) (.int (a.natAbs : Int)) true :=
  ev_bcall hx (by decide +kernel) PyProof.Rows.Boot.«abs» rfl (evs_cons h1 evs_nil n1) (by simp [n1]) bc_abs
theorem ev_len_list (hx : GN K "len") (h1 : EV K rho e (.list ds) f) (hl : ds.length ≤ sizeLine) (n1 : noStar e = true) : EV K rho (.Call (.Name "len" np) [e] [] pos) (.int ds.length) true :=
  ev_bcall hx (by decide +kernel) PyProof.Rows.Boot.«len» rfl (evs_cons h1 evs_nil n1) (by simp [n1]) (bc_len_list hl)
theorem ev_len_tuple (hx : GN K "len") (h1 : EV K rho e (.tuple ds) f) (hl : ds.length ≤ sizeLine) (n1 : noStar e = true) : EV K rho (.Call (.Name "len" np) [e] [] pos) (.int ds.length) true :=
  ev_bcall hx (by decide +kernel) PyProof.Rows.Boot.«len» rfl (evs_cons h1 evs_nil n1) (by simp [n1]) (bc_len_tuple hl)
theorem ev_tuple_list (hx : GN K "tuple") (h1 : EV K rho e (.list ds) f) (hl : ds.length ≤ sizeLine) (n1 : noStar e = true) : EV K rho (.Call (.Name "tuple" np) [e] [] pos) (.tuple ds) false :=
  ev_bcall hx (by decide +kernel) PyProof.Rows.Boot.«tuple» rfl (evs_cons h1 evs_nil n1) (by simp [n1]) (bc_tuple_list hl)
theorem ev_tuple_list' (hx : GN K "tuple") (h1 : EV K rho e (.list ds) f) (hl : ds.length ≤ sizeLine) (fl : ∀ d ∈ ds, Flat d) (n1 : noStar e = true) : EV K rho (.Call (.Name "tuple" np) [e] [] pos) (.tuple ds) true :=
  (ev_tuple_list hx h1 hl n1).up (.tuple fl)
theorem ev_tuple_tuple (hx : GN K "tuple") (h1 : EV K rho e (.tuple ds) f) (n1 : noStar e = true) : EV K rho (.Call (.Name "tuple" np) [e] [] pos) (.tuple ds) false :=
  ev_bcall hx (by decide +kernel) PyProof.Rows.Boot.«tuple» rfl (evs_cons h1 evs_nil n1) (by simp [n1]) bc_tuple_tuple
theorem ev_list_list (hx : GN K "list") (h1 : EV K rho e (.list ds) f) (hl : ds.length ≤ sizeLine) (fl : ∀ d ∈ ds, Flat d) (n1 : noStar e = true) : EV K rho (.Call (.Name "list" np) [e] [] pos) (.list ds) true :=
  ev_bcall hx (by decide +kernel) PyProof.Rows.Boot.«list» rfl (evs_cons h1 evs_nil n1) (by simp [n1]) (bc_list_list hl fl)
theorem ev_list_tuple (hx : GN K "list") (h1 : EV K rho e (.tuple ds) f) (hl : ds.length ≤ sizeLine) (fl : ∀ d ∈ ds, Flat d) (n1 : noStar e = true) : EV K rho (.Call (.Name "list" np) [e] [] pos) (.list ds) true :=
  ev_bcall hx (by decide +kernel) PyProof.Rows.Boot.«list» rfl (evs_cons h1 evs_nil n1) (by simp [n1]) (bc_list_tuple hl fl)
end
/-- a def of one, two .. names, called -/
theorem ev_call1 {K : Fm} {rho : List (Str × Option D)} {x : Str} {np pos : Pos} {e1 : Expr} {d1 d : D} {f1 fr : Bool} {n : Nat} (hh : K.A.handled = none) (hx : GN K x) (hxd : gnameOk x = true)
    (h1 : EV K rho e1 d1 f1) (n1 : noStar e1 = true) (c : Calls K.G n x [d1] d fr) (hr : n ≤ K.room) : EV K rho (.Call (.Name x np) [e1] [] pos) d fr :=
  ev_call hh hx hxd (evs_cons h1 evs_nil n1) n1 c hr
theorem ev_call2 {K : Fm} {rho : List (Str × Option D)} {x : Str} {np pos : Pos} {e1 e2 : Expr} {d1 d2 d : D} {f1 f2 fr : Bool} {n : Nat} (hh : K.A.handled = none) (hx : GN K x) (hxd : gnameOk x = true)
    (h1 : EV K rho e1 d1 f1) (h2 : EV K rho e2 d2 f2) (n1 : noStar e1 = true) (n2 : noStar e2 = true) (c : Calls K.G n x [d1, d2] d fr) (hr : n ≤ K.room) : EV K rho (.Call (.Name x np) [e1, e2] [] pos) d fr :=
  ev_call hh hx hxd (evs_cons h1 (evs_cons h2 evs_nil n2) n1) n1 c hr
theorem ev_call3 {K : Fm} {rho : List (Str × Option D)} {x : Str} {np pos : Pos} {e1 e2 e3 : Expr} {d1 d2 d3 d : D} {f1 f2 f3 fr : Bool} {n : Nat} (hh : K.A.handled = none) (hx : GN K x) (hxd : gnameOk x = true)
    (h1 : EV K rho e1 d1 f1) (h2 : EV K rho e2 d2 f2) (h3 : EV K rho e3 d3 f3) (n1 : noStar e1 = true) (n2 : noStar e2 = true) (n3 : noStar e3 = true) (c : Calls K.G n x [d1, d2, d3] d fr) (hr : n ≤ K.room) : EV K rho (.Call (.Name x np) [e1, e2, e3] [] pos) d fr :=
  ev_call hh hx hxd (evs_cons h1 (evs_cons h2 (evs_cons h3 evs_nil n3) n2) n1) n1 c hr
end Mine
end

section
set_option autoImplicit false
namespace Mine
open PySem

/-- a premise to be seen to apart -/
structure Side (p : Prop) : Prop where
  out : p
/-- a premise behind a condition -/
structure Imp (p q : Prop) : Prop where
  out : p → q
/-- a premise that holds by looking -/
structure Look (b : Bool) : Prop where
  out : b = true
structure XE (K : Fm) (rho : List (Str × Option D)) (e : Expr) (d : D) (f : Bool) : Prop where
  out : EV K rho e d f
structure XI (K : Fm) (rho : List (Str × Option D)) (es : List Expr) (L : List Int) : Prop where
  out : EVI K rho es L
structure XL (K : Fm) (rho : List (Str × Option D)) (es : List Expr) (ds : List D) (f : Bool) : Prop where
  out : EVs K rho es ds f
structure XA (K : Fm) (rho : List (Str × Option D)) (op : BoolOp) (pos : Pos) (es : List Expr) (b : Bool) : Prop where
  out : EVA K rho op pos es b
structure XT (K : Fm) (rho : List (Str × Option D)) (e : Expr) (b : Bool) : Prop where
  out : TS K rho e b
structure XTA (K : Fm) (rho : List (Str × Option D)) (es : List Expr) (b : Bool) : Prop where
  out : TSA K rho es b
structure XTO (K : Fm) (rho : List (Str × Option D)) (es : List Expr) (b : Bool) : Prop where
  out : TSO K rho es b
structure XC (K : Fm) (op : CmpOp) (d1 d2 : D) (b : Bool) : Prop where
  out : CMP K op d1 d2 b
structure XM (rho : List (Str × Option D)) (x : Str) (d : D) : Prop where
  out : (x, some d) ∈ rho
structure XG (K : Fm) (x : Str) : Prop where
  out : GN K x
structure XK (G : Gx) (n : Nat) (x : Str) (ds : List D) (d : D) (f : Bool) : Prop where
  out : Calls G n x ds d f
structure XH (K : Fm) : Prop where
  out : K.A.handled = none

namespace V
theorem m_fz {x : Str} {d : D} {g : Sg} : XM (fullOf ((x, .fz d) :: g)) x d := ⟨.head _⟩
theorem m_ow {x : Str} {d : D} {g : Sg} : XM (fullOf ((x, .ow d) :: g)) x d := ⟨.head _⟩
theorem m_tl {x y : Str} {d : D} {o : Sl} {g : Sg} (h : XM (fullOf g) x d) : XM (fullOf ((y, o) :: g)) x d := ⟨.tail _ h.out⟩
theorem z_fz {x : Str} {d : D} {g : Sg} : XM (frozOf ((x, .fz d) :: g)) x d := ⟨.head _⟩
theorem z_tl {x y : Str} {d : D} {o : Sl} {g : Sg} (h : XM (frozOf g) x d) : XM (frozOf ((y, o) :: g)) x d := ⟨.tail _ h.out⟩
theorem r_hd {x : Str} {d : D} {g : List (Str × Option D)} : XM ((x, some d) :: g) x d := ⟨.head _⟩
theorem r_tl {x : Str} {d : D} {o : Str × Option D} {g : List (Str × Option D)} (h : XM g x d) : XM (o :: g) x d := ⟨.tail _ h.out⟩
theorem gn {K : Fm} {sc : Scope} {x : Str} (e : K.sc = sc) (h : sc.names.lookup x = some .globalImplicit) : XG K x := ⟨nameOk e h⟩

section
variable {K : Fm} {rho : List (Str × Option D)} {e l r i : Expr} {es : List Expr} {pos np p p2 : Pos} {f g : Bool} {a b k : Int} {L : List Int} {ds : List D} {d d1 d2 d3 : D} {x : Str} {n : Nat} {fr : Bool} {kk : Nat}
theorem cint : XE K rho (.Constant (.int a) kk pos) (.int a) true := ⟨ev_int⟩
theorem cnone : XE K rho (.Constant .none kk pos) .none true := ⟨ev_none⟩
theorem cbool {bb : Bool} : XE K rho (.Constant (.bool bb) kk pos) (.bool bb) true := ⟨ev_bool⟩
theorem cstr (h : Side (PyData.canLay0 (.str x) = true)) : XE K rho (.Constant (.str x) kk pos) (.str x) true := ⟨ev_str h.out⟩
theorem name_int (h : XM rho x (.int a)) : XE K rho (.Name x pos) (.int a) true := ⟨(ev_name h.out).up (.int a)⟩
theorem name_bool {bb : Bool} (h : XM rho x (.bool bb)) : XE K rho (.Name x pos) (.bool bb) true := ⟨(ev_name h.out).up (.bool bb)⟩
theorem name (h : XM rho x d) : XE K rho (.Name x pos) d false := ⟨ev_name h.out⟩
theorem neg (h1 : XE K rho l (.int a) f) : XE K rho (.UnaryOp .USub l pos) (.int (-a)) true := ⟨ev_neg h1.out⟩
theorem enot {bb : Bool} (h1 : XE K rho l (.bool bb) f) : XE K rho (.UnaryOp .Not l pos) (.bool (!bb)) true := ⟨ev_not h1.out⟩
theorem add (h1 : XE K rho l (.int a) f) (h2 : XE K rho r (.int b) g) : XE K rho (.BinOp l .Add r pos) (.int (a + b)) true := ⟨ev_add h1.out h2.out⟩
theorem sub (h1 : XE K rho l (.int a) f) (h2 : XE K rho r (.int b) g) : XE K rho (.BinOp l .Sub r pos) (.int (a - b)) true := ⟨ev_sub h1.out h2.out⟩
theorem mul (h1 : XE K rho l (.int a) f) (h2 : XE K rho r (.int b) g) (hm : Side (IntMulOk a b)) : XE K rho (.BinOp l .Mult r pos) (.int (a * b)) true := ⟨ev_mul h1.out h2.out hm.out⟩
theorem mod (h1 : XE K rho l (.int a) f) (h2 : XE K rho r (.int b) g) (hb : Side (0 < b)) : XE K rho (.BinOp l .Mod r pos) (.int (a % b)) true := by
  have h := hb.out
  rw [← Int.fmod_eq_emod_of_nonneg a (Int.le_of_lt h)]
  exact ⟨ev_mod h1.out h2.out (by omega)⟩
theorem fdiv (h1 : XE K rho l (.int a) f) (h2 : XE K rho r (.int b) g) (hb : Side (0 < b)) (hs : Side (b.natAbs.log2 < 9000)) : XE K rho (.BinOp l .FloorDiv r pos) (.int (a / b)) true := by
  have h := hb.out
  rw [← Int.fdiv_eq_ediv_of_nonneg a (Int.le_of_lt h)]
  exact ⟨ev_floordiv h1.out h2.out (by omega) hs.out⟩
theorem pow (h1 : XE K rho l (.int a) f) (h2 : XE K rho r (.int b) g) (hn : Side (0 ≤ b ∧ b ≤ 1000000)) (ha : Side (a.natAbs < 2 ^ 64)) : XE K rho (.BinOp l .Pow r pos) (.int (a ^ b.toNat)) true := ⟨ev_pow h1.out h2.out hn.out.1 hn.out.2 ha.out⟩
theorem i_nil : XI K rho [] [] := ⟨evi_nil⟩
theorem i_cons (h : XE K rho e (.int a) f) (k : XI K rho es L) (hn : Look (noStar e)) : XI K rho (e :: es) (a :: L) := ⟨evi_cons h.out k.out hn.out⟩
theorem l_nil : XL K rho [] [] true := ⟨evs_nil⟩
theorem l_cons (h : XE K rho e d f) (k : XL K rho es ds g) (hn : Look (noStar e)) : XL K rho (e :: es) (d :: ds) (f && g) := ⟨evs_cons h.out k.out hn.out⟩
theorem lints (h : XI K rho es L) (hl : Side (L.length ≤ sizeLine)) : XE K rho (.List es pos) (.list (L.map .int)) true := ⟨ev_ints h.out hl.out⟩
theorem list (h : XL K rho es ds f) (hl : Side (ds.length ≤ sizeLine)) : XE K rho (.List es pos) (.list ds) f := ⟨ev_list h.out hl.out⟩
theorem tuple (h : XL K rho es ds f) (hl : Side (ds.length ≤ sizeLine)) : XE K rho (.Tuple es kk pos) (.tuple ds) f := ⟨ev_tuple h.out hl.out⟩
theorem pick (h : XI K rho es L) (h2 : XE K rho i (.int k) g) (h0 : Side (0 ≤ k ∧ k < L.length)) (hl : Side (L.length ≤ 1000)) (hn : Look (noSlice i)) : XE K rho (.Subscript (.List es p) i pos) (.int (L.getD k.toNat 0)) true :=
  ⟨ev_pick h.out h2.out h0.out.1 h0.out.2 hl.out hn.out⟩
/-- an item of a list whose place is known -/
theorem item_list (h : XE K rho e (.list ds) f) (h2 : XE K rho i (.int k) g) (hk : Side (0 ≤ k ∧ k < 1000000000)) (hd : Side (ds[k.toNat]? = some d)) (hn : Look (noSlice i)) : XE K rho (.Subscript e i pos) d false := by
  have hl : k.toNat < ds.length := (List.getElem?_eq_some_iff.mp hd.out).1
  exact ⟨ev_item_list h.out h2.out (ixOf_pos hk.out.1 (by have := hk.out.1; omega)) hd.out hn.out (by have := hk.out; omega)⟩
theorem item_tuple (h : XE K rho e (.tuple ds) f) (h2 : XE K rho i (.int k) g) (hk : Side (0 ≤ k ∧ k < 1000000000)) (hd : Side (ds[k.toNat]? = some d)) (hn : Look (noSlice i)) : XE K rho (.Subscript e i pos) d false := by
  have hl : k.toNat < ds.length := (List.getElem?_eq_some_iff.mp hd.out).1
  exact ⟨ev_item_tuple h.out h2.out (ixOf_pos hk.out.1 (by have := hk.out.1; omega)) hd.out hn.out (by have := hk.out; omega)⟩
theorem last_list (h : XE K rho e (.list ds) f) (h2 : XE K rho i (.int k) g) (hk : Side (k < 0 ∧ -1000000000 ≤ k ∧ -(ds.length : Int) ≤ k)) (hd : Side (ds[(k + ds.length).toNat]? = some d)) (hn : Look (noSlice i)) : XE K rho (.Subscript e i pos) d false :=
  ⟨ev_item_list h.out h2.out (ixOf_neg hk.out.1 hk.out.2.2) hd.out hn.out (by have := hk.out; omega)⟩
/-- an item of a list of ints -/
theorem item_int (h : XE K rho e (.list (L.map .int)) f) (h2 : XE K rho i (.int k) g) (hk : Side (0 ≤ k ∧ k < L.length)) (hl : Side (L.length < 1000000000)) (hn : Look (noSlice i)) : XE K rho (.Subscript e i pos) (.int (L.getD k.toNat 0)) true := by
  have h0 := hk.out
  have hl := hl.out
  have hk : k.toNat < L.length := by omega
  exact ⟨(ev_item_list h.out h2.out (j := k.toNat) (ixOf_pos h0.1 (by simpa using h0.2)) (d := .int (L.getD k.toNat 0)) (by simp [List.getD, hk]) hn.out (by omega)).up (.int _)⟩
theorem item_intT (h : XE K rho e (.tuple (L.map .int)) f) (h2 : XE K rho i (.int k) g) (hk : Side (0 ≤ k ∧ k < L.length)) (hl : Side (L.length < 1000000000)) (hn : Look (noSlice i)) : XE K rho (.Subscript e i pos) (.int (L.getD k.toNat 0)) true := by
  have h0 := hk.out
  have hl := hl.out
  have hk : k.toNat < L.length := by omega
  exact ⟨(ev_item_tuple h.out h2.out (j := k.toNat) (ixOf_pos h0.1 (by simpa using h0.2)) (d := .int (L.getD k.toNat 0)) (by simp [List.getD, hk]) hn.out (by omega)).up (.int _)⟩
theorem call1 {e1 : Expr} {f1 : Bool} (hx : XG K x) (h1 : XE K rho e1 d1 f1) (c : XK K.G n x [d1] d fr) (hh : XH K) (hxd : Look (gnameOk x)) (n1 : Look (noStar e1)) (hr : Side (n ≤ K.room)) : XE K rho (.Call (.Name x np) [e1] [] pos) d fr :=
  ⟨ev_call1 hh.out hx.out hxd.out h1.out n1.out c.out hr.out⟩
theorem call2 {e1 e2 : Expr} {f1 f2 : Bool} (hx : XG K x) (h1 : XE K rho e1 d1 f1) (h2 : XE K rho e2 d2 f2) (c : XK K.G n x [d1, d2] d fr) (hh : XH K) (hxd : Look (gnameOk x)) (n1 : Look (noStar e1)) (n2 : Look (noStar e2)) (hr : Side (n ≤ K.room)) : XE K rho (.Call (.Name x np) [e1, e2] [] pos) d fr :=
  ⟨ev_call2 hh.out hx.out hxd.out h1.out h2.out n1.out n2.out c.out hr.out⟩
theorem call3 {e1 e2 e3 : Expr} {f1 f2 f3 : Bool} (hx : XG K x) (h1 : XE K rho e1 d1 f1) (h2 : XE K rho e2 d2 f2) (h3 : XE K rho e3 d3 f3) (c : XK K.G n x [d1, d2, d3] d fr) (hh : XH K) (hxd : Look (gnameOk x)) (n1 : Look (noStar e1)) (n2 : Look (noStar e2)) (n3 : Look (noStar e3)) (hr : Side (n ≤ K.room)) : XE K rho (.Call (.Name x np) [e1, e2, e3] [] pos) d fr :=
  ⟨ev_call3 hh.out hx.out hxd.out h1.out h2.out h3.out n1.out n2.out n3.out c.out hr.out⟩
theorem isint (hx : XG K "isinstance") (hy : XG K "int") (h : XE K rho e d f) (hn : Look (noStar e)) : XE K rho (.Call (.Name "isinstance" np) [e, .Name "int" p] [] pos) (.bool (isA d "int")) true :=
  ⟨ev_isinstance hx.out hy.out (by decide +kernel) PyProof.Rows.Boot.«int» (by decide) h.out hn.out⟩
theorem isbool (hx : XG K "isinstance") (hy : XG K "bool") (h : XE K rho e d f) (hn : Look (noStar e)) : XE K rho (.Call (.Name "isinstance" np) [e, .Name "bool" p] [] pos) (.bool (isA d "bool")) true :=
  ⟨ev_isinstance hx.out hy.out (by decide +kernel) PyProof.Rows.Boot.«bool» (by decide) h.out hn.out⟩
theorem istuple (hx : XG K "isinstance") (hy : XG K "tuple") (h : XE K rho e d f) (hn : Look (noStar e)) : XE K rho (.Call (.Name "isinstance" np) [e, .Name "tuple" p] [] pos) (.bool (isA d "tuple")) true :=
  ⟨ev_isinstance hx.out hy.out (by decide +kernel) PyProof.Rows.Boot.«tuple» (by decide) h.out hn.out⟩
theorem islist (hx : XG K "isinstance") (hy : XG K "list") (h : XE K rho e d f) (hn : Look (noStar e)) : XE K rho (.Call (.Name "isinstance" np) [e, .Name "list" p] [] pos) (.bool (isA d "list")) true :=
  ⟨ev_isinstance hx.out hy.out (by decide +kernel) PyProof.Rows.Boot.«list» (by decide) h.out hn.out⟩
theorem isstr (hx : XG K "isinstance") (hy : XG K "str") (h : XE K rho e d f) (hn : Look (noStar e)) : XE K rho (.Call (.Name "isinstance" np) [e, .Name "str" p] [] pos) (.bool (isA d "str")) true :=
  ⟨ev_isinstance hx.out hy.out (by decide +kernel) PyProof.Rows.Boot.«str» (by decide) h.out hn.out⟩
theorem len_list (hx : XG K "len") (h1 : XE K rho e (.list ds) f) (hl : Side (ds.length ≤ sizeLine)) (n1 : Look (noStar e)) : XE K rho (.Call (.Name "len" np) [e] [] pos) (.int ds.length) true := ⟨ev_len_list hx.out h1.out hl.out n1.out⟩
theorem len_tuple (hx : XG K "len") (h1 : XE K rho e (.tuple ds) f) (hl : Side (ds.length ≤ sizeLine)) (n1 : Look (noStar e)) : XE K rho (.Call (.Name "len" np) [e] [] pos) (.int ds.length) true := ⟨ev_len_tuple hx.out h1.out hl.out n1.out⟩
theorem abs (hx : XG K "abs") (h1 : XE K rho e (.int a) f) (n1 : Look (noStar e)) : XE K rho (.Call (.Name "abs" np) [e] [] pos) (.int (a.natAbs : Int)) true := ⟨ev_abs hx.out h1.out n1.out⟩
theorem max2 (hx : XG K "max") {e1 e2 : Expr} (h1 : XE K rho e1 (.int a) f) (h2 : XE K rho e2 (.int b) g) (hh : XH K) (n1 : Look (noStar e1)) (n2 : Look (noStar e2)) : XE K rho (.Call (.Name "max" np) [e1, e2] [] pos) (.int (max a b)) true := ⟨ev_max2 hx.out hh.out h1.out h2.out n1.out n2.out⟩
theorem min2 (hx : XG K "min") {e1 e2 : Expr} (h1 : XE K rho e1 (.int a) f) (h2 : XE K rho e2 (.int b) g) (hh : XH K) (n1 : Look (noStar e1)) (n2 : Look (noStar e2)) : XE K rho (.Call (.Name "min" np) [e1, e2] [] pos) (.int (min a b)) true := ⟨ev_min2 hx.out hh.out h1.out h2.out n1.out n2.out⟩
theorem tuple_list (hx : XG K "tuple") (h1 : XE K rho e (.list ds) f) (hl : Side (ds.length ≤ sizeLine)) (n1 : Look (noStar e)) : XE K rho (.Call (.Name "tuple" np) [e] [] pos) (.tuple ds) false := ⟨ev_tuple_list hx.out h1.out hl.out n1.out⟩
theorem flat_int : ∀ d ∈ L.map PyData.int, Flat d := by
  intro d hd
  obtain ⟨i, _, rfl⟩ := List.mem_map.mp hd
  exact .int i
theorem tuple_ints (hx : XG K "tuple") (h1 : XE K rho e (.list (L.map .int)) f) (hl : Side (L.length ≤ sizeLine)) (n1 : Look (noStar e)) : XE K rho (.Call (.Name "tuple" np) [e] [] pos) (.tuple (L.map .int)) true :=
  ⟨ev_tuple_list' hx.out h1.out (by simpa using hl.out) flat_int n1.out⟩
theorem boolop {op : BoolOp} {bb : Bool} (h : XA K rho op pos es bb) : XE K rho (.BoolOp op es pos) (.bool bb) true := ⟨ev_boolop h.out⟩
theorem eone {op : BoolOp} {bb : Bool} (h : XE K rho e (.bool bb) f) : XA K rho op pos [e] bb := ⟨eva_one h.out⟩
theorem eand {e2 : Expr} {b1 b2 : Bool} (h : XE K rho e (.bool b1) f) (k : Imp (b1 = true) (XA K rho .And pos (e2 :: es) b2)) : XA K rho .And pos (e :: e2 :: es) (b1 && b2) := ⟨eva_and h.out fun q => (k.out q).out⟩
theorem eor {e2 : Expr} {b1 b2 : Bool} (h : XE K rho e (.bool b1) f) (k : Imp (b1 = false) (XA K rho .Or pos (e2 :: es) b2)) : XA K rho .Or pos (e :: e2 :: es) (b1 || b2) := ⟨eva_or h.out fun q => (k.out q).out⟩
theorem tnil : XTA K rho [] true := ⟨tsa_nil⟩
theorem tonil : XTO K rho [] false := ⟨tso_nil⟩
theorem tand {b1 b2 : Bool} (h : XT K rho e b1) (k : Imp (b1 = true) (XTA K rho es b2)) : XTA K rho (e :: es) (b1 && b2) := ⟨tsa_cons h.out fun q => (k.out q).out⟩
theorem tor {b1 b2 : Bool} (h : XT K rho e b1) (k : Imp (b1 = false) (XTO K rho es b2)) : XTO K rho (e :: es) (b1 || b2) := ⟨tso_cons h.out fun q => (k.out q).out⟩
theorem tall {bb : Bool} (h : XTA K rho es bb) : XT K rho (.BoolOp .And es pos) bb := ⟨ts_and h.out⟩
theorem tany {bb : Bool} (h : XTO K rho es bb) : XT K rho (.BoolOp .Or es pos) bb := ⟨ts_or h.out⟩
theorem tnot {bb : Bool} (h : XT K rho e bb) : XT K rho (.UnaryOp .Not e pos) (!bb) := ⟨ts_not h.out⟩
theorem tcmp {op : CmpOp} {bb : Bool} (h1 : XE K rho l d1 f) (h2 : XE K rho r d2 g) (c : XC K op d1 d2 bb) (hm : Look (!behindInMarks op r)) : XT K rho (.Compare l [op] [r] pos) bb := ⟨ts_cmp h1.out h2.out c.out (by simpa using hm.out)⟩
theorem ecmp {op : CmpOp} {bb : Bool} (h1 : XE K rho l d1 f) (h2 : XE K rho r d2 g) (c : XC K op d1 d2 bb) (hm : Look (!behindInMarks op r)) : XE K rho (.Compare l [op] [r] pos) (.bool bb) true := ⟨ev_cmp h1.out h2.out c.out (by simpa using hm.out)⟩
theorem tcmp2 {op op2 : CmpOp} {r2 : Expr} {f3 b1 b2 : Bool} (h1 : XE K rho l d1 f) (h2 : XE K rho r d2 g) (c : XC K op d1 d2 b1) (h3 : Imp (b1 = true) (XE K rho r2 d3 f3)) (c2 : Imp (b1 = true) (XC K op2 d2 d3 b2)) (hm : Look (!behindInMarks op2 r2)) :
    XT K rho (.Compare l [op, op2] [r, r2] pos) (b1 && b2) := ⟨ts_cmp2 h1.out h2.out (fun q => (h3.out q).out) c.out (fun q => (c2.out q).out) (by simpa using hm.out)⟩
theorem ecmp2 {op op2 : CmpOp} {r2 : Expr} {f3 b1 b2 : Bool} (h1 : XE K rho l d1 f) (h2 : XE K rho r d2 g) (c : XC K op d1 d2 b1) (h3 : Imp (b1 = true) (XE K rho r2 d3 f3)) (c2 : Imp (b1 = true) (XC K op2 d2 d3 b2)) (hm : Look (!behindInMarks op2 r2)) :
    XE K rho (.Compare l [op, op2] [r, r2] pos) (.bool (b1 && b2)) true := ⟨ev_cmp2 h1.out h2.out (fun q => (h3.out q).out) c.out (fun q => (c2.out q).out) (by simpa using hm.out)⟩
/-- a value whose truth is asked as it is -/
def asks : Expr → Bool
  | .Call .. => true
  | .Name .. => true
  | _ => false
theorem asks_ok (h : asks e = true) : ∀ whole, isTrue e K.env whole = (do let v ← whole; standAt e.pos; holding [v] (truthy v)) := by
  cases e <;> first | (intro _; rfl) | cases h
theorem tval {bb : Bool} (h : XE K rho e (.bool bb) f) (he : Look (asks e)) : XT K rho e bb := ⟨ts_val h.out (asks_ok he.out)⟩
theorem clt : XC K .Lt (.int a) (.int b) (decide (a < b)) := ⟨cmp_lt⟩
theorem cle : XC K .LtE (.int a) (.int b) (decide (a ≤ b)) := ⟨cmp_le⟩
theorem cgt : XC K .Gt (.int a) (.int b) (decide (a > b)) := ⟨cmp_gt⟩
theorem cge : XC K .GtE (.int a) (.int b) (decide (a ≥ b)) := ⟨cmp_ge⟩
theorem ceq : XC K .Eq (.int a) (.int b) (a == b) := ⟨cmp_eq_int⟩
theorem cne : XC K .NotEq (.int a) (.int b) (a != b) := ⟨cmp_ne_int⟩
theorem ceqd (h : Side (d1.depth ≤ 64)) : XC K .Eq d1 d2 (PyData.eqv d1 d2) := ⟨cmp_eq h.out⟩
theorem cned (h : Side (d1.depth ≤ 64)) : XC K .NotEq d1 d2 (!PyData.eqv d1 d2) := ⟨cmp_ne h.out⟩
theorem cisn : XC K .Is d .none (isNone d) := ⟨cmp_is_none⟩
theorem cnisn : XC K .IsNot d .none (!isNone d) := ⟨cmp_isnot_none⟩
end
end V

/-! statements -/
structure XS (K : Fm) (g : Sg) (body : List Stmt) (P : Out → Prop) : Prop where
  out : SX K g body P
structure XP (g : Sg) (x : Str) (sl : Sl) (g' : Sg) : Prop where
  out : PutS g x sl g'
structure XO (K : Fm) (x : Str) : Prop where
  out : Storable K x
namespace V
theorem p_hd {x : Str} {o d : Sl} {r : Sg} : XP ((x, o) :: r) x d ((x, d) :: r) := ⟨.here⟩
theorem p_tl {x y : Str} {o d : Sl} {r r' : Sg} (h : XP r x d r') : XP ((y, o) :: r) x d ((y, o) :: r') := ⟨.there h.out⟩
theorem o_loc {K : Fm} {sc : Scope} {x : Str} (e : K.sc = sc) (h : sc.names.lookup x = some .local) : XO K x := ⟨stor_local e h⟩
theorem o_own {K : Fm} {own : List Str} {x : Str} (e : K.own = own) (h : own.contains x = true) : XO K x := ⟨stor_own e (by simpa using h)⟩
/-- the rest behind -/
def Nx (K : Fm) (rest : List Stmt) (P : Out → Prop) : Out → Prop
  | .next g => XS K g rest P
  | o => P o
section
variable {K : Fm} {g g' : Sg} {rest body orelse : List Stmt} {P Q : Out → Prop} {pos pos' : Pos} {x : Str} {e : Expr} {d : D} {f b : Bool}
theorem keep (h : XS K g body P) : XS K g body P := h
theorem snil (h : P (.next g)) : XS K g [] P := ⟨sx_nil h⟩
theorem sif (t : XT K (fullOf g) e b) (h1 : Imp (b = true) (XS K g body (Nx K rest P))) (h2 : Imp (b = false) (XS K g orelse (Nx K rest P))) : XS K g (.If e body orelse pos :: rest) P :=
  ⟨sx_if t.out (fun q => (h1.out q).out.mono fun o => by cases o <;> first | exact fun a => a.out | exact fun a => a) fun q => (h2.out q).out.mono fun o => by cases o <;> first | exact fun a => a.out | exact fun a => a⟩
/-- the ways out of a branch -/
def Jn (P : Out → Prop) (J : Sg → Prop) : Out → Prop
  | .next g => J g
  | o => P o
theorem sif_join (J : Sg → Prop) (t : XT K (fullOf g) e b) (h1 : Imp (b = true) (XS K g body (Jn P J))) (h2 : Imp (b = false) (XS K g orelse (Jn P J))) (k : ∀ g', J g' → XS K g' rest P) : XS K g (.If e body orelse pos :: rest) P :=
  ⟨sx_if t.out (fun q => (h1.out q).out.mono fun o => by cases o <;> first | exact fun a => (k _ a).out | exact fun a => a) fun q => (h2.out q).out.mono fun o => by cases o <;> first | exact fun a => (k _ a).out | exact fun a => a⟩
theorem spass (h : XS K g rest P) : XS K g (.Pass pos :: rest) P := ⟨sx_pass h.out⟩
theorem sret (h : XE K (fullOf g) e d f) (k : Side (P (.ret d f))) : XS K g (.Return (some e) pos :: rest) P := ⟨sx_return h.out k.out⟩
theorem sret_own (h : Side ((x, Sl.ow d) ∈ g)) (k : Side (P (.ret d true))) : XS K g (.Return (some (.Name x pos')) pos :: rest) P := ⟨sx_return_own h.out k.out⟩
theorem sret_none (k : Side (P (.ret .none true))) : XS K g (.Return none pos :: rest) P := ⟨sx_return_none k.out⟩
theorem set (h : XE K (fullOf g) e d true) (p : XP g x (.fz d) g') (hs : XO K x) (hc : Look (noComp e)) (k : XS K g' rest P) : XS K g (.Assign [.Name x pos'] e pos :: rest) P := ⟨sx_assign h.out p.out hs.out hc.out k.out⟩
theorem set_flat (h : XE K (fullOf g) e d f) (fl : Side (Flat d)) (p : XP g x (.fz d) g') (hs : XO K x) (hc : Look (noComp e)) (k : XS K g' rest P) : XS K g (.Assign [.Name x pos'] e pos :: rest) P := ⟨sx_assign (h.out.up fl.out) p.out hs.out hc.out k.out⟩
theorem set_alias (h : XE K (frozOf g) e d f) (p : XP g x (.fz d) g') (hs : XO K x) (hc : Look (noComp e)) (k : XS K g' rest P) : XS K g (.Assign [.Name x pos'] e pos :: rest) P := ⟨sx_assign_alias h.out p.out hs.out hc.out k.out⟩
theorem set_own (h : XE K (fullOf g) e d true) (p : XP g x (.ow d) g') (hs : XO K x) (hc : Look (noComp e)) (k : XS K g' rest P) : XS K g (.Assign [.Name x pos'] e pos :: rest) P := ⟨sx_assign_own h.out p.out hs.out hc.out k.out⟩
/-- another way to a turn's end -/
def Turn (K : Fm) (rest : List Stmt) (P : Out → Prop) (I : Sg → Prop) : Out → Prop
  | .next g' => I g'
  | .cont g' => I g'
  | .brk g' => XS K g' rest P
  | .ret d f => P (.ret d f)
theorem turns {I : Sg → Prop} (t : XT K (fullOf g) e b) (h1 : Imp (b = true) (XS K g body (Turn K rest P I))) (h2 : Imp (b = false) (XS K g rest P)) : ∃ b, XT K (fullOf g) e b ∧ (b = true → XS K g body (Turn K rest P I)) ∧ (b = false → XS K g rest P) :=
  ⟨b, t, h1.out, h2.out⟩
theorem swhile (I : Nat → Sg → Prop) (n : Nat) (h : I n g) (turn : ∀ n g, I n g → ∃ b, XT K (fullOf g) e b ∧
      (b = true → XS K g body (Turn K rest P fun g' => ∃ m, m < n ∧ I m g')) ∧ (b = false → XS K g rest P)) : XS K g (.While e body [] pos :: rest) P :=
  ⟨sx_while I (fun n g hI => let ⟨b, t, h1, h2⟩ := turn n g hI; ⟨b, t.out, fun q => (h1 q).out.mono fun o => by cases o <;> first | exact fun a => a.out | exact fun a => a, fun q => (h2 q).out⟩) n h⟩
end
end V

theorem calls_def {G : Gx} {rs : List DefRec} (H : Has G rs) (x : Str) (ps rest own : List Str) {dr : DefRec} {ds : List D} {d : D} {fr : Bool} {n : Nat} (hd : rs.find? (fun e => e.name == x) = some dr) (ok : defOkB dr.scope ps rest own = true) (hl : ps.length = ds.length)
    (hb : ∀ vals : List Value, vals.length = ps.length → ∀ pm code doc, bindArgs (Calls.docDef x dr.params dr.body dr.scope pm code doc) ⟨vals, []⟩ = pure (ps.zip vals))
    (h : ∀ K : Fm, K.G = G → K.sc = dr.scope → K.own = own → K.room = n → K.A.handled = none → XS K (gStart ps ds rest) dr.body (Rets d fr)) : Calls G (n + 1) x ds d fr :=
  calls_of H.ok (H.at x hd) (defOk_of ok) hl hb fun K a b c e f => (h K a b c e f).out
end Mine
end

section
set_option autoImplicit false
namespace Mine
open PySem PySem.W

theorem well_ints {P : Params} {h : Heap} : ∀ {vs : List Value} {L : List Int}, WellAll P h vs (ofPys (L.map .int)) → RdAll [] h vs (L.map .int) []
  | vs, [], x => by
    cases x; exact .nil
  | vs, n :: L, x => by
    cases x with
    | cons a b =>
      cases a with
      | int i t => exact .cons (as := []) (bs := []) (.int _ _) (well_ints b)
theorem well_rd {P : Params} {h : Heap} {v : Value} {L : List Int} (x : Well P h v (ofPy (.list (L.map .int)))) : ∃ as, Rd [] h v (.list (L.map .int)) as := by
  cases x with
  | list a b => exact ⟨_, .list (fun hm => nomatch hm) a (well_ints b)⟩

theorem has_top {prog view : Program} {w : World} {loose : List Str} {mean : ExcName → Option Value} {mg mb : Str → Option Value} {h : Heap} (T : PyProof.Rows.Top view loose mean mg mb h)
    (hm : (bnames.all fun x => !startupNames.contains x && !loose.contains x && !((PyProof.Rows.recsOf view).map (·.name)).contains x && !((PyProof.Rows.litsOf view).map (·.1)).contains x && !((PyProof.Rows.clssOf view loose).map (·.name)).contains x) = true) :
    Has ⟨prog, w, h, mg⟩ (PyProof.Rows.recsOf view) where
  ok := {
    g := T.g
    b := ⟨mb, T.b, T.builtins⟩
    nolimit := T.nolimit
    nodigits := T.nodigits
    miss := fun x hx => by
      have := List.all_eq_true.mp hm x hx
      simp only [Bool.and_eq_true, Bool.not_eq_true'] at this
      obtain ⟨⟨⟨⟨a, b⟩, c⟩, d⟩, e⟩ := this
      refine T.free x ?_ ?_ ?_ ?_ ?_ <;> (intro q; first | (rw [List.contains_iff_mem.mpr q] at a; cases a) | (rw [List.contains_iff_mem.mpr q] at b; cases b) | (rw [List.contains_iff_mem.mpr q] at c; cases c) | (rw [List.contains_iff_mem.mpr q] at d; cases d) | (rw [List.contains_iff_mem.mpr q] at e; cases e)) }
  fn := T.fn

theorem law_top {prog : Program} {w : World} {s₁ : Shared} {mg : Str → Option Value} {n : Nat} {L : List Int} {fa : Addr} {v : Value} {P : Params} {Q : Value → Shared → Prop} {E : Value → Shared → Prop} {d : D}
    (C : Calls ⟨prog, w, s₁.heap, mg⟩ n "law" [.list (L.map .int)] d true) (hn : n ≤ 400) (hmg : mg "law" = some (.ref fa)) (hw : Well P s₁.heap v (ofPy (.list (L.map .int))))
    (hQ : ∀ v s', (∃ h' tk, s' = { s₁ with heap := h', toks := tk }) → (∀ b o, s₁.heap.get? b = some o → s'.heap.get? b = some o) → (∃ as, Rd [] s'.heap v d as) → Q v s') : wpAny (model prog w) callerA (call (.ref fa) [v]) Q E s₁ := by
  obtain ⟨a, o, fd, h1, h2, h3, h4⟩ := C
  have : a = fa := by
    have h1' : mg "law" = some (.ref a) := h1
    rw [hmg] at h1'; cases h1'; rfl
  subst this
  obtain ⟨as, r⟩ := well_rd hw
  refine wpAny_mono (h4 callerA [] [] s₁ [v] (as ++ []) E ⟨rfl, rfl, ?_, ?_, trivial, (fun b hb => nomatch hb), fun _ _ e => e⟩ (fun b hb => nomatch hb) (.cons r .nil)) (fun v' s' q => ?_) fun _ _ q => q
  · show 1 + claimMargin + n ≤ 800
    have : claimMargin = 300 := rfl
    omega
  · show 4 + 16 * n ≤ 9000
    omega
  · obtain ⟨st, bs, q1, q2⟩ := q
    refine hQ v' s' st.same (fun b o e => ?_) ⟨bs, q1⟩
    rcases st.kf b o e with q | ⟨q, _⟩
    · exact q
    · cases q
end Mine
end

section
set_option autoImplicit false
open PySem PyProof.Rows
namespace Mine
local macro_rules | `(tactic| walk_at "mem") => `(tactic| (repeat (first | exact V.m_fz | exact V.m_ow | apply V.m_tl | exact V.z_fz | apply V.z_tl | exact V.r_hd | apply V.r_tl)))
local macro_rules | `(tactic| walk_at "put") => `(tactic| (repeat (first | exact V.p_hd | apply V.p_tl)))
local macro_rules | `(tactic| walk_at "side") => `(tactic| first | assumption | exact IntMulOk.of_left (by decide) | exact IntMulOk.of_right (by decide) | decide | with_reducible rfl | omega | (simp only [List.length_cons, List.length_nil, List.length_map]; omega) | skip)
local macro_rules | `(tactic| walk_at "calls") => `(tactic| assumption)
local macro_rules | `(tactic| walk_at "ev") => `(tactic| first
  | exact Look.mk rfl
  | (apply Side.mk; walk_at "side")
  | exact V.cint
  | (apply V.name_int; walk_at "mem"; done)
  | (apply V.name_bool; walk_at "mem"; done)
  | (apply V.name; walk_at "mem"; done)
  | (apply V.gn; assumption; first | rfl | decide +kernel)
  | (apply XH.mk; assumption)
  | (apply XK.mk; walk_at "calls")
  | (apply Imp.mk; intro _; walk_at "ev")
  | exact V.cbool
  | exact V.cnone
  | exact V.i_nil
  | (apply V.i_cons <;> walk_at "ev")
  | exact V.l_nil
  | (apply V.l_cons <;> walk_at "ev")
  | (apply V.neg; walk_at "ev")
  | (apply V.enot; walk_at "ev")
  | (apply V.add <;> walk_at "ev")
  | (apply V.sub <;> walk_at "ev")
  | (apply V.mul <;> walk_at "ev")
  | (apply V.mod <;> walk_at "ev")
  | (apply V.fdiv <;> walk_at "ev")
  | (apply V.pow <;> walk_at "ev")
  | (apply V.pick <;> walk_at "ev")
  | (apply V.item_int <;> walk_at "ev")
  | (apply V.item_intT <;> walk_at "ev")
  | (apply V.item_list <;> walk_at "ev")
  | (apply V.item_tuple <;> walk_at "ev")
  | (apply V.isint <;> walk_at "ev")
  | (apply V.isbool <;> walk_at "ev")
  | (apply V.istuple <;> walk_at "ev")
  | (apply V.islist <;> walk_at "ev")
  | (apply V.isstr <;> walk_at "ev")
  | (apply V.len_list <;> walk_at "ev")
  | (apply V.len_tuple <;> walk_at "ev")
  | (apply V.abs <;> walk_at "ev")
  | (apply V.max2 <;> walk_at "ev")
  | (apply V.min2 <;> walk_at "ev")
  | (apply V.call1 <;> walk_at "ev")
  | (apply V.call2 <;> walk_at "ev")
  | (apply V.call3 <;> walk_at "ev")
  | (apply V.boolop; walk_at "ev")
  | (apply V.eand <;> walk_at "ev")
  | (apply V.eor <;> walk_at "ev")
  | (apply V.eone; walk_at "ev")
  | (apply V.ecmp <;> walk_at "ev")
  | (apply V.ecmp2 <;> walk_at "ev")
  | exact V.clt
  | exact V.cle
  | exact V.cgt
  | exact V.cge
  | exact V.ceq
  | exact V.cne
  | exact V.cisn
  | exact V.cnisn)
local macro_rules | `(tactic| walk_at "ts") => `(tactic| first
  | (apply Imp.mk; intro _; walk_at "ts")
  | (apply V.tcmp <;> walk_at "ev")
  | (apply V.tcmp2 <;> walk_at "ev")
  | (apply V.tnot; walk_at "ts")
  | (apply V.tall; walk_at "ts")
  | (apply V.tany; walk_at "ts")
  | exact V.tnil
  | exact V.tonil
  | (apply V.tand <;> walk_at "ts")
  | (apply V.tor <;> walk_at "ts")
  | (apply V.tval <;> walk_at "ev"))
local macro_rules | `(tactic| walk_at "stor") => `(tactic| first | (apply V.o_loc; assumption; rfl) | (apply V.o_own; assumption; rfl))
local macro_rules | `(tactic| walk_at "start") => `(tactic| (intro K eG eS eO eR hh; subst eG; dsimp only at eS; simp only [gStart, List.zip_cons_cons, List.zip_nil_right, List.zip_nil_left, List.map_cons, List.map_nil, List.cons_append, List.nil_append]))
local macro_rules | `(tactic| walk_at "st") => `(tactic| first
  | apply V.keep
  | exact V.p_hd
  | (apply V.p_tl; walk_at "st")
  | (apply V.o_loc; assumption; rfl)
  | (apply V.o_own; assumption; rfl)
  | walk_at "ev")
local macro_rules | `(tactic| walk_at "set") => `(tactic| (apply V.set <;> walk_at "st"))
local macro_rules | `(tactic| walk_at "ret") => `(tactic| (apply V.sret; walk_at "ev"; exact ⟨rfl, fun _ => rfl⟩))
abbrev P05 := PyProof.Rows.recsOf PySem.Challenge.pw_uf010034_05

theorem bits_of_lt {a : Int} {n : Nat} (h : a.natAbs < 2 ^ n) : Builtin.Int.intBits a ≤ n := by
  unfold Builtin.Int.intBits
  split
  · exact Nat.zero_le _
  · rename_i h0
    have hp : a.natAbs ≠ 0 := by simpa using h0
    have := (Nat.log2_lt hp).mpr h
    omega
theorem mulOk {a b : Int} (ha : a.natAbs < 2 ^ 200) (hb : b.natAbs < 2 ^ 200) : IntMulOk a b :=
  .of_bits (Nat.le_trans (bits_of_lt ha) (by decide)) (Nat.le_trans (bits_of_lt hb) (by decide))
theorem log2_small {b : Int} (h : b.natAbs < 2 ^ 200) : b.natAbs.log2 < 9000 := by
  rcases Nat.eq_zero_or_pos b.natAbs with h0 | hp
  · rw [h0]; decide
  · have := (Nat.log2_lt (Nat.ne_of_gt hp)).mpr h
    omega

theorem rounded_ok {G : Gx} (H : Has G P05) (t b : Int) (hb : 0 < b) (hs : b.natAbs < 2 ^ 199) : Calls G 1 "rounded" [.int t, .int b] (.int ((2 * t + b) / (2 * b))) true := by
  have hs : (2 * b).natAbs.log2 < 9000 := log2_small (by omega)
  refine calls_def H "rounded" ["top", "by"] [] [] rfl (by decide +kernel) rfl (fun vals h => match vals, h with | [_, _], _ => fun _ _ _ => rfl) ?_
  walk_at "start"
  refine V.sret (f := true) ?_ ⟨rfl, fun _ => rfl⟩
  walk_at "ev"

/-- the script's number at a place -/
def cell (L : List Int) (k : Int) : Int := if k < L.length then L.getD k.toNat 0 else 0
theorem cell_ok {G : Gx} (H : Has G P05) (L : List Int) (hL : L.length ≤ 63) (k : Int) (hk : 0 ≤ k) : Calls G 1 "_law_cell" [.list (L.map .int), .int k] (.int (cell L k)) true := by
  refine calls_def H "_law_cell" ["_law_script", "_law_k"] [] [] rfl (by decide +kernel) rfl (fun vals h => match vals, h with | [_, _], _ => fun _ _ _ => rfl) ?_
  walk_at "start"
  have hl : (L.map PyData.int).length ≤ sizeLine := by simp [sizeLine]; omega
  apply V.sif
  · walk_at "ts"
  · refine ⟨fun h => ?_⟩
    have h' : k < L.length := by simpa using h
    refine V.sret (d := .int (cell L k)) (f := true) ?_ ⟨rfl, fun _ => rfl⟩
    unfold cell; rw [if_pos h']
    walk_at "ev"
  · refine ⟨fun h => ?_⟩
    have h' : ¬ k < L.length := by simpa using h
    refine V.snil ?_
    refine V.sret (d := .int (cell L k)) (f := true) ?_ ⟨rfl, fun _ => rfl⟩
    unfold cell; rw [if_neg h']
    walk_at "ev"
theorem whole_ok {G : Gx} (H : Has G P05) (n : Int) : Calls G 1 "_law_whole" [.int n] (.bool true) true := by
  refine calls_def H "_law_whole" ["_law_found"] [] [] rfl (by decide +kernel) rfl (fun vals h => match vals, h with | [_], _ => fun _ _ _ => rfl) ?_
  walk_at "start"
  apply V.sret
  · walk_at "ev"
  · exact ⟨rfl, fun _ => rfl⟩
theorem sqrt_ex : ∀ n : Nat, ∃ r : Nat, r * r ≤ n ∧ n < (r + 1) * (r + 1)
  | 0 => ⟨0, by decide, by decide⟩
  | n + 1 => by
    obtain ⟨r, h1, h2⟩ := sqrt_ex n
    by_cases h : n + 1 < (r + 1) * (r + 1)
    · exact ⟨r, by omega, h⟩
    · refine ⟨r + 1, by omega, ?_⟩
      have : (r + 1) * (r + 1) < (r + 1 + 1) * (r + 1 + 1) := Nat.mul_self_lt_mul_self (by omega)
      omega
theorem sq_lt {a b : Int} (h0 : 0 ≤ a) (h : a < b) : (a + 1) * (a + 1) ≤ b * b := Int.mul_le_mul h h (by omega) (by omega)
theorem root_ok {G : Gx} (H : Has G P05) (n : Int) (h0 : 0 ≤ n) (h1 : n < 2 ^ 180) : ∃ r : Int, 0 ≤ r ∧ r * r ≤ n ∧ n < (r + 1) * (r + 1) ∧ Calls G 1 "root" [.int n] (.int r) true := by
  obtain ⟨r, r1, r2⟩ := sqrt_ex n.toNat
  have q1 : (r : Int) * r ≤ n := by have : ((r * r : Nat) : Int) ≤ n := by omega
                                    simpa using this
  have q2 : n < ((r : Int) + 1) * (r + 1) := by have : n < (((r + 1) * (r + 1) : Nat) : Int) := by omega
                                                simpa using this
  refine ⟨r, by omega, q1, q2, ?_⟩
  refine calls_def H "root" ["number"] ["low", "high", "middle"] [] rfl (by decide +kernel) rfl (fun vals h => match vals, h with | [_], _ => fun _ _ _ => rfl) ?_
  walk_at "start"
  walk_at "set"
  walk_at "set"
  refine V.swhile (fun m g => ∃ h : Int, g = ([("number", .fz (.int n)), ("low", .fz (.int 0)), ("high", .fz (.int h)), ("middle", .no)] : Sg) ∧ 1 ≤ h ∧ h ≤ 2 * n + 2 ∧ m = (n + 1 - h).toNat) n.toNat ⟨1, rfl, by omega, by omega, by omega⟩ ?_
  rintro m g ⟨h, rfl, a1, a2, rfl⟩
  have hm : IntMulOk h h := mulOk (by omega) (by omega)
  apply V.turns
  · walk_at "ts"
  · refine ⟨fun b => ?_⟩
    have b' : h * h ≤ n := by simpa using b
    have hh : h ≤ h * h := by have := Int.mul_le_mul_of_nonneg_right a1 (show 0 ≤ h by omega); omega
    walk_at "set"
    exact V.snil ⟨_, by omega, 2 * h, rfl, by omega, by omega, rfl⟩
  · refine ⟨fun b => ?_⟩
    have b' : n < h * h := by simpa using b
    refine V.swhile (fun m g => ∃ l h : Int, ∃ mid, g = ([("number", .fz (.int n)), ("low", .fz (.int l)), ("high", .fz (.int h)), ("middle", mid)] : Sg) ∧ 0 ≤ l ∧ l < h ∧ h ≤ 2 * n + 2 ∧ l * l ≤ n ∧ n < h * h ∧ m = (h - l).toNat) h.toNat ⟨0, h, .no, rfl, by omega, by omega, by omega, by omega, b', by omega⟩ ?_
    rintro m g ⟨l, h, mid, rfl, c1, c2, c3, c4, c5, rfl⟩
    apply V.turns
    · walk_at "ts"
    · refine ⟨fun d => ?_⟩
      have d' : h - l > 1 := by simpa using d
      walk_at "set"
      have hm : IntMulOk ((l + h) / 2) ((l + h) / 2) := mulOk (by omega) (by omega)
      apply V.sif
      · walk_at "ts"
      · refine ⟨fun e => ?_⟩
        have e' : (l + h) / 2 * ((l + h) / 2) ≤ n := by simpa using e
        walk_at "set"
        exact V.snil (V.snil ⟨_, by omega, (l + h) / 2, h, _, rfl, by omega, by omega, by omega, e', c5, rfl⟩)
      · refine ⟨fun e => ?_⟩
        have e' : n < (l + h) / 2 * ((l + h) / 2) := by simpa using e
        walk_at "set"
        exact V.snil (V.snil ⟨_, by omega, l, (l + h) / 2, _, rfl, by omega, by omega, by omega, c4, e', rfl⟩)
    · refine ⟨fun d => ?_⟩
      have d' : ¬ h - l > 1 := by simpa using d
      obtain rfl : h = l + 1 := by omega
      have : l = r := by
        by_cases k1 : l < r
        · have := sq_lt c1 k1; omega
        · by_cases k2 : (r : Int) < l
          · have := sq_lt (by omega) k2; omega
          · omega
      subst this
      apply V.sret
      · walk_at "ev"
      · exact ⟨rfl, fun _ => rfl⟩

local macro_rules | `(tactic| walk_at "calls") => `(tactic| first | (apply cell_ok <;> first | assumption | decide | omega) | (apply whole_ok; assumption) | assumption)

theorem pick2 {a b k : Int} (P : Int → Prop) (h : 0 ≤ k ∧ k < 2) (ha : P a) (hb : P b) : P ([a, b].getD k.toNat 0) := by
  have : k.toNat = 0 ∨ k.toNat = 1 := by omega
  rcases this with e | e <;> rw [e] <;> assumption
theorem pick3 {a b c k : Int} (P : Int → Prop) (h : 0 ≤ k ∧ k < 3) (ha : P a) (hb : P b) (hc : P c) : P ([a, b, c].getD k.toNat 0) := by
  have : k.toNat = 0 ∨ k.toNat = 1 ∨ k.toNat = 2 := by omega
  rcases this with e | e | e <;> rw [e] <;> assumption

theorem round_low (t b : Int) (hb : 0 < b) : (2 * ((2 * t + b) / (2 * b)) - 1) * b ≤ 2 * t := by
  have h := Int.mul_ediv_self_le (x := 2 * t + b) (k := 2 * b) (by omega)
  have e : (2 * ((2 * t + b) / (2 * b)) - 1) * b = 2 * b * ((2 * t + b) / (2 * b)) - b := by rw [Int.sub_mul, Int.one_mul, Int.mul_right_comm, Int.mul_comm 2 b, Int.mul_comm b 2]
  omega
theorem round_high (t b : Int) (hb : 0 < b) : 2 * t < (2 * ((2 * t + b) / (2 * b)) + 1) * b := by
  have h := Int.lt_mul_ediv_self_add (x := 2 * t + b) (k := 2 * b) (by omega)
  have e : (2 * ((2 * t + b) / (2 * b)) + 1) * b = 2 * b * ((2 * t + b) / (2 * b)) + b := by rw [Int.add_mul, Int.one_mul, Int.mul_right_comm]
  omega

theorem law_ok {G : Gx} (H : Has G P05) (L : List Int) (hL : L.length ≤ 63) : Calls G 2 "law" [.list (L.map .int)] (.bool true) true := by
  refine calls_def H "law" ["_law_script"] ["_law_most", "_law_top", "_law_by", "_law_found", "_law_number", "_law_size"] [] rfl (by decide +kernel) rfl (fun vals h => match vals, h with | [_], _ => fun _ _ _ => rfl) ?_
  walk_at "start"
  walk_at "set"
  have hM : (100 : Int) ≤ ([100, (10:Int)^(15:Int).toNat, (10:Int)^(40:Int).toNat] : List Int).getD (cell L 0 % 3).toNat 0 ∧ ([100, (10:Int)^(15:Int).toNat, (10:Int)^(40:Int).toNat] : List Int).getD (cell L 0 % 3).toNat 0 ≤ 10 ^ 40 :=
    pick3 (fun M => 100 ≤ M ∧ M ≤ 10 ^ 40) (by omega) (by decide) (by decide) (by decide)
  revert hM
  generalize ([100, (10:Int)^(15:Int).toNat, (10:Int)^(40:Int).toNat] : List Int).getD (cell L 0 % 3).toNat 0 = M
  rintro ⟨m1, m2⟩
  walk_at "set"
  have hb : (100 : Int) ≤ ([100, (10:Int)^(15:Int).toNat] : List Int).getD (cell L 0 / 3 % 2).toNat 0 ∧ ([100, (10:Int)^(15:Int).toNat] : List Int).getD (cell L 0 / 3 % 2).toNat 0 ≤ 10 ^ 15 :=
    pick2 (fun M => 100 ≤ M ∧ M ≤ 10 ^ 15) (by omega) (by decide) (by decide)
  have hb0 : (0 : Int) < ([100, (10:Int)^(15:Int).toNat] : List Int).getD (cell L 0 / 3 % 2).toNat 0 := by omega
  walk_at "set"
  clear hb0
  revert hb
  generalize ([100, (10:Int)^(15:Int).toNat] : List Int).getD (cell L 0 / 3 % 2).toNat 0 = M2
  rintro ⟨b1, b2⟩
  have b3 : 0 < 1 + cell L 2 % M2 ∧ 1 + cell L 2 % M2 ≤ 10 ^ 15 := by
    have := Int.emod_nonneg (cell L 2) (show M2 ≠ 0 by omega)
    have := Int.emod_lt_of_pos (cell L 2) (show 0 < M2 by omega)
    omega
  revert b3
  generalize 1 + cell L 2 % M2 = b
  rintro ⟨b3, b4⟩
  generalize cell L 1 * 1000003 % (2 * M + 1) - M = t0
  apply V.sif_join fun g => ∃ t b mo : Int, g = ([("_law_script", .fz (.list (L.map .int))), ("_law_most", .fz (.int mo)), ("_law_top", .fz (.int t)), ("_law_by", .fz (.int b)), ("_law_found", .no), ("_law_number", .no), ("_law_size", .no)] : Sg) ∧ 0 < b ∧ b < 2 ^ 60
  · walk_at "ts"
  · refine ⟨fun _ => ?_⟩
    walk_at "set"
    have hq : IntMulOk (2 * (cell L 1 % 1003 - 501) + 1) (2 * b / 2) := mulOk (by omega) (by omega)
    walk_at "set"
    exact V.snil ⟨_, _, _, rfl, by omega, by omega⟩
  · refine ⟨fun _ => ?_⟩
    exact V.snil ⟨_, _, _, rfl, by omega, by omega⟩
  rintro g ⟨t, b, mo, rfl, b1, b2⟩
  have hr := rounded_ok H t b b1 (by omega)
  walk_at "set"
  have l1 := round_low t b b1
  have l2 := round_high t b b1
  revert l1 l2
  generalize (2 * t + b) / (2 * b) = q
  intro l1 l2
  have w1 : IntMulOk (2 * q - 1) b := .of_right (intBits_le_64 (by omega) (by omega))
  have w2 : IntMulOk (2 * q + 1) b := .of_right (intBits_le_64 (by omega) (by omega))
  apply V.sif
  · walk_at "ts"
  · refine ⟨fun h => ?_⟩
    simp at h; omega
  refine ⟨fun _ => V.snil ?_⟩
  walk_at "set"
  have n1 : 0 ≤ cell L 3 % 10 ^ Int.toNat 40 ∧ cell L 3 % 10 ^ Int.toNat 40 < 2 ^ 180 := by
    rw [show ((10 : Int) ^ Int.toNat 40) = 10 ^ 40 from rfl]; omega
  revert n1
  generalize cell L 3 % 10 ^ Int.toNat 40 = n0
  rintro ⟨n1, n2⟩
  apply V.sif_join fun g => ∃ n t b mo : Int, ∃ o, g = ([("_law_script", .fz (.list (L.map .int))), ("_law_most", .fz (.int mo)), ("_law_top", .fz (.int t)), ("_law_by", .fz (.int b)), ("_law_found", .fz (.int q)), ("_law_number", .fz (.int n)), ("_law_size", o)] : Sg) ∧ 0 ≤ n ∧ n < 2 ^ 180
  · walk_at "ts"
  · refine ⟨fun _ => ?_⟩
    have hp := pick2 (a := 100) (b := 10 ^ Int.toNat 20) (k := cell L 4 % 2) (fun M => 0 < M ∧ M ≤ 10 ^ 20) (by omega) (by decide) (by decide)
    have hp0 := hp.1
    walk_at "set"
    clear hp0
    revert hp
    generalize ([100, (10:Int) ^ Int.toNat 20] : List Int).getD (cell L 4 % 2).toNat 0 = M3
    rintro ⟨p1, p2⟩
    have z1 : 0 ≤ cell L 3 % M3 ∧ cell L 3 % M3 < 10 ^ 20 := by
      have := Int.emod_nonneg (cell L 3) (show M3 ≠ 0 by omega)
      have := Int.emod_lt_of_pos (cell L 3) (show 0 < M3 by omega)
      omega
    revert z1
    generalize cell L 3 % M3 = z
    rintro ⟨z1, z2⟩
    have hz : IntMulOk z z := mulOk (by omega) (by omega)
    have hz2 : z * z ≤ 10 ^ 20 * 10 ^ 20 := Int.mul_le_mul (by omega) (by omega) z1 (by decide)
    have hp := pick3 (a := 0) (b := -1) (c := 1) (k := cell L 4 / 3 % 3) (fun M => -1 ≤ M ∧ M ≤ 1) (by omega) (by decide) (by decide) (by decide)
    walk_at "set"
    exact V.snil ⟨_, _, _, _, _, rfl, by omega, by omega⟩
  · exact ⟨fun _ => V.snil ⟨_, _, _, _, _, rfl, by omega, by omega⟩⟩
  rintro g ⟨n, t, b, mo, o, rfl, n1, n2⟩
  obtain ⟨r, r1, r2, r3, r4⟩ := root_ok H n n1 n2
  walk_at "set"
  have v0 : r < 2 ^ 100 := by
    by_cases hr : r < 2 ^ 100
    · exact hr
    · have : (2 : Int) ^ 100 * 2 ^ 100 ≤ r * r := Int.mul_le_mul (by omega) (by omega) (by decide) (by omega)
      omega
  have v1 : IntMulOk r r := mulOk (by omega) (by omega)
  have v2 : IntMulOk (r + 1) (r + 1) := mulOk (by omega) (by omega)
  apply V.sret
  · walk_at "ev"
  · refine ⟨⟨?_, fun _ => rfl⟩⟩
    simp [r1, r2, r3]
end Mine
end

namespace Mine
open PySem PySem.W PyProof.Rows
theorem join05 : PySem.Challenge.rw_uf010034_05.Holds := by
  refine hd05 ?_
  k_fill
  intro w s₀ s₁ mg mb G Y fa o pm cd doc dV kV ho hd hcd hD hmg hg args vals as hpre hlay hrd hwl hlo
  clear hd hcd hD Y ho
  refine Ground.open G ?_
  intro T B D TE TW
  clear B D TE TW G
  have hmg' : mg "law" = some (.ref fa) := hmg
  clear hmg
  wrow_args hpre hlay hrd hwl hlo
  rename_i L _ _ _ _ _ _ _ _ _ _ _ _ w1 _ _ _ hc _
  have H0 := has_top (prog := PySem.Challenge.rw_uf010034_05.row.prog) (w := w) T (by decide +kernel)
  have H : Has ⟨PySem.Challenge.rw_uf010034_05.row.prog, w, s₁.heap, mg⟩ P05 := H0
  refine law_top (law_ok H L (by omega)) (by decide) hmg' w1 fun v s' st hk hr => ?_
  obtain ⟨_, r⟩ := hr
  obtain ⟨rfl, _⟩ := r.bool_inv
  obtain ⟨h', tk, rfl⟩ := st
  refine GoodW.toG ⟨.inl ⟨_, .bool true, [], rfl, fun _ => rfl, .bool true, ?_, fun _ => ⟨.nil, fun a ha => nomatch ha⟩⟩, hk, rfl, hg⟩
  wrow_post
end Mine

theorem PySem.Challenge.cw_uf010034_05_holds : PySem.Challenge.rw_uf010034_05.Holds := by
  exact Mine.join05

