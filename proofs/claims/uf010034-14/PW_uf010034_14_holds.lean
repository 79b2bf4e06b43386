import PyProof.Rows.All
import Open.Line


import KE.KIntText
import PySem.Challenge.RW_uf010034_14
set_option Elab.async false
set_option maxRecDepth 100000
set_option maxHeartbeats 8000000
set_option linter.unusedVariables false

section
set_option autoImplicit false
namespace Mine
open PySem

abbrev D := PyData

def theTabs : List (Addr × Nat × Nat × Str) := []
abbrev emptyTab : Obj := { cls := .none, data := .fields #[] }
abbrev fullTab (l c : Nat) (a : Addr) : Obj := { cls := .none, data := .fields #[rawInt l, rawInt c, .ref a] }
def IsCd (h : Heap) (c : Addr) (n : Str) : Prop := ∃ oc vs tq, h.get? c = some oc ∧ oc.cls = .type "code" ∧ oc.data = .fields vs ∧ vs[1]? = some (.str n tq)
def TabTurn (h' : Heap) (b : Addr) (o : Obj) : Prop := ∃ q ∈ theTabs, b = q.1 ∧ o = emptyTab ∧ ∃ c, h'.get? b = some (fullTab q.2.1 q.2.2.1 c) ∧ IsCd h' c q.2.2.2
def KF (fr : List Addr) (h h' : Heap) : Prop :=
  ∀ b o, h.get? b = some o → h'.get? b = some o ∨ (b ∈ fr ∧ (∃ es ep, o.data = .dict es ep) ∧ ∃ sl, h'.get? b = some { o with slots := sl }) ∨ TabTurn h' b o

theorem KF.refl (fr : List Addr) (h : Heap) : KF fr h h := fun _ _ e => .inl e
theorem KF.of_keeps {fr : List Addr} {h h' : Heap} (k : ∀ b o, h.get? b = some o → h'.get? b = some o) : KF fr h h' := fun b o e => .inl (k b o e)
theorem KF.whole {fr : List Addr} {h h' : Heap} (x : KF fr h h') {a : Addr} {o : Obj} (e : h.get? a = some o) (hd : ∀ es ep, o.data ≠ .dict es ep) (hn : o ≠ emptyTab) : h'.get? a = some o := by
  rcases x a o e with y | ⟨_, ⟨es, ep, q⟩, _⟩ | ⟨_, _, _, q, _⟩
  · exact y
  · exact absurd q (hd es ep)
  · exact absurd q hn
theorem KF.isCd {fr : List Addr} {h h' : Heap} (x : KF fr h h') {c : Addr} {n : Str} (k : IsCd h c n) : IsCd h' c n := by
  obtain ⟨oc, vs, tq, hoc, hc, hdc, hq⟩ := k
  exact ⟨oc, vs, tq, x.whole hoc (fun es ep q => by rw [hdc] at q; cases q) (fun q => by rw [q] at hc; cases hc), hc, hdc, hq⟩
theorem KF.trans {fr : List Addr} {h₁ h₂ h₃ : Heap} (x : KF fr h₁ h₂) (y : KF fr h₂ h₃) : KF fr h₁ h₃ := fun b o e => by
  rcases x b o e with x1 | ⟨hb, ⟨es, ep, hd⟩, sl, x2⟩ | ⟨q, hq, hb, ho, c, x3, x4⟩
  · exact y b o x1
  · rcases y b _ x2 with y1 | ⟨_, _, sl', y2⟩ | ⟨_, _, _, ho, _⟩
    · exact .inr (.inl ⟨hb, ⟨es, ep, hd⟩, sl, y1⟩)
    · exact .inr (.inl ⟨hb, ⟨es, ep, hd⟩, sl', y2⟩)
    · have := congrArg Obj.data ho
      simp only [hd] at this
      cases this
  · refine .inr (.inr ⟨q, hq, hb, ho, c, ?_, y.isCd x4⟩)
    exact y.whole x3 (fun es ep z => by cases z) (fun z => by have := congrArg Obj.data z; simp at this)
theorem KF.mono {fr fr' : List Addr} {h h' : Heap} (x : KF fr h h') (hs : ∀ b ∈ fr, b ∈ fr') : KF fr' h h' := fun b o e =>
  (x b o e).imp id fun y => y.imp (fun ⟨hb, r⟩ => ⟨hs b hb, r⟩) id
def TabsSt (h : Heap) : Prop := ∀ q ∈ theTabs, h.get? q.1 = some emptyTab ∨ ∃ c, h.get? q.1 = some (fullTab q.2.1 q.2.2.1 c) ∧ IsCd h c q.2.2.2
theorem tab_uniq : ∀ q ∈ theTabs, ∀ p ∈ theTabs, q.1 = p.1 → q = p := by decide
theorem KF.tabs {fr : List Addr} {h h' : Heap} (x : KF fr h h') (t : TabsSt h) : TabsSt h' := fun q hq => by
  rcases t q hq with e | ⟨c, e, k⟩
  · rcases x _ _ e with y | ⟨_, ⟨es, ep, z⟩, _⟩ | ⟨p, hp, z, _, c, y, k⟩
    · exact .inl y
    · cases z
    · cases tab_uniq q hq p hp z
      exact .inr ⟨c, y, k⟩
  · exact .inr ⟨c, x.whole e (fun es ep z => by cases z) (fun z => by have := congrArg Obj.data z; simp at this), x.isCd k⟩
theorem KF.live {fr : List Addr} {h h' : Heap} (x : KF fr h h') {a : Addr} {o : Obj} (e : h.get? a = some o) : ∃ o', h'.get? a = some o' := by
  rcases x a o e with y | ⟨_, _, sl, y⟩ | ⟨_, _, _, _, _, y, _⟩ <;> exact ⟨_, y⟩
theorem KF.fresh {fr : List Addr} {h h' : Heap} (x : KF fr h h') {a : Addr} (e : h'.get? a = none) : h.get? a = none := by
  cases q : h.get? a with
  | none => rfl
  | some o => obtain ⟨o', y⟩ := x.live q; rw [e] at y; cases y
theorem KF.at {fr : List Addr} {h h' : Heap} (x : KF fr h h') {a : Addr} {o : Obj} (e : h.get? a = some o) (hn : o ≠ emptyTab) :
    ∃ o', h'.get? a = some o' ∧ o'.cls = o.cls ∧ o'.data = o.data ∧ o'.dict = o.dict := by
  rcases x a o e with y | ⟨_, _, sl, y⟩ | ⟨_, _, _, q, _⟩
  · exact ⟨o, y, rfl, rfl, rfl⟩
  · exact ⟨_, y, rfl, rfl, rfl⟩
  · exact absurd q hn
theorem ne_tab {o : Obj} {d : Data} (hd : o.data = d) (hn : d ≠ .fields #[]) : o ≠ emptyTab := fun q => hn (by rw [← hd, q])
theorem KF.stays {fr : List Addr} {base h h' : Heap} (x : KF fr h h') (hb : ∀ b ∈ fr, base.get? b = none) (ht : ∀ q ∈ theTabs, base.get? q.1 = none) (k : base.StaysIn h) : base.StaysIn h' := fun b o e => by
  rcases x b o (k b o e) with y | ⟨hm, _⟩ | ⟨q, hq, rfl, _⟩
  · exact y
  · rw [hb b hm] at e; cases e
  · rw [ht q hq] at e; cases e
theorem KF.ns {fr : List Addr} {h h' : Heap} (x : KF fr h h') {a : Addr} {m : Str → Option Value} (n : h.Ns a m) : h'.Ns a m := by
  obtain ⟨o, es, ep, ho, hd, r⟩ := n
  obtain ⟨o', ho', _, hd', _⟩ := x.at ho (ne_tab hd (fun z => by cases z))
  exact ⟨o', es, ep, ho', hd'.trans hd, r⟩
theorem KF.cell {fr : List Addr} {h h' : Heap} (x : KF fr h h') {a : Addr} {v : Option Value} (n : h.IsCell a v) : h'.IsCell a v := by
  obtain ⟨o, ho, hd⟩ := n
  obtain ⟨o', ho', _, hd', _⟩ := x.at ho (ne_tab hd (fun z => by cases z))
  exact ⟨o', ho', hd'.trans hd⟩

theorem TabTurn.keep {h h' : Heap} {b : Addr} {o : Obj} (t : TabTurn h b o) (k : ∀ b o, h.get? b = some o → (∃ vs, o.data = .fields vs) → (o.cls = .none ∨ o.cls = .type "code") → h'.get? b = some o) : TabTurn h' b o := by
  obtain ⟨q, hq, hb, ho, c, h1, ⟨oc, vs, tq, hoc, hc, hdc, hx⟩⟩ := t
  exact ⟨q, hq, hb, ho, c, k _ _ h1 ⟨_, rfl⟩ (.inl rfl), oc, vs, tq, k _ _ hoc ⟨_, hdc⟩ (.inr hc), hc, hdc, hx⟩
abbrev listO (vs : List Value) (n : Nat) : Obj := { cls := .type "list", data := .seq vs.toArray n }
abbrev tupO (vs : List Value) (n : Nat) : Obj := { cls := .type "tuple", data := .seq vs.toArray n }

def Solid (o : Obj) : Prop := (∃ xs n, o.data = .seq xs n) ∨ ∃ vs, o.data = .fields vs ∧ o.cls ≠ .none ∧ o.cls ≠ .type "code"
theorem Solid.tab {o : Obj} (so : Solid o) : o ≠ emptyTab := fun q => by
  subst q
  rcases so with ⟨_, _, z⟩ | ⟨_, _, z, _⟩
  · cases z
  · exact z rfl
theorem Solid.nodict {o : Obj} (so : Solid o) : ∀ es ep, o.data ≠ .dict es ep := fun es ep q => by rcases so with ⟨_, _, z⟩ | ⟨_, z, _⟩ <;> (rw [q] at z; cases z)
theorem solid_fields {o : Obj} {vs : Array Value} {c : Value} (h : o.data = .fields vs) (hc : o.cls = c) (hn : c ≠ .none) (hk : c ≠ .type "code") : Solid o := .inr ⟨_, h, hc ▸ hn, hc ▸ hk⟩
theorem turn_lt {n i : Nat} (h : i < n) : n + 1 - (i + 1) < n + 1 - i := by lia
theorem solid_ty {o : Obj} {vs : Array Value} {T : String} (h : o.data = .fields vs) (hc : o.cls = .type T) (hT : T ≠ "code") : Solid o := solid_fields h hc (fun z => by cases z) fun z => hT (Value.type.inj z)
theorem Solid.off {o : Obj} (so : Solid o) (hf : ∃ vs, o.data = .fields vs) (hc : o.cls = .none ∨ o.cls = .type "code") : False := by
  rcases so with ⟨_, _, z⟩ | ⟨_, _, z1, z2⟩
  · obtain ⟨_, q⟩ := hf
    rw [q] at z; cases z
  · exact hc.elim z1 z2
abbrev excD (C : Addr) : D := .dict [(.none, .int (C : Int))]
mutual
def clean : D → Bool
  | .dict _ => false
  | .list xs => cleanAll xs
  | .tuple xs => cleanAll xs
  | .none => true
  | .bool _ => true
  | .int _ => true
  | .str _ => true
def cleanAll : List D → Bool
  | [] => true
  | x :: xs => clean x && cleanAll xs
end
mutual
inductive Rd (W : List Addr) (h : Heap) : Value → D → List Addr → Prop
  | none : Rd W h .none .none []
  | bool (b) : Rd W h (.bool b) (.bool b) []
  | int (i t) : Rd W h (.int i t) (.int i) []
  | str (x t) : PyData.canLay0 (.str x) = true → Rd W h (.str x t) (.str x) []
  | list {a vs n ds as} : a ∉ W → h.get? a = some (listO vs n) → RdAll W h vs ds as → Rd W h (.ref a) (.list ds) (a :: as)
  | tuple {a vs n ds as} : a ∉ W → h.get? a = some (tupO vs n) → RdAll W h vs ds as → Rd W h (.ref a) (.tuple ds) as
  | exc {a C o vs} : a ∉ W → h.get? a = some o → o.cls = .ref C → o.data = .fields vs → Rd W h (.ref a) (excD C) []
inductive RdAll (W : List Addr) (h : Heap) : List Value → List D → List Addr → Prop
  | nil : RdAll W h [] [] []
  | cons {v vs d ds as bs} : Rd W h v d as → RdAll W h vs ds bs → RdAll W h (v :: vs) (d :: ds) (as ++ bs)
end

def NoTab (o : Obj) : Prop := (∃ vs, o.data = .fields vs) → (o.cls = .none ∨ o.cls = .type "code") → False
theorem Solid.noTab {o : Obj} (so : Solid o) : NoTab o := fun a b => so.off a b
theorem noTab_dict {o : Obj} {es : Array DictEntry} {ep : Nat} (h : o.data = .dict es ep) : NoTab o := fun ⟨_, q⟩ _ => by rw [h] at q; cases q
theorem solid_noTab {X : List Addr} {h : Heap} (x : ∀ a ∈ X, ∃ o, h.get? a = some o ∧ Solid o) : ∀ a ∈ X, ∃ o, h.get? a = some o ∧ NoTab o := fun a ha => let ⟨o, e, so⟩ := x a ha; ⟨o, e, so.noTab⟩
def KS (W : List Addr) (h h' : Heap) : Prop := ∀ b o, b ∉ W → h.get? b = some o → Solid o → h'.get? b = some o
structure RdC (W : List Addr) (h : Heap) (P : Value → D → List Addr → Prop) (S : List Value → List D → List Addr → Prop) : Prop where
  none : P .none .none []
  bool : ∀ b, P (.bool b) (.bool b) []
  int : ∀ i t, P (.int i t) (.int i) []
  str : ∀ x t, PyData.canLay0 (.str x) = true → P (.str x t) (.str x) []
  list : ∀ {a vs n ds as}, a ∉ W → h.get? a = some (listO vs n) → S vs ds as → P (.ref a) (.list ds) (a :: as)
  tuple : ∀ {a vs n ds as}, a ∉ W → h.get? a = some (tupO vs n) → S vs ds as → P (.ref a) (.tuple ds) as
  exc : ∀ {a C o vs}, a ∉ W → h.get? a = some o → o.cls = .ref C → o.data = .fields vs → P (.ref a) (excD C) []
  nil : S [] [] []
  cons : ∀ {v vs d ds as bs}, P v d as → S vs ds bs → S (v :: vs) (d :: ds) (as ++ bs)
theorem RdC.rd {W : List Addr} {h : Heap} {P : Value → D → List Addr → Prop} {S : List Value → List D → List Addr → Prop} (c : RdC W h P S) {v : Value} {d : D} {as : List Addr} (r : Rd W h v d as) : P v d as :=
  Rd.rec (motive_1 := fun v d as _ => P v d as) (motive_2 := fun vs ds as _ => S vs ds as) c.none c.bool c.int c.str (fun h0 h1 _ ih => c.list h0 h1 ih) (fun h0 h1 _ ih => c.tuple h0 h1 ih) (fun h0 h1 h2 h3 => c.exc h0 h1 h2 h3) c.nil (fun _ _ i1 i2 => c.cons i1 i2) r
theorem RdC.rds {W : List Addr} {h : Heap} {P : Value → D → List Addr → Prop} {S : List Value → List D → List Addr → Prop} (c : RdC W h P S) {vs : List Value} {ds : List D} {as : List Addr} (r : RdAll W h vs ds as) : S vs ds as :=
  RdAll.rec (motive_1 := fun v d as _ => P v d as) (motive_2 := fun vs ds as _ => S vs ds as) c.none c.bool c.int c.str (fun h0 h1 _ ih => c.list h0 h1 ih) (fun h0 h1 _ ih => c.tuple h0 h1 ih) (fun h0 h1 h2 h3 => c.exc h0 h1 h2 h3) c.nil (fun _ _ i1 i2 => c.cons i1 i2) r
theorem solid_list {vs : List Value} {n : Nat} : Solid (listO vs n) := .inl ⟨_, _, rfl⟩
theorem solid_tup {vs : List Value} {n : Nat} : Solid (tupO vs n) := .inl ⟨_, _, rfl⟩
theorem rdc_ks {W : List Addr} {h h' : Heap} (x : KS W h h') : RdC W h (Rd W h') (RdAll W h') :=
  ⟨.none, .bool, .int, .str, fun h0 h1 ih => .list h0 (x _ _ h0 h1 solid_list) ih, fun h0 h1 ih => .tuple h0 (x _ _ h0 h1 solid_tup) ih, fun h0 h1 h2 h3 => .exc h0 (x _ _ h0 h1 (solid_fields h3 h2 (fun z => by cases z) (fun z => by cases z))) h2 h3, .nil, .cons⟩
theorem Rd.ks {W : List Addr} {h h' : Heap} (x : KS W h h') {v : Value} {d : D} {as : List Addr} (r : Rd W h v d as) : Rd W h' v d as := (rdc_ks x).rd r
theorem RdAll.ks {W : List Addr} {h h' : Heap} (x : KS W h h') {vs : List Value} {ds : List D} {as : List Addr} (r : RdAll W h vs ds as) : RdAll W h' vs ds as := (rdc_ks x).rds r
theorem KF.ks {fr W : List Addr} {h h' : Heap} (x : KF fr h h') : KS W h h' := fun _ o _ e so => x.whole e so.nodict so.tab
theorem Rd.kf {W fr : List Addr} {h h' : Heap} (x : KF fr h h') {v : Value} {d : D} {as : List Addr} (r : Rd W h v d as) : Rd W h' v d as := r.ks x.ks
theorem RdAll.kf {W fr : List Addr} {h h' : Heap} (x : KF fr h h') {vs : List Value} {ds : List D} {as : List Addr} (r : RdAll W h vs ds as) : RdAll W h' vs ds as := r.ks x.ks
theorem rdc_off {W W' : List Addr} {h : Heap} (x : ∀ b o, b ∉ W → h.get? b = some o → Solid o → b ∉ W') : RdC W h (Rd W' h) (RdAll W' h) :=
  ⟨.none, .bool, .int, .str, fun h0 h1 ih => .list (x _ _ h0 h1 solid_list) h1 ih, fun h0 h1 ih => .tuple (x _ _ h0 h1 solid_tup) h1 ih, fun h0 h1 h2 h3 => .exc (x _ _ h0 h1 (solid_fields h3 h2 (fun z => by cases z) (fun z => by cases z))) h1 h2 h3, .nil, .cons⟩
theorem Rd.off {W W' : List Addr} {h : Heap} (x : ∀ b o, b ∉ W → h.get? b = some o → Solid o → b ∉ W') {v : Value} {d : D} {as : List Addr} (r : Rd W h v d as) : Rd W' h v d as := (rdc_off x).rd r
theorem RdAll.off {W W' : List Addr} {h : Heap} (x : ∀ b o, b ∉ W → h.get? b = some o → Solid o → b ∉ W') {vs : List Value} {ds : List D} {as : List Addr} (r : RdAll W h vs ds as) : RdAll W' h vs ds as := (rdc_off x).rds r
theorem Rd.sub {W W' : List Addr} {h : Heap} (hs : ∀ a ∈ W', a ∈ W) {v : Value} {d : D} {as : List Addr} (r : Rd W h v d as) : Rd W' h v d as := r.off fun b _ hb _ _ hm => hb (hs b hm)
theorem RdAll.sub {W W' : List Addr} {h : Heap} (hs : ∀ a ∈ W', a ∈ W) {vs : List Value} {ds : List D} {as : List Addr} (r : RdAll W h vs ds as) : RdAll W' h vs ds as := r.off fun b _ hb _ _ hm => hb (hs b hm)
theorem Rd.ext {W W' : List Addr} {h : Heap} (hn : ∀ a ∈ W', h.get? a = Option.none) {v : Value} {d : D} {as : List Addr} (r : Rd W h v d as) : Rd (W ++ W') h v d as :=
  r.off fun b o hb e _ hm => (List.mem_append.mp hm).elim hb fun hm => by rw [hn b hm] at e; cases e
theorem RdAll.ext {W W' : List Addr} {h : Heap} (hn : ∀ a ∈ W', h.get? a = none) {vs : List Value} {ds : List D} {as : List Addr} (r : RdAll W h vs ds as) : RdAll (W ++ W') h vs ds as :=
  r.off fun b o hb e _ hm => (List.mem_append.mp hm).elim hb fun hm => by rw [hn b hm] at e; cases e
theorem clean_list {ds : List D} (c : clean (.list ds) = true) : cleanAll ds = true := by rw [clean] at c; exact c
theorem clean_tuple {ds : List D} (c : clean (.tuple ds) = true) : cleanAll ds = true := by rw [clean] at c; exact c
theorem clean_exc {C : Addr} {P : Prop} (c : clean (excD C) = true) : P := by rw [clean] at c; cases c
theorem clean_cons {d : D} {ds : List D} (c : cleanAll (d :: ds) = true) : clean d = true ∧ cleanAll ds = true := by rw [cleanAll] at c; exact Bool.and_eq_true_iff.mp c
theorem rdc_reads {W : List Addr} {h : Heap} : RdC W h (fun v d as => clean d = true → Reads h v d as) (fun vs ds as => cleanAll ds = true → ReadsAll h vs ds as) :=
  ⟨fun _ => .none, fun b _ => .bool b, fun i t _ => .int i t, fun x t _ _ => .str x t, fun _ h1 ih c => .list h1 rfl rfl (ih (clean_list c)), fun _ h1 ih c => .tuple h1 rfl rfl (ih (clean_tuple c)), fun _ _ _ _ c => clean_exc c, fun _ => .nil,
    fun i1 i2 c => .cons (i1 (clean_cons c).1) (i2 (clean_cons c).2)⟩
theorem Rd.reads {W : List Addr} {h : Heap} {v : Value} {d : D} {as : List Addr} (r : Rd W h v d as) (c : clean d = true) : Reads h v d as := rdc_reads.rd r c
theorem lay_cons {d : D} {ds : List D} (h1 : d.canLay0 = true) (h2 : PyData.canLayAll0 ds = true) : PyData.canLayAll0 (d :: ds) = true := by rw [PyData.canLayAll0, h1, h2]; rfl
theorem rdc_lay {W : List Addr} {h : Heap} : RdC W h (fun v d as => clean d = true → d.canLay0 = true) (fun vs ds as => cleanAll ds = true → PyData.canLayAll0 ds = true) :=
  ⟨fun _ => rfl, fun _ _ => rfl, fun _ _ _ => rfl, fun _ _ c _ => c, fun _ _ ih c => ih (clean_list c), fun _ _ ih c => ih (clean_tuple c), fun _ _ _ _ c => clean_exc c, fun _ => rfl, fun i1 i2 c => lay_cons (i1 (clean_cons c).1) (i2 (clean_cons c).2)⟩
theorem Rd.lay {W : List Addr} {h : Heap} {v : Value} {d : D} {as : List Addr} (r : Rd W h v d as) (c : clean d = true) : d.canLay0 = true := rdc_lay.rd r c
theorem rdc_id {W : List Addr} {h : Heap} {S : List Value → List D → List Addr → Prop} (nil : S [] [] []) (cons : ∀ {v vs d ds as bs}, Rd W h v d as → RdAll W h vs ds bs → S vs ds bs → S (v :: vs) (d :: ds) (as ++ bs)) {vs : List Value} {ds : List D} {as : List Addr} (r : RdAll W h vs ds as) : S vs ds as :=
  (RdC.rds (P := Rd W h) (S := fun vs ds as => RdAll W h vs ds as ∧ S vs ds as) ⟨.none, .bool, .int, .str, fun h0 h1 ih => .list h0 h1 ih.1, fun h0 h1 ih => .tuple h0 h1 ih.1, .exc, ⟨.nil, nil⟩, fun i1 i2 => ⟨.cons i1 i2.1, cons i1 i2.1 i2.2⟩⟩ r).2
theorem RdAll.length {W : List Addr} {h : Heap} {vs : List Value} {ds : List D} {as : List Addr} (r : RdAll W h vs ds as) : vs.length = ds.length :=
  rdc_id (S := fun vs ds _ => vs.length = ds.length) rfl (fun _ _ ih => congrArg Nat.succ ih) r
theorem RdAll.append {W : List Addr} {h : Heap} {vs : List Value} {ds : List D} {as : List Addr} (r : RdAll W h vs ds as) {ws : List Value} {es : List D} {bs : List Addr} (y : RdAll W h ws es bs) : RdAll W h (vs ++ ws) (ds ++ es) (as ++ bs) :=
  rdc_id (S := fun vs ds as => RdAll W h (vs ++ ws) (ds ++ es) (as ++ bs)) y (fun h1 _ ih => by rw [List.append_assoc]; exact .cons h1 ih) r
inductive RdGet (W : List Addr) (h : Heap) (vs : List Value) (i : Nat) (d : D) (as : List Addr) : Prop
  | mk (v : Value) (bs : List Addr) : vs[i]? = some v → Rd W h v d bs → (∀ a ∈ bs, a ∈ as) → RdGet W h vs i d as
theorem RdAll.get {W : List Addr} {h : Heap} {vs : List Value} {ds : List D} {as : List Addr} (r : RdAll W h vs ds as) : ∀ (i : Nat) d, ds[i]? = some d → RdGet W h vs i d as :=
  rdc_id (S := fun vs ds as => ∀ (i : Nat) d, ds[i]? = some d → RdGet W h vs i d as) (fun _ _ e => nomatch e)
    (fun h1 _ ih i d e => by
      cases i with
      | zero => cases e; exact ⟨_, _, rfl, h1, fun a ha => List.mem_append_left _ ha⟩
      | succ i => exact let ⟨v, bs, q1, q2, q3⟩ := ih i d e; ⟨v, bs, q1, q2, fun a ha => List.mem_append_right _ (q3 a ha)⟩) r
inductive RdGetv (W : List Addr) (h : Heap) (ds : List D) (i : Nat) (v : Value) (as : List Addr) : Prop
  | mk (d : D) (bs : List Addr) : ds[i]? = some d → Rd W h v d bs → (∀ a ∈ bs, a ∈ as) → RdGetv W h ds i v as
theorem RdAll.getv {W : List Addr} {h : Heap} {vs : List Value} {ds : List D} {as : List Addr} (r : RdAll W h vs ds as) (i : Nat) (v : Value) (e : vs[i]? = some v) : RdGetv W h ds i v as := by
  have hl := r.length
  have hi : i < ds.length := by rw [← hl]; exact (List.getElem?_eq_some_iff.mp e).1
  obtain ⟨v', bs, q1, q2, q3⟩ := r.get i ds[i] (List.getElem?_eq_getElem hi)
  rw [e] at q1; cases q1
  exact ⟨_, bs, List.getElem?_eq_getElem hi, q2, q3⟩
theorem RdAll.of {W : List Addr} {h : Heap} : ∀ {vs : List Value} {ds : List D}, vs.length = ds.length → (∀ (i : Nat) v d, vs[i]? = some v → ds[i]? = some d → ∃ as, Rd W h v d as) → ∃ as, RdAll W h vs ds as
  | [], [], _, _ => ⟨[], .nil⟩
  | v :: vs, d :: ds, hl, hk => by
    obtain ⟨as, q1⟩ := hk 0 v d rfl rfl
    obtain ⟨bs, q3⟩ := RdAll.of (vs := vs) (ds := ds) (by simpa using hl) fun i w e h1 h2 => hk (i + 1) w e h1 h2
    exact ⟨as ++ bs, .cons q1 q3⟩
inductive IntInv (v : Value) (i : Int) (as : List Addr) : Prop
  | mk (t : Tok) : v = .int i t → as = [] → IntInv v i as
inductive StrInv (v : Value) (x : Str) (as : List Addr) : Prop
  | mk (t : Tok) : v = .str x t → as = [] → PyData.canLay0 (.str x) = true → StrInv v x as
inductive ListInv (W : List Addr) (h : Heap) (v : Value) (ds : List D) (as : List Addr) : Prop
  | mk (a : Addr) (vs : List Value) (n : Nat) (bs : List Addr) : v = .ref a → as = a :: bs → h.get? a = some (listO vs n) → RdAll W h vs ds bs → a ∉ W → ListInv W h v ds as
inductive TupInv (W : List Addr) (h : Heap) (v : Value) (ds : List D) (as : List Addr) : Prop
  | mk (a : Addr) (vs : List Value) (n : Nat) : v = .ref a → h.get? a = some (tupO vs n) → RdAll W h vs ds as → a ∉ W → TupInv W h v ds as
theorem Rd.int_inv {W : List Addr} {h : Heap} {v : Value} {i : Int} {as : List Addr} (r : Rd W h v (.int i) as) : IntInv v i as := by cases r; exact ⟨_, rfl, rfl⟩
theorem Rd.bool_inv {W : List Addr} {h : Heap} {v : Value} {b : Bool} {as : List Addr} (r : Rd W h v (.bool b) as) : v = .bool b ∧ as = [] := by cases r; exact ⟨rfl, rfl⟩
theorem Rd.none_inv {W : List Addr} {h : Heap} {v : Value} {as : List Addr} (r : Rd W h v .none as) : v = .none ∧ as = [] := by cases r; exact ⟨rfl, rfl⟩
theorem Rd.str_inv {W : List Addr} {h : Heap} {v : Value} {x : Str} {as : List Addr} (r : Rd W h v (.str x) as) : StrInv v x as := by
  cases r with
  | str _ t c => exact ⟨_, rfl, rfl, c⟩
theorem Rd.list_inv {W : List Addr} {h : Heap} {v : Value} {ds : List D} {as : List Addr} (r : Rd W h v (.list ds) as) : ListInv W h v ds as := by
  cases r with
  | list h0 h1 h2 => exact ⟨_, _, _, _, rfl, rfl, h1, h2, h0⟩
theorem Rd.tuple_inv {W : List Addr} {h : Heap} {v : Value} {ds : List D} {as : List Addr} (r : Rd W h v (.tuple ds) as) : TupInv W h v ds as := by
  cases r with
  | tuple h0 h1 h2 => exact ⟨_, _, _, rfl, h1, h2, h0⟩
def LW (W : List Addr) (h : Heap) (as : List Addr) : Prop := ∀ a ∈ as, a ∉ W ∧ ∃ vs n, h.get? a = some (listO vs n)
theorem lw_nil {W : List Addr} {h : Heap} : LW W h [] := fun _ m => nomatch m
theorem lw_cons {W : List Addr} {h : Heap} {a : Addr} {as : List Addr} (h1 : a ∉ W ∧ ∃ vs n, h.get? a = some (listO vs n)) (h2 : LW W h as) : LW W h (a :: as) := fun b m => by
  rcases List.mem_cons.mp m with rfl | m
  · exact h1
  · exact h2 b m
theorem lw_app {W : List Addr} {h : Heap} {as bs : List Addr} (h1 : LW W h as) (h2 : LW W h bs) : LW W h (as ++ bs) := fun b m => (List.mem_append.mp m).elim (h1 b) (h2 b)
theorem rdc_there {W : List Addr} {h : Heap} : RdC W h (fun _ _ as => LW W h as) (fun _ _ as => LW W h as) :=
  ⟨lw_nil, fun _ => lw_nil, fun _ _ => lw_nil, fun _ _ _ => lw_nil, fun h0 h1 ih => lw_cons ⟨h0, _, _, h1⟩ ih, fun _ _ ih => ih, fun _ _ _ _ => lw_nil, lw_nil, lw_app⟩
theorem Rd.there {W : List Addr} {h : Heap} {v : Value} {d : D} {as : List Addr} (r : Rd W h v d as) : ∀ a ∈ as, a ∉ W ∧ ∃ vs n, h.get? a = some (listO vs n) := rdc_there.rd r
theorem RdAll.there {W : List Addr} {h : Heap} {vs : List Value} {ds : List D} {as : List Addr} (r : RdAll W h vs ds as) : ∀ a ∈ as, a ∉ W ∧ ∃ vs n, h.get? a = some (listO vs n) := rdc_there.rds r

structure Step (fr : List Addr) (s s' : Shared) : Prop where
  same : ∃ h' tk, s' = { s with heap := h', toks := tk }
  kf : KF fr s.heap s'.heap

theorem Step.refl (fr : List Addr) (s : Shared) : Step fr s s := ⟨⟨_, _, rfl⟩, .refl _ _⟩
theorem Step.trans {fr : List Addr} {s₁ s₂ s₃ : Shared} (x : Step fr s₁ s₂) (y : Step fr s₂ s₃) : Step fr s₁ s₃ := by
  obtain ⟨⟨h', tk, rfl⟩, k⟩ := x
  obtain ⟨⟨h'', tk', rfl⟩, k'⟩ := y
  exact ⟨⟨h'', tk', rfl⟩, k.trans k'⟩
theorem Step.toks {fr : List Addr} {s s' : Shared} (x : Step fr s s') (t : Nat) : Step fr s { s' with toks := t } := by
  obtain ⟨⟨h', tk, rfl⟩, k⟩ := x
  exact ⟨⟨h', t, rfl⟩, k⟩
theorem Step.of_keeps {fr : List Addr} {s : Shared} {h' : Heap} {tk : Nat} (k : ∀ b o, s.heap.get? b = some o → h'.get? b = some o) : Step fr s { s with heap := h', toks := tk } :=
  ⟨⟨_, _, rfl⟩, .of_keeps k⟩

structure Gx where
  prog : Program
  w : World
  base : Heap
  mg : Str → Option Value
abbrev Gx.M (G : Gx) : Model := model G.prog G.w

structure Fm where
  G : Gx
  A : Around
  env : Env
  /-- the frames of the stack, this one first -/
  envs : List Env
  s0 : Shared
  room : Nat
  sc : Scope
  /-- the block's own names that stand in cells -/
  own : List Str

def Fm.fr (K : Fm) : List Addr := K.envs.filterMap (·.frame)
abbrev Fm.M (K : Fm) : Model := K.G.M

def Holds (env : Env) (h : Heap) (x : Str) (v : Value) : Prop :=
  (env.kindOf x = some .local ∧ ∃ m, h.Ns env.locals m ∧ m x = some v) ∨
  ((env.kindOf x = some .cell ∨ env.kindOf x = some .free) ∧ ∃ c, env.cells.lookup x = some c ∧ h.IsCell c (some v))

theorem KF.holds {fr : List Addr} {h h' : Heap} (x : KF fr h h') {env : Env} {y : Str} {v : Value} (r : Holds env h y v) : Holds env h' y v := by
  rcases r with ⟨k, m, n, e⟩ | ⟨k, c, e, n⟩
  · exact .inl ⟨k, m, x.ns n, e⟩
  · exact .inr ⟨k, c, e, x.cell n⟩

def bnames : List Str := ["len", "range", "isinstance", "all", "sum", "min", "max", "abs", "tuple", "list", "int", "str", "bool", "enumerate", "zip", "sorted", "ValueError"]
structure Gx.Ok (G : Gx) : Prop where
  g : G.base.Ns mainGlobals G.mg
  b : ∃ mb, G.base.Ns builtinsNs mb ∧ ∀ x : Str, x ≠ "__name__" → mb x = bootBuiltins x
  nolimit : G.base.NoLimit
  nodigits : ∃ mc, G.base.Ns cStatics mc ∧ mc "sys.int_max_str_digits" = none
  miss : ∀ x ∈ bnames, G.mg x = none
  notab : ∀ q ∈ theTabs, G.base.get? q.1 = none

structure Fm.Ok (K : Fm) : Prop where
  scope : K.env.scope = K.sc
  kind : K.sc.kind = .function
  globals : K.env.globals = mainGlobals
  builtins : K.env.builtins = builtinsNs
  frames : K.A.frames = some K.envs
  apart : K.env.cells.Pairwise fun x y => x.2 ≠ y.2
  base0 : K.G.base.StaysIn K.s0.heap
  tabs0 : TabsSt K.s0.heap
  locnew : K.s0.heap.get? K.env.locals = none
  ownnew : ∀ x ∈ K.own, K.sc.names.lookup x = some .cell ∧ ∃ c, K.env.cells.lookup x = some c ∧ K.s0.heap.get? c = none
  hascell : ∀ x, K.sc.names.lookup x = some .cell ∨ K.sc.names.lookup x = some .free → ∃ c, K.env.cells.lookup x = some c
  gl : K.G.Ok
  depth : K.A.depth + K.room ≤ 800
  units : K.A.units + 16 * K.room ≤ 9000

theorem Fm.Ok.kindE {K : Fm} (k : K.Ok) : K.env.scope.kind = .function := by rw [k.scope]; exact k.kind
theorem Fm.Ok.kindOf {K : Fm} (k : K.Ok) {x : Str} {q : Option NameKind} (h : K.sc.names.lookup x = q) : K.env.kindOf x = q := by unfold Env.kindOf; rw [k.scope]; exact h
def plainName (x : Str) : Bool := !(x == ("__classdict__" : Str)) && !(x == ("__debug__" : Str))

structure Rel (K : Fm) (rho : List (Str × Option D)) (W : List Addr) (s : Shared) : Prop where
  ok : K.Ok
  off : ∀ a ∈ W, ∃ o, s.heap.get? a = some o
  same : ∃ h' tk, s = { K.s0 with heap := h', toks := tk }
  stays : K.G.base.StaysIn s.heap
  kept : KF K.fr K.s0.heap s.heap
  frames : s.heap.FunFrames K.G.base K.envs
  fdict : ∀ b ∈ K.fr, ∃ m, s.heap.Ns b m
  loc : ∃ m, s.heap.Ns K.env.locals m
  cells : ∀ x c, K.env.cells.lookup x = some c → ∃ v, s.heap.IsCell c v
  nodup : (rho.map (·.1)).Nodup
  plain : ∀ x ∈ rho.map (·.1), plainName x = true
  vars : ∀ x d, (x, some d) ∈ rho → ∃ v as, Holds K.env s.heap x v ∧ Rd W s.heap v d as

theorem Rel.fresh_fr {K : Fm} {rho : List (Str × Option D)} {W : List Addr} {s : Shared} (r : Rel K rho W s) : ∀ b ∈ K.fr, K.G.base.get? b = none := fun _ hb => (r.frames.mem hb).1

theorem Rel.tabs {K : Fm} {rho : List (Str × Option D)} {W : List Addr} {s : Shared} (r : Rel K rho W s) : TabsSt s.heap := r.kept.tabs r.ok.tabs0
theorem Rel.step {K : Fm} {rho : List (Str × Option D)} {W : List Addr} {s s' : Shared} (r : Rel K rho W s) (st : Step K.fr s s') : Rel K rho W s' where
  ok := r.ok
  off := fun a ha => let ⟨o, e⟩ := r.off a ha; st.kf.live e
  same := by
    obtain ⟨h, tk, e⟩ := r.same
    obtain ⟨h', tk', e'⟩ := st.same
    exact ⟨h', tk', by rw [e', e]⟩
  stays := st.kf.stays r.fresh_fr r.ok.gl.notab r.stays
  kept := r.kept.trans st.kf
  frames := r.frames.of_keeps fun b o e hv => let ⟨o', e1, _, e3, _⟩ := st.kf.at e (fun q => hv #[] (by rw [q])); ⟨o', e1, e3⟩
  fdict := fun b hb => let ⟨m, n⟩ := r.fdict b hb; ⟨m, st.kf.ns n⟩
  loc := let ⟨m, n⟩ := r.loc; ⟨m, st.kf.ns n⟩
  cells := fun x c e => let ⟨v, n⟩ := r.cells x c e; ⟨v, st.kf.cell n⟩
  nodup := r.nodup
  plain := r.plain
  vars := fun x d h1 => let ⟨v, as, q1, q2⟩ := r.vars x d h1; ⟨v, as, st.kf.holds q1, q2.kf st.kf⟩

inductive Got (K : Fm) (W : List Addr) (s : Shared) (d : D) (fr : Bool) (v : Value) (s' : Shared) : Prop
  | mk (st : Step K.fr s s') (as : List Addr) (rd : Rd W s'.heap v d as) (new : fr = true → as.Nodup ∧ ∀ a ∈ as, s.heap.get? a = none) : Got K W s d fr v s'
theorem Got.st {K : Fm} {W : List Addr} {s : Shared} {d : D} {fr : Bool} {v : Value} {s' : Shared} (g : Got K W s d fr v s') : Step K.fr s s' := by cases g; assumption

def EV (K : Fm) (rho : List (Str × Option D)) (e : Expr) (d : D) (fr : Bool) : Prop :=
  ∀ W s, Rel K rho W s → ∀ E, wpAny K.M K.A (eval e K.env) (Got K W s d fr) E s

def TS (K : Fm) (rho : List (Str × Option D)) (e : Expr) (b : Bool) : Prop :=
  ∀ W s, Rel K rho W s → ∀ E, wpAny K.M K.A (isTrue e K.env (eval e K.env)) (fun b' s' => Step K.fr s s' ∧ b' = b) E s

inductive Flat : D → Prop
  | none : Flat .none
  | bool (b) : Flat (.bool b)
  | int (i) : Flat (.int i)
  | str (x) : Flat (.str x)
  | tuple {ds} : (∀ d ∈ ds, Flat d) → Flat (.tuple ds)
  | exc (C : Addr) : Flat (excD C)

theorem flat_tuple {ds : List D} (f : Flat (.tuple ds)) : ∀ d ∈ ds, Flat d := by cases f with | tuple h => exact h
theorem flat_list {ds : List D} {P : Prop} (f : Flat (.list ds)) : P := nomatch f
theorem rdc_flat {W : List Addr} {h : Heap} : RdC W h (fun _ d as => Flat d → as = []) (fun _ ds as => (∀ d ∈ ds, Flat d) → as = []) :=
  ⟨fun _ => rfl, fun _ _ => rfl, fun _ _ _ => rfl, fun _ _ _ _ => rfl, fun _ _ _ f => flat_list f, fun _ _ ih f => ih (flat_tuple f), fun _ _ _ _ _ => rfl, fun _ => rfl,
    fun i1 i2 f => by rw [i1 (f _ (.head _)), i2 fun d hd => f d (.tail _ hd)]; rfl⟩
theorem Flat.rd {W : List Addr} {h : Heap} {v : Value} {d : D} {as : List Addr} (r : Rd W h v d as) (f : Flat d) : as = [] := rdc_flat.rd r f
theorem Flat.rdAll {W : List Addr} {h : Heap} {vs : List Value} {ds : List D} {as : List Addr} (r : RdAll W h vs ds as) (f : ∀ d ∈ ds, Flat d) : as = [] := rdc_flat.rds r f
theorem Got.flat {K : Fm} {W : List Addr} {s s' : Shared} {d : D} {v : Value} (st : Step K.fr s s') (r : Rd W s'.heap v d []) (fr : Bool) : Got K W s d fr v s' :=
  ⟨st, [], r, fun _ => ⟨.nil, fun _ h => (nomatch h)⟩⟩
theorem Got.intro_int {K : Fm} {W : List Addr} {s s' : Shared} {i : Int} {t : Tok} (st : Step K.fr s s') (fr : Bool) : Got K W s (.int i) fr (.int i t) s' := .flat st (.int i t) fr
theorem Got.intro_bool {K : Fm} {W : List Addr} {s s' : Shared} {b : Bool} (st : Step K.fr s s') (fr : Bool) : Got K W s (.bool b) fr (.bool b) s' := .flat st (.bool b) fr
theorem Got.up {K : Fm} {W : List Addr} {s s' : Shared} {d : D} {v : Value} {f f' : Bool} (g : Got K W s d f v s') (fl : Flat d) : Got K W s d f' v s' := by
  obtain ⟨st, as, r, _⟩ := g
  obtain rfl := Flat.rd r fl
  exact .flat st r f'
theorem EV.up {K : Fm} {rho : List (Str × Option D)} {e : Expr} {d : D} {f f' : Bool} (x : EV K rho e d f) (fl : Flat d) : EV K rho e d f' := fun W s r E => wpAny_mono (x W s r E) (fun _ _ g => g.up fl) fun _ _ q => q
theorem EV.bind {K : Fm} {rho : List (Str × Option D)} {e : Expr} {d : D} {f : Bool} (x : EV K rho e d f) {W : List Addr} {s : Shared} (r : Rel K rho W s) {E : Value → Shared → Prop} {Q : Value → Shared → Prop}
    (k : ∀ v s', Rel K rho W s' → Got K W s d f v s' → Q v s') : wpAny K.M K.A (eval e K.env) Q E s :=
  wpAny_mono (x W s r E) (fun v s' g => k v s' (r.step g.st) g) fun _ _ q => q

theorem ev_int {K : Fm} {rho : List (Str × Option D)} {i : Int} {k : Nat} {pos : Pos} : EV K rho (.Constant (.int i) k pos) (.int i) true := fun _ s _ _ =>
  wpAny_Constant_int (.intro_int ((Step.refl _ s).toks _) _)
theorem ev_none {K : Fm} {rho : List (Str × Option D)} {k : Nat} {pos : Pos} : EV K rho (.Constant .none k pos) .none true := fun _ s _ _ =>
  wpAny_Constant_none (.flat (Step.refl _ s) .none _)
theorem ev_bool {K : Fm} {rho : List (Str × Option D)} {b : Bool} {k : Nat} {pos : Pos} : EV K rho (.Constant (.bool b) k pos) (.bool b) true := fun _ s _ _ =>
  wpAny_Constant_bool (.flat (Step.refl _ s) (.bool b) _)
theorem ev_str {K : Fm} {rho : List (Str × Option D)} {x : Str} {k : Nat} {pos : Pos} (hx : PyData.canLay0 (.str x) = true) : EV K rho (.Constant (.str x) k pos) (.str x) true := fun _ s _ _ =>
  wpAny_Constant_str (.flat ((Step.refl _ s).toks _) (.str x _ hx) _)

theorem load_holds {M : Model} {A : Around} {env : Env} {s : Shared} {x : Str} {v : Value} {Q : Value → Shared → Prop} {E : Value → Shared → Prop} (hk : env.scope.kind = .function) (h : Holds env s.heap x v) (q : Q v s)
    (hn : (x == ("__classdict__" : Str)) = false) : wpAny M A (loadName env x) Q E s := by
  rcases h with ⟨k, m, n, e⟩ | ⟨k | k, c, e, n⟩
  · exact wpAny_loadName_local hk k n e q
  · exact wpAny_loadName_cell hk k e n q
  · exact wpAny_loadName_free hk k e n q hn

theorem ev_name {K : Fm} {rho : List (Str × Option D)} {x : Str} {d : D} {pos : Pos} (a : (x, some d) ∈ rho) : EV K rho (.Name x pos) d false := fun W s r E => by
  obtain ⟨v, as, q1, q2⟩ := r.vars x d a
  have hn := r.plain x (List.mem_map.mpr ⟨_, a, rfl⟩)
  simp only [plainName, Bool.and_eq_true, Bool.not_eq_true'] at hn
  exact wpAny_Name (load_holds r.ok.kindE q1 ⟨.refl _ _, as, q2, fun e => nomatch e⟩ hn.1) hn.2

section
variable {K : Fm} {rho : List (Str × Option D)} {l r : Expr} {pos : Pos} {a b : Int} {f g : Bool}
theorem ev_bin {op : Operator} {d1 d2 d : D} {f1 f2 f : Bool} (h1 : EV K rho l d1 f1) (h2 : EV K rho r d2 f2)
    (h : ∀ W s s2 v1 v2 E, Rel K rho W s → Rel K rho W s2 → Got K W s d1 f1 v1 s2 → Got K W s d2 f2 v2 s2 → wpAny K.M K.A (binaryOp op v1 v2) (Got K W s d f) E s2) : EV K rho (.BinOp l op r pos) d f := fun W s R E =>
  wpAny_BinOp (h1.bind R fun v1 s1 R1 g1 => h2.bind R1 fun v2 s2 R2 g2 => by
    refine h W s s2 v1 v2 E R R2 ?_ ?_
    · obtain ⟨st, as, q1, q3⟩ := g1
      exact ⟨st.trans g2.1, as, q1.kf g2.1.kf, q3⟩
    · obtain ⟨st, as, q1, q3⟩ := g2
      exact ⟨g1.1.trans st, as, q1, fun e => ⟨(q3 e).1, fun a ha => g1.1.kf.fresh ((q3 e).2 a ha)⟩⟩)

theorem ev_bin_int {op : Operator} {c : Int} (h1 : EV K rho l (.int a) f) (h2 : EV K rho r (.int b) g)
    (h : ∀ (W : List Addr) (s : Shared) t u E Q, Rel K rho W s → Q (.int c s.toks) { s with toks := s.toks + 1 } → wpAny K.M K.A (binaryOp op (.int a t) (.int b u)) Q E s) : EV K rho (.BinOp l op r pos) (.int c) true :=
  ev_bin h1 h2 fun W s s2 v1 v2 E R R2 g1 g2 => by
    obtain ⟨_, _, q1, _⟩ := g1
    obtain ⟨st, _, q2, _⟩ := g2
    obtain ⟨t, rfl, _⟩ := q1.int_inv
    obtain ⟨u, rfl, _⟩ := q2.int_inv
    exact h W s2 t u E _ R2 (.intro_int (st.toks _) _)
theorem ev_add (h1 : EV K rho l (.int a) f) (h2 : EV K rho r (.int b) g) : EV K rho (.BinOp l .Add r pos) (.int (a + b)) true :=
  ev_bin_int h1 h2 fun _ _ _ _ _ _ _ q => PySem.P.add_int q
theorem ev_sub (h1 : EV K rho l (.int a) f) (h2 : EV K rho r (.int b) g) : EV K rho (.BinOp l .Sub r pos) (.int (a - b)) true :=
  ev_bin_int h1 h2 fun _ _ _ _ _ _ _ q => PySem.P.sub_int q
theorem ev_mul (h1 : EV K rho l (.int a) f) (h2 : EV K rho r (.int b) g) (hm : IntMulOk a b) : EV K rho (.BinOp l .Mult r pos) (.int (a * b)) true :=
  ev_bin_int h1 h2 fun _ _ _ _ _ _ _ q => PySem.P.mul_int q hm
theorem ev_mod (h1 : EV K rho l (.int a) f) (h2 : EV K rho r (.int b) g) (hb : b ≠ 0) : EV K rho (.BinOp l .Mod r pos) (.int (a.fmod b)) true :=
  ev_bin_int h1 h2 fun _ _ _ _ _ _ _ q => PyProof.Rows.mod_int' hb q
theorem ev_floordiv (h1 : EV K rho l (.int a) f) (h2 : EV K rho r (.int b) g) (hb : b ≠ 0) (hs : b.natAbs.log2 < 9000) : EV K rho (.BinOp l .FloorDiv r pos) (.int (a.fdiv b)) true :=
  ev_bin_int h1 h2 fun _ _ _ _ _ _ _ q => PyProof.Rows.floordiv_int hb q (.inl (PyProof.noPylong_of_log2 hs))
theorem ev_neg (h1 : EV K rho l (.int a) f) : EV K rho (.UnaryOp .USub l pos) (.int (-a)) true := fun W s R E =>
  wpAny_UnaryOp (h1.bind R fun v s1 R1 g1 => by
    obtain ⟨st, _, q1, _⟩ := g1
    obtain ⟨t, rfl, _⟩ := q1.int_inv
    exact PySem.P.neg_int (.intro_int (st.toks _) _))
end

def CMP (K : Fm) (op : CmpOp) (d1 d2 : D) (b : Bool) : Prop :=
  ∀ W s v1 v2 as bs Q E, K.Ok → Rd W s.heap v1 d1 as → Rd W s.heap v2 d2 bs → (∀ t, Q (.bool b) { s with toks := t }) → wpAny K.M K.A (compareOp op v1 v2) Q E s

theorem cmp_int {K : Fm} {op : CmpOp} {a b : Int} {c : Bool} (h : ∀ s t u Q E, Q (.bool c) s → wpAny K.M K.A (compareOp op (.int a t) (.int b u)) Q E s) : CMP K op (.int a) (.int b) c := fun W s v1 v2 as bs Q E _ r1 r2 q => by
  obtain ⟨t, rfl, _⟩ := r1.int_inv
  obtain ⟨u, rfl, _⟩ := r2.int_inv
  exact h s t u Q E (q s.toks)
theorem cmp_lt {K : Fm} {a b : Int} : CMP K .Lt (.int a) (.int b) (decide (a < b)) := cmp_int fun _ _ _ _ _ q => PySem.P.lt_int q
theorem cmp_le {K : Fm} {a b : Int} : CMP K .LtE (.int a) (.int b) (decide (a ≤ b)) := cmp_int fun _ _ _ _ _ q => PySem.P.le_int q
theorem cmp_gt {K : Fm} {a b : Int} : CMP K .Gt (.int a) (.int b) (decide (a > b)) := cmp_int fun _ _ _ _ _ q => PySem.P.gt_int q
theorem cmp_ge {K : Fm} {a b : Int} : CMP K .GtE (.int a) (.int b) (decide (a ≥ b)) := cmp_int fun _ _ _ _ _ q => PySem.P.ge_int q
theorem cmp_eq_int {K : Fm} {a b : Int} : CMP K .Eq (.int a) (.int b) (a == b) := cmp_int fun _ _ _ _ _ q => PySem.P.eq_int q
theorem cmp_ne_int {K : Fm} {a b : Int} : CMP K .NotEq (.int a) (.int b) (a != b) := cmp_int fun _ _ _ _ _ q => PySem.P.ne_int q
theorem units_line {K : Fm} (k : K.Ok) {n : Nat} (h : n ≤ 64) : K.A.units + n < cLine := by
  have := k.units
  have e : cLine = 9900 := rfl
  lia
theorem cmp_eq {K : Fm} {d1 d2 : D} (hd : d1.depth ≤ 64) (c1 : clean d1 = true) (c2 : clean d2 = true) : CMP K .Eq d1 d2 (PyData.eqv d1 d2) := fun W s v1 v2 as bs Q E k r1 r2 q =>
  SeqAt.eqOverData K.G.prog K.G.w K.A E s v1 v2 d1 d2 as bs Q (r1.reads c1) (r2.reads c2) (r1.lay c1) (r2.lay c2) (Nat.lt_of_le_of_lt (Nat.add_le_add_left (Nat.min_le_left _ _) _) (units_line k hd)) (q s.toks)
theorem cmp_ne {K : Fm} {d1 d2 : D} (hd : d1.depth ≤ 64) (c1 : clean d1 = true) (c2 : clean d2 = true) : CMP K .NotEq d1 d2 (!PyData.eqv d1 d2) := fun W s v1 v2 as bs Q E k r1 r2 q =>
  SeqAt.neOverData K.G.prog K.G.w K.A E s v1 v2 d1 d2 as bs Q (r1.reads c1) (r2.reads c2) (r1.lay c1) (r2.lay c2) (Nat.lt_of_le_of_lt (Nat.add_le_add_left (Nat.min_le_left _ _) _) (units_line k hd)) (q s.toks)
def isNone : D → Bool
  | .none => true
  | _ => false
theorem isNone_rd {W : List Addr} {h : Heap} {v : Value} {d : D} {as : List Addr} (r : Rd W h v d as) : (v == .none) = isNone d := by cases r <;> rfl
theorem cmp_is_none {K : Fm} {d : D} : CMP K .Is d .none (isNone d) := fun W s v1 v2 as bs Q E _ r1 r2 q => by
  obtain ⟨rfl, _⟩ := r2.none_inv
  exact is_none (by rw [isNone_rd r1]; exact q s.toks)
theorem cmp_in_list {K : Fm} {xs : List D} {d : D} (hd : d.depth ≤ 60) (c1 : clean d = true) (c2 : clean (.list xs) = true) : CMP K .In d (.list xs) (xs.any fun y => PyData.eqv y d) := fun W s v1 v2 as bs Q E k r1 r2 q =>
  SeqAt.in_list_reads (r2.reads c2) (r1.reads c1) (r2.lay c2) (r1.lay c1) (by have := units_line k (n := 1 + d.depth) (by lia); have h2 : min (PyData.depthAll xs) d.depth ≤ d.depth := Nat.min_le_right _ _; lia) (q s.toks)
section
variable {K : Fm} {rho : List (Str × Option D)} {l r : Expr} {pos : Pos} {d1 d2 d3 : D} {f g f3 : Bool} {op op2 : CmpOp} {b b2 : Bool}
theorem ev_cmp (h1 : EV K rho l d1 f) (h2 : EV K rho r d2 g) (c : CMP K op d1 d2 b) (hm : behindInMarks op r = false) : EV K rho (.Compare l [op] [r] pos) (.bool b) true := fun W s R E =>
  wpAny_Compare1 (h1.bind R fun v1 s1 R1 g1 => h2.bind R1 fun v2 s2 R2 g2 => by
    obtain ⟨st, _, q1, _⟩ := g1
    obtain ⟨st2, _, q2, _⟩ := g2
    exact c W s2 v1 v2 _ _ _ E R.ok (q1.kf st2.kf) q2 fun t => .intro_bool ((st.trans st2).toks t) _) hm
theorem ts_cmp (h1 : EV K rho l d1 f) (h2 : EV K rho r d2 g) (c : CMP K op d1 d2 b) (hm : behindInMarks op r = false) : TS K rho (.Compare l [op] [r] pos) b := fun W s R E =>
  wpAny_isTrue_Compare1 (h1.bind R fun v1 s1 R1 g1 => h2.bind R1 fun v2 s2 R2 g2 => by
    obtain ⟨st, _, q1, _⟩ := g1
    obtain ⟨st2, _, q2, _⟩ := g2
    exact c W s2 v1 v2 _ _ _ E R.ok (q1.kf st2.kf) q2 fun t => wpAny_truthy_bool ⟨(st.trans st2).toks t, rfl⟩) hm
theorem ts_not {e : Expr} (h : TS K rho e b) : TS K rho (.UnaryOp .Not e pos) (!b) := fun W s R E =>
  wpAny_isTrue_Not (wpAny_mono (h W s R E) (fun b' s' q => ⟨q.1, by rw [q.2]⟩) fun _ _ q => q)
theorem ts_val {e : Expr} (h : EV K rho e (.bool b) f) (he : ∀ whole, isTrue e K.env whole = (do let v ← whole; standAt e.pos; holding [v] (truthy v))) : TS K rho e b := fun W s R E =>
  wpAny_isTrue_value (h.bind R fun v s1 R1 g => by
    obtain ⟨st, _, q, _⟩ := g
    obtain ⟨rfl, _⟩ := q.bool_inv
    exact wpAny_truthy_bool ⟨st, rfl⟩) (he _)
end

def TSA (K : Fm) (rho : List (Str × Option D)) (es : List Expr) (b : Bool) : Prop :=
  ∀ W s, Rel K rho W s → ∀ E, wpAny K.M K.A (allTrue .And es K.env) (fun b' s' => Step K.fr s s' ∧ b' = b) E s
def TSO (K : Fm) (rho : List (Str × Option D)) (es : List Expr) (b : Bool) : Prop :=
  ∀ W s, Rel K rho W s → ∀ E, wpAny K.M K.A (allTrue .Or es K.env) (fun b' s' => Step K.fr s s' ∧ b' = b) E s
section
variable {K : Fm} {rho : List (Str × Option D)} {pos : Pos} {e : Expr} {es : List Expr} {b c : Bool}
theorem tsa_nil : TSA K rho [] true := fun _ s _ _ => wpAny_allTrue_And_nil ⟨.refl _ s, rfl⟩
theorem tso_nil : TSO K rho [] false := fun _ s _ _ => wpAny_allTrue_Or_nil ⟨.refl _ s, rfl⟩
theorem tsa_cons (h : TS K rho e b) (k : b = true → TSA K rho es c) : TSA K rho (e :: es) (b && c) := fun W s R E =>
  wpAny_allTrue_And_cons (wpAny_mono (h W s R E) (fun b' s' q => by
    obtain ⟨st, rfl⟩ := q
    cases b' with
    | false => exact ⟨st, rfl⟩
    | true => exact wpAny_mono (k rfl W s' (R.step st) E) (fun c' s2 q2 => ⟨st.trans q2.1, q2.2⟩) fun _ _ x => x) fun _ _ x => x)
theorem tso_cons (h : TS K rho e b) (k : b = false → TSO K rho es c) : TSO K rho (e :: es) (b || c) := fun W s R E =>
  wpAny_allTrue_Or_cons (wpAny_mono (h W s R E) (fun b' s' q => by
    obtain ⟨st, rfl⟩ := q
    cases b' with
    | true => exact ⟨st, rfl⟩
    | false => exact wpAny_mono (k rfl W s' (R.step st) E) (fun c' s2 q2 => ⟨st.trans q2.1, q2.2⟩) fun _ _ x => x) fun _ _ x => x)
theorem ts_and (h : TSA K rho es b) : TS K rho (.BoolOp .And es pos) b := fun W s R E => wpAny_isTrue_BoolOp (h W s R E)
theorem ts_or (h : TSO K rho es b) : TS K rho (.BoolOp .Or es pos) b := fun W s R E => wpAny_isTrue_BoolOp (h W s R E)
end
end Mine
end

section
set_option autoImplicit false
namespace Mine
open PySem

section
variable {K : Fm} {rho : List (Str × Option D)} {l r r2 : Expr} {pos : Pos} {d1 d2 d3 : D} {f g f3 : Bool} {op op2 : CmpOp} {b b2 : Bool}

theorem marks2 {op op2 : CmpOp} {e1 e2 : Expr} {t1 t2 : Sem Value} (hm : behindInMarks op2 e2 = false) : markedEach [op, op2] [e1, e2] [t1, t2] = [t1, t2] := by
  show [t1, markedBehindIn op2 e2 t2] = _
  rw [markedBehindIn_of_false hm]

theorem ts_cmp2 (h1 : EV K rho l d1 f) (h2 : EV K rho r d2 g) (h3 : b = true → EV K rho r2 d3 f3) (c : CMP K op d1 d2 b) (c2 : b = true → CMP K op2 d2 d3 b2) (hm : behindInMarks op2 r2 = false) :
    TS K rho (.Compare l [op, op2] [r, r2] pos) (b && b2) := fun W s R E => by
  rw [arm_isTrue_Compare]
  refine wpAny_bind (h1.bind R fun v1 s1 R1 g1 => ?_)
  show wpAny K.M K.A (testChain pos v1 [op, op2] (markedEach [op, op2] [r, r2] [eval r K.env, eval r2 K.env])) _ E s1
  rw [marks2 hm]
  unfold testChain
  refine wpAny_bind (wpAny_holding (h2.bind R1 fun v2 s2 R2 g2 => wpAny_bind (wpAny_standAt (wpAny_bind (wpAny_holding ?_)))))
  obtain ⟨st, _, q1, _⟩ := g1
  obtain ⟨st2, _, q2, _⟩ := g2
  refine c W s2 v1 v2 _ _ _ E R.ok (q1.kf st2.kf) q2 fun t => ?_
  refine wpAny_bind (wpAny_release (wpAny_bind (wpAny_holding (wpAny_truthy_bool ?_))))
  cases b with
  | false => exact wpAny_pure ⟨(st.trans st2).toks t, rfl⟩
  | true =>
    have R2' : Rel K rho W { s2 with toks := t } := R2.step ((Step.refl _ s2).toks t)
    show wpAny K.M K.A (testChain pos v2 [op2] [eval r2 K.env]) _ E _
    unfold testChain
    refine wpAny_bind (wpAny_holding ((h3 rfl).bind R2' fun v3 s3 R3 g3 => wpAny_bind (wpAny_standAt (wpAny_bind ?_))))
    obtain ⟨st3, _, q3, _⟩ := g3
    refine wpAny_operating (c2 rfl W s3 v2 v3 _ _ _ E R.ok (q2.kf st3.kf) q3 fun t' => wpAny_holding (wpAny_truthy_bool ⟨?_, rfl⟩))
    exact ((st.trans st2).trans (((Step.refl _ s2).toks t).trans st3)).toks t'

theorem ev_cmp2 (h1 : EV K rho l d1 f) (h2 : EV K rho r d2 g) (h3 : b = true → EV K rho r2 d3 f3) (c : CMP K op d1 d2 b) (c2 : b = true → CMP K op2 d2 d3 b2) (hm : behindInMarks op2 r2 = false) :
    EV K rho (.Compare l [op, op2] [r, r2] pos) (.bool (b && b2)) true := fun W s R E => by
  rw [arm_eval_Compare]
  refine wpAny_bind (h1.bind R fun v1 s1 R1 g1 => ?_)
  show wpAny K.M K.A (compareChain pos v1 [op, op2] (markedEach [op, op2] [r, r2] [eval r K.env, eval r2 K.env])) _ E s1
  rw [marks2 hm]
  unfold compareChain
  refine wpAny_bind (wpAny_holding (h2.bind R1 fun v2 s2 R2 g2 => wpAny_bind (wpAny_standAt (wpAny_bind (wpAny_holding ?_)))))
  obtain ⟨st, _, q1, _⟩ := g1
  obtain ⟨st2, _, q2, _⟩ := g2
  refine c W s2 v1 v2 _ _ _ E R.ok (q1.kf st2.kf) q2 fun t => ?_
  refine wpAny_bind (wpAny_release (wpAny_bind (wpAny_holding (wpAny_truthy_bool ?_))))
  cases b with
  | false => exact wpAny_pure (.intro_bool ((st.trans st2).toks t) _)
  | true =>
    have R2' : Rel K rho W { s2 with toks := t } := R2.step ((Step.refl _ s2).toks t)
    show wpAny K.M K.A (compareChain pos v2 [op2] [eval r2 K.env]) _ E _
    unfold compareChain
    refine wpAny_bind (wpAny_holding ((h3 rfl).bind R2' fun v3 s3 R3 g3 => wpAny_bind (wpAny_standAt ?_)))
    obtain ⟨st3, _, q3, _⟩ := g3
    refine wpAny_operating (c2 rfl W s3 v2 v3 _ _ _ E R.ok (q2.kf st3.kf) q3 fun t' => .intro_bool ?_ _)
    exact ((st.trans st2).trans (((Step.refl _ s2).toks t).trans st3)).toks t'

def EVA (K : Fm) (rho : List (Str × Option D)) (op : BoolOp) (pos : Pos) (es : List Expr) (b : Bool) : Prop :=
  ∀ W s, Rel K rho W s → ∀ E, wpAny K.M K.A (boolOp pos op (evalEach es K.env)) (Got K W s (.bool b) true) E s
theorem eva_one {op : BoolOp} {e : Expr} (h : EV K rho e (.bool b) f) : EVA K rho op pos [e] b := fun W s R E => wpAny_mono (h W s R E) (fun _ _ g => g.up (.bool b)) fun _ _ q => q
theorem eva_and {e e2 : Expr} {es : List Expr} (h : EV K rho e (.bool b) f) (k : b = true → EVA K rho .And pos (e2 :: es) b2) : EVA K rho .And pos (e :: e2 :: es) (b && b2) := fun W s R E => by
  show wpAny K.M K.A (boolOp pos .And (eval e K.env :: eval e2 K.env :: evalEach es K.env)) _ E s
  unfold boolOp
  refine wpAny_bind (h.bind R fun v s1 R1 g1 => wpAny_bind (wpAny_standAt (wpAny_bind (wpAny_holding ?_))))
  obtain ⟨st, _, q, _⟩ := g1
  obtain ⟨rfl, _⟩ := q.bool_inv
  refine wpAny_truthy_bool ?_
  cases b with
  | false => exact wpAny_pure (.intro_bool st _)
  | true => exact wpAny_mono (k rfl W s1 R1 E) (fun v s2 g2 => by
      obtain ⟨st2, _, q2, _⟩ := g2
      obtain ⟨rfl, _⟩ := q2.bool_inv
      exact .intro_bool (st.trans st2) _) fun _ _ x => x
theorem ev_boolop {bop : BoolOp} {es : List Expr} (h : EVA K rho bop pos es b) : EV K rho (.BoolOp bop es pos) (.bool b) true := fun W s R E => by
  rw [arm_eval_BoolOp]; exact h W s R E
theorem ev_not {e : Expr} (h : EV K rho e (.bool b) f) : EV K rho (.UnaryOp .Not e pos) (.bool (!b)) true := fun W s R E =>
  wpAny_UnaryOp (h.bind R fun v s1 R1 g1 => by
    obtain ⟨st, _, q, _⟩ := g1
    obtain ⟨rfl, _⟩ := q.bool_inv
    exact not_value (wpAny_truthy_bool (.intro_bool st _)))
end

inductive GotAll (K : Fm) (W : List Addr) (s : Shared) (ds : List D) (fr : Bool) (vs : List Value) (s' : Shared) : Prop
  | mk (st : Step K.fr s s') (as : List Addr) (rd : RdAll W s'.heap vs ds as) (new : fr = true → as.Nodup ∧ ∀ a ∈ as, s.heap.get? a = none) : GotAll K W s ds fr vs s'
theorem GotAll.st {K : Fm} {W : List Addr} {s : Shared} {ds : List D} {fr : Bool} {vs : List Value} {s' : Shared} (g : GotAll K W s ds fr vs s') : Step K.fr s s' := by cases g; assumption
theorem GotAll.len {K : Fm} {W : List Addr} {s : Shared} {ds : List D} {fr : Bool} {vs : List Value} {s' : Shared} (g : GotAll K W s ds fr vs s') : vs.length = ds.length := by cases g with | mk _ _ r _ => exact r.length
def EVs (K : Fm) (rho : List (Str × Option D)) (es : List Expr) (ds : List D) (fr : Bool) : Prop :=
  ∀ W s pos, Rel K rho W s → ∀ E, wpAny K.M K.A (spliced (backTo pos (starEach es K.env))) (GotAll K W s ds fr) E s
def noStar : Expr → Bool
  | .Starred .. => false
  | _ => true
theorem starEach_cons {e : Expr} {es : List Expr} {env : Env} (h : noStar e = true) : starEach (e :: es) env = (false, eval e env) :: starEach es env := by
  cases e <;> first | rfl | cases h
section
variable {K : Fm} {rho : List (Str × Option D)} {pos : Pos} {e : Expr} {es : List Expr} {d : D} {ds : List D} {f g : Bool}
theorem evs_nil : EVs K rho [] [] true := fun _ s _ _ _ => wpAny_items_nil ⟨.refl _ s, [], .nil, fun _ => ⟨.nil, fun _ h => nomatch h⟩⟩
theorem evs_cons (h : EV K rho e d f) (k : EVs K rho es ds g) (hn : noStar e = true) : EVs K rho (e :: es) (d :: ds) (f && g) := fun W s pos R E =>
  wpAny_items_cons (h.bind R fun v s1 R1 g1 => wpAny_mono (k W s1 pos R1 E) (fun vs s2 g2 => by
    obtain ⟨st, as, q1, q3⟩ := g1
    obtain ⟨st2, bs, r1, r3⟩ := g2
    refine ⟨st.trans st2, as ++ bs, .cons (q1.kf st2.kf) r1, fun e => ?_⟩
    · simp only [Bool.and_eq_true] at e
      refine ⟨List.nodup_append.mpr ⟨(q3 e.1).1, (r3 e.2).1, fun a ha b hb e' => ?_⟩, fun a ha => ?_⟩
      · subst e'
        obtain ⟨_, _, _, ho⟩ := q1.there a ha
        rw [(r3 e.2).2 a hb] at ho; cases ho
      · rcases List.mem_append.mp ha with ha | ha
        · exact (q3 e.1).2 a ha
        · exact st.kf.fresh ((r3 e.2).2 a ha)) fun _ _ x => x) (starEach_cons hn)

theorem kf_push {fr : List Addr} (h : Heap) (o : Obj) : KF fr h (h.push o) := .of_keeps fun _ _ e => Heap.get?_push_of_some _ e
theorem step_push {fr : List Addr} (s : Shared) (o : Obj) : Step fr s { s with heap := s.heap.push o } := ⟨⟨_, _, rfl⟩, kf_push _ _⟩
theorem get?_size (h : Heap) : h.get? h.objs.size = none := Heap.get?_none_of_le (Nat.le_refl _)

theorem off_size {s : Shared} {W : List Addr} (hW : ∀ a ∈ W, ∃ o, s.heap.get? a = some o) : s.heap.objs.size ∉ W := fun hm => by
  obtain ⟨o, e⟩ := hW _ hm
  rw [get?_size] at e; cases e
theorem off_fresh {h : Heap} {W : List Addr} (hW : ∀ a ∈ W, ∃ o, h.get? a = some o) {a : Addr} (e : h.get? a = none) : a ∉ W := fun hm => by
  obtain ⟨o, e'⟩ := hW _ hm
  rw [e] at e'; cases e'
theorem off_step {fr W : List Addr} {s s' : Shared} (st : Step fr s s') (hW : ∀ a ∈ W, ∃ o, s.heap.get? a = some o) : ∀ a ∈ W, ∃ o, s'.heap.get? a = some o := fun a ha =>
  let ⟨_, e⟩ := hW a ha; st.kf.live e
theorem Got.newTuple {W : List Addr} {s s1 : Shared} {vs : List Value} {fr : Bool} (hW : ∀ a ∈ W, ∃ o, s1.heap.get? a = some o) (g : GotAll K W s ds fr vs s1) : Got K W s (.tuple ds) fr (.ref s1.heap.objs.size) { s1 with heap := s1.heap.push (tupO vs 0) } := by
  obtain ⟨st, as, q1, q3⟩ := g
  exact ⟨st.trans (step_push s1 _), as, .tuple (off_size hW) (Heap.get?_push_size _ rfl) (q1.kf (kf_push (fr := K.fr) _ _)), q3⟩
theorem Got.newList {W : List Addr} {s s1 : Shared} {vs : List Value} {fr : Bool} (hW : ∀ a ∈ W, ∃ o, s1.heap.get? a = some o) (g : GotAll K W s ds fr vs s1) : Got K W s (.list ds) fr (.ref s1.heap.objs.size) { s1 with heap := s1.heap.push (listO vs 0) } := by
  obtain ⟨st, as, q1, q3⟩ := g
  have hs : s.heap.get? s1.heap.objs.size = none := st.kf.fresh (get?_size _)
  refine ⟨st.trans (step_push s1 _), s1.heap.objs.size :: as, .list (off_size hW) (Heap.get?_push_size _ rfl) (q1.kf (kf_push (fr := K.fr) _ _)), fun e => ⟨List.nodup_cons.mpr ⟨fun hm => ?_, (q3 e).1⟩, fun a ha => ?_⟩⟩
  · obtain ⟨_, _, _, ho⟩ := q1.there _ hm
    rw [get?_size] at ho; cases ho
  · rcases List.mem_cons.mp ha with rfl | ha
    · exact hs
    · exact (q3 e).2 a ha
theorem ev_tuple {k : Nat} (h : EVs K rho es ds f) (hl : ds.length ≤ sizeLine) : EV K rho (.Tuple es k pos) (.tuple ds) f := fun W s R E =>
  wpAny_Tuple (wpAny_mono (h W s pos R E) (fun vs s1 g => ⟨by rw [g.len]; exact hl, Got.newTuple (off_step g.st R.off) g⟩) fun _ _ x => x)
theorem ev_list (h : EVs K rho es ds f) (hl : ds.length ≤ sizeLine) : EV K rho (.List es pos) (.list ds) f := fun W s R E =>
  wpAny_List (wpAny_mono (h W s pos R E) (fun vs s1 g => ⟨by rw [g.len]; exact hl, Got.newList (off_step g.st R.off) g⟩) fun _ _ x => x)
end

theorem isTup_of {h : Heap} {a : Addr} {vs : List Value} {n : Nat} (e : h.get? a = some (tupO vs n)) : PyProof.Rows.IsTup h a vs.toArray := ⟨_, e, rfl, n, rfl⟩
theorem isList_of {h : Heap} {a : Addr} {vs : List Value} {n : Nat} (e : h.get? a = some (listO vs n)) : h.IsList a vs.toArray := ⟨_, e, rfl, n, rfl⟩
def noSlice : Expr → Bool
  | .Slice .. => false
  | _ => true
theorem subscripted_plain {slice : Expr} {o i : Value} (h : noSlice slice = true) : subscripted slice false o i = operate [o, i] (getItem o i) := by
  cases slice <;> first | rfl | cases h
def ixOf (k : Int) (n : Nat) : Option Nat := seqIndex? k n
section
variable {K : Fm} {rho : List (Str × Option D)} {pos : Pos} {e i : Expr} {d : D} {ds : List D} {f g : Bool} {k : Int} {j : Nat}
theorem ev_item_tuple (h : EV K rho e (.tuple ds) f) (h2 : EV K rho i (.int k) g) (hj : ixOf k ds.length = some j) (hd : ds[j]? = some d) (hn : noSlice i = true) (hk : -1000000000 ≤ k ∧ k ≤ 1000000000) : EV K rho (.Subscript e i pos) d false := fun W s R E =>
  PyProof.Rows.Subscript_ (h.bind R fun v1 s1 R1 g1 => h2.bind R1 fun v2 s2 R2 g2 => by
    obtain ⟨st, as, q1, _⟩ := g1
    obtain ⟨st2, _, r1, _⟩ := g2
    obtain ⟨u, rfl, _⟩ := r1.int_inv
    obtain ⟨a, vs, n, rfl, ho, hr, _⟩ := (q1.kf st2.kf).tuple_inv
    obtain ⟨v, bs, e1, e2, e3⟩ := hr.get j d hd
    refine PyProof.Rows.item_tupleT (isTup_of ho) (by lia) (by lia) (by rw [hr.length]; exact hj) e1 ?_ (subscripted_plain hn)
    exact ⟨st.trans st2, bs, e2, fun e => nomatch e⟩)
theorem ixOf_nonneg {k : Int} {n j : Nat} (h : ixOf k n = some j) : (0 ≤ k ∧ j = k.toNat ∧ j < n) ∨ (k < 0 ∧ -(n : Int) ≤ k ∧ j = (k + n).toNat ∧ j < n) := by
  unfold ixOf seqIndex? at h
  dsimp only at h
  split at h
  · split at h
    · rename_i h0 h1
      simp only [Bool.and_eq_true, decide_eq_true_eq] at h1
      right; injection h with h; lia
    · cases h
  · split at h
    · rename_i h0 h1
      simp only [Bool.and_eq_true, decide_eq_true_eq] at h1
      left; injection h with h; lia
    · cases h
theorem ev_item_list (h : EV K rho e (.list ds) f) (h2 : EV K rho i (.int k) g) (hj : ixOf k ds.length = some j) (hd : ds[j]? = some d) (hn : noSlice i = true) (hk : -1000000000 ≤ k ∧ k ≤ 1000000000) : EV K rho (.Subscript e i pos) d false := fun W s R E =>
  PyProof.Rows.Subscript_ (h.bind R fun v1 s1 R1 g1 => h2.bind R1 fun v2 s2 R2 g2 => by
    obtain ⟨st, as, q1, _⟩ := g1
    obtain ⟨st2, _, r1, _⟩ := g2
    obtain ⟨u, rfl, _⟩ := r1.int_inv
    obtain ⟨a, vs, n, cs, rfl, rfl, ho, hr, _⟩ := (q1.kf st2.kf).list_inv
    obtain ⟨v, bs, e1, e2, e3⟩ := hr.get j d hd
    have hL := isList_of ho
    refine PyProof.Rows.tail_any hL.typeIs slot_list_getitem.lookup ?_ (subscripted_plain hn)
    have fin : Got K W s d false v s2 := ⟨st.trans st2, bs, e2, fun e => nomatch e⟩
    rcases ixOf_nonneg hj with ⟨h0, hj', _⟩ | ⟨h0, h1, hj', _⟩
    · exact wpAny_getItem_list hL h0 (by lia) (by subst hj'; simpa using e1) fin
    · exact wpAny_getItem_list_neg hL h0 (by simpa [hr.length] using h1) (by lia) (by subst hj'; simpa [hr.length] using e1) fin)
end
end Mine
end

section
set_option autoImplicit false
namespace Mine
open PySem

def BC (K : Fm) (fv : Value) (ds : List D) (d : D) (fr : Bool) : Prop :=
  ∀ W s vs as E, K.Ok → K.G.base.StaysIn s.heap → (∀ a ∈ W, ∃ o, s.heap.get? a = some o) → RdAll W s.heap vs ds as → wpAny K.M K.A (call fv vs) (Got K W s d fr) E s

theorem starEach_any : ∀ {es : List Expr} {env : Env} {pos : Pos}, es.all noStar = true → (backTo pos (starEach es env)).any (·.1) = false
  | [], _, _, _ => rfl
  | e :: es, env, pos, h => by
    have h' : noStar e = true ∧ es.all noStar = true := by simpa using h
    rw [starEach_cons h'.1]
    show (false || (backTo pos (starEach es env)).any (·.1)) = false
    rw [starEach_any h'.2]; rfl

def flatFn : Value → Bool
  | .builtin _ => true
  | .type _ => true
  | _ => false

theorem callWith_flat {M : Model} {A : Around} {E : Value → Shared → Prop} {s : Shared} {env : Env} {pos : Pos} {fv : Value} {e : Expr} {es : List Expr} {Q : Value → Shared → Prop} (hf : flatFn fv = true) (hn : (e :: es).all noStar = true)
    (h : wpAny M A (spliced (backTo pos (starEach (e :: es) env))) (fun vs s₁ => wpAny M A (call fv vs) Q E s₁) E s) :
    wpAny M A (callWith pos fv [] (backTo pos (starEach (e :: es) env)) []) Q E s := by
  have hn' : noStar e = true ∧ es.all noStar = true := by simpa using hn
  cases fv with
  | builtin id => exact PyProof.Rows.callWith_builtin1 h (starEach_cons hn'.1) (starEach_any hn'.2)
  | type T => exact PyProof.Rows.callWith_type1 h (starEach_cons hn'.1) (starEach_any hn'.2)
  | _ => cases hf

def noAttr : Expr → Bool
  | .Attribute .. => false
  | _ => true
theorem eval_Call_plain {f : Expr} {args : List Expr} {pos : Pos} {env : Env} (h : noAttr f = true) : eval (.Call f args [] pos) env = (do callWith pos (← eval f env) [] (backTo pos (starEach args env)) (backToKw pos (keywordEach [] env))) := by
  cases f <;> first | rfl | cases h

section
variable {K : Fm} {rho : List (Str × Option D)}
theorem load_builtin {x : Str} {np : Pos} {fv : Value} {W : List Addr} {s : Shared} {E : Value → Shared → Prop} {Q : Value → Shared → Prop} (R : Rel K rho W s) (hx : K.sc.names.lookup x = some .globalImplicit) (hm : x ∈ bnames)
    (hb : bootBuiltins x = some fv) (hd : (x == ("__debug__" : Str)) = false) (hne : x ≠ "__name__") (q : Q fv s) : wpAny K.M K.A (eval (.Name x np) K.env) Q E s := by
  obtain ⟨mb, n, e⟩ := R.ok.gl.b
  refine Calls.Name_function_global R.ok.kindE (R.ok.kindOf hx) ?_ hd
  refine Calls.loadGlobal_builtin (mg := K.G.mg) ?_ (R.ok.gl.miss x hm) (mb := mb) ?_ ((e x hne).trans hb) q
  · rw [R.ok.globals]; exact R.ok.gl.g.keeps R.stays
  · rw [R.ok.builtins]; exact n.keeps R.stays
theorem bname_ok {x : Str} (h : x ∈ bnames) : (x == ("__debug__" : Str)) = false ∧ x ≠ "__name__" := by
  have key : bnames.all (fun x => !(x == ("__debug__" : Str)) && !(x == ("__name__" : Str))) = true := by decide +kernel
  have := List.all_eq_true.mp key x h
  simp only [Bool.and_eq_true, Bool.not_eq_true', beq_eq_false_iff_ne] at this
  exact ⟨by simpa using this.1, this.2⟩

theorem ev_bcall {x : Str} {np pos : Pos} {e : Expr} {es : List Expr} {fv : Value} {ds : List D} {d : D} {f fr : Bool} (hx : K.sc.names.lookup x = some .globalImplicit) (hm : x ∈ bnames) (hb : bootBuiltins x = some fv) (hf : flatFn fv = true)
    (h : EVs K rho (e :: es) ds f) (hn : (e :: es).all noStar = true) (c : BC K fv ds d fr) : EV K rho (.Call (.Name x np) (e :: es) [] pos) d fr := fun W s R E => by
  rw [eval_Call_plain rfl]
  refine wpAny_bind (load_builtin R hx hm hb (bname_ok hm).1 (bname_ok hm).2 ?_)
  refine callWith_flat hf hn (wpAny_mono (h W s pos R E) (fun vs s1 g => ?_) fun _ _ x => x)
  obtain ⟨st, as, q1, q3⟩ := g
  refine wpAny_mono (c W s1 vs as E R.ok (R.step st).stays (R.step st).off q1) (fun v s2 g2 => ?_) fun _ _ x => x
  obtain ⟨st2, bs, r1, r3⟩ := g2
  exact ⟨st.trans st2, bs, r1, fun e => ⟨(r3 e).1, fun b hb' => st.kf.fresh ((r3 e).2 b hb')⟩⟩
end

theorem rd1 {W : List Addr} {h : Heap} {vs : List Value} {d : D} {as : List Addr} (r : RdAll W h vs [d] as) : ∃ v, vs = [v] ∧ Rd W h v d as := by
  cases r with
  | cons h1 h2 => cases h2; exact ⟨_, rfl, by simpa using h1⟩
theorem rd2 {W : List Addr} {h : Heap} {vs : List Value} {d d' : D} {as : List Addr} (r : RdAll W h vs [d, d'] as) : ∃ v v' bs cs, vs = [v, v'] ∧ Rd W h v d bs ∧ Rd W h v' d' cs ∧ as = bs ++ cs := by
  cases r with
  | cons h1 h2 =>
    cases h2 with
    | cons h3 h4 => cases h4; exact ⟨_, _, _, _, rfl, h1, h3, by simp⟩

section
variable {K : Fm}
theorem line_lt {n : Nat} (h : n ≤ sizeLine) : (n : Int) < 2 ^ 63 := by
  have : sizeLine = 16777216 := rfl
  lia
theorem bc_len_list {ds : List D} (hl : ds.length ≤ sizeLine) : BC K (.builtin "len") [.list ds] (.int ds.length) true := fun W s vs as E k _ hW r => by
  obtain ⟨v, rfl, r1⟩ := rd1 r
  obtain ⟨a, ws, n, bs, rfl, _, ho, hr, _⟩ := r1.list_inv
  have e : ws.toArray.size = ds.length := by rw [List.size_toArray]; exact hr.length
  refine PyProof.Rows.len_list (isList_of ho) (by rw [e]; exact line_lt hl) (Got.flat ((Step.refl _ s).toks _) ?_ _)
  rw [e]; exact .int _ _
theorem bc_len_tuple {ds : List D} (hl : ds.length ≤ sizeLine) : BC K (.builtin "len") [.tuple ds] (.int ds.length) true := fun W s vs as E k _ hW r => by
  obtain ⟨v, rfl, r1⟩ := rd1 r
  obtain ⟨a, ws, n, rfl, ho, hr, _⟩ := r1.tuple_inv
  have e : ws.toArray.size = ds.length := by rw [List.size_toArray]; exact hr.length
  refine PyProof.Rows.len_tuple (isTup_of ho) (by rw [e]; exact line_lt hl) (Got.flat ((Step.refl _ s).toks _) ?_ _)
  rw [e]; exact .int _ _
theorem bc_len_str {x : Str} (hl : x.length ≤ sizeLine) : BC K (.builtin "len") [.str x] (.int x.length) true := fun W s vs as E k _ hW r => by
  obtain ⟨v, rfl, r1⟩ := rd1 r
  obtain ⟨t, rfl, _⟩ := r1.str_inv
  exact PyProof.Rows.len_str (by have := line_lt hl; lia) (Got.flat ((Step.refl _ s).toks _) (.int _ _) _)
theorem bc_abs {a : Int} : BC K (.builtin "abs") [.int a] (.int (a.natAbs : Int)) true := fun W s vs as E k _ hW r => by
  obtain ⟨v, rfl, r1⟩ := rd1 r
  obtain ⟨t, rfl, _⟩ := r1.int_inv
  refine PyProof.Rows.call_abs_int fun u tk => Got.flat ((Step.refl _ s).toks _) ?_ _
  have e : (if a < 0 then -a else a) = (a.natAbs : Int) := by split <;> lia
  rw [e]; exact .int _ _
theorem bc_int_bool {b : Bool} : BC K (.type "int") [.bool b] (.int (if b then 1 else 0)) true := fun W s vs as E k _ hW r => by
  obtain ⟨v, rfl, r1⟩ := rd1 r
  obtain ⟨rfl, _⟩ := r1.bool_inv
  exact call_int_bool (Got.flat ((Step.refl _ s).toks _) (.int _ _) _)

theorem bc_tuple_list {ds : List D} (hl : ds.length ≤ sizeLine) : BC K (.type "tuple") [.list ds] (.tuple ds) false := fun W s vs as E k _ hW r => by
  obtain ⟨v, rfl, r1⟩ := rd1 r
  obtain ⟨a, ws, n, bs, rfl, e, ho, hr, _⟩ := r1.list_inv
  refine call_tuple_list (isList_of ho) (fun h' hk => ?_) (by rw [List.size_toArray, hr.length]; exact hl)
  refine ⟨⟨⟨_, _, rfl⟩, .of_keeps fun b o e => Heap.get?_push_of_some _ (hk b o e)⟩, bs, .tuple (fun hm => ?_) (Heap.get?_push_size _ rfl) ?_, fun e => nomatch e⟩
  · obtain ⟨o, e'⟩ := hW _ hm
    have := hk _ _ e'
    rw [get?_size] at this; cases this
  exact hr.kf (fr := []) (.of_keeps fun b o e => Heap.get?_push_of_some _ (hk b o e))
theorem bc_list_seq {l : Addr} {T : String} {s : Shared} {W : List Addr} {ws : List Value} {ds : List D} {bs : List Addr} {n : Nat} {E : Value → Shared → Prop} (hT : T = "list" ∨ T = "tuple") (ho : s.heap.get? l = some { cls := .type T, data := .seq ws.toArray n })
    (hW : ∀ a ∈ W, ∃ o, s.heap.get? a = some o) (hr : RdAll W s.heap ws ds bs) (hl : ds.length ≤ sizeLine) (fl : ∀ d ∈ ds, Flat d) : wpAny K.M K.A (call (.type "list") [.ref l]) (Got K W s (.list ds) true) E s := by
  refine call_list_seq l hT ho rfl rfl (fun h' c' hk hD => ?_) (by rw [List.size_toArray, hr.length]; exact hl)
  obtain rfl := Flat.rdAll hr fl
  refine ⟨⟨⟨_, _, rfl⟩, .of_keeps hk⟩, [s.heap.objs.size], .list (off_size hW) hD (hr.kf (fr := []) (.of_keeps hk)), fun _ => ⟨by simp, fun b hb => ?_⟩⟩
  obtain rfl := List.mem_singleton.mp hb; exact get?_size _
theorem bc_list_list {ds : List D} (hl : ds.length ≤ sizeLine) (fl : ∀ d ∈ ds, Flat d) : BC K (.type "list") [.list ds] (.list ds) true := fun W s vs as E k _ hW r => by
  obtain ⟨v, rfl, r1⟩ := rd1 r
  obtain ⟨a, ws, n, bs, rfl, e, ho, hr, _⟩ := r1.list_inv
  exact bc_list_seq (.inl rfl) ho hW hr hl fl
def clsOf : D → String
  | .none => "NoneType"
  | .bool _ => "bool"
  | .int _ => "int"
  | .str _ => "str"
  | .list _ => "list"
  | .tuple _ => "tuple"
  | .dict _ => "dict"
def isA (d : D) (T : String) : Bool := clsOf d == T || (clsOf d == "bool" && T == "int")
def isaTypes : List String := ["tuple", "list", "int", "bool", "str"]
def notDict : D → Bool
  | .dict _ => false
  | _ => true
theorem rd_typeIs {W : List Addr} {s : Shared} {v : Value} {d : D} {as : List Addr} (r : Rd W s.heap v d as) (nd : notDict d = true) : s.TypeIs v (clsOf d) := by
  cases r with
  | none => rfl
  | bool => rfl
  | int => rfl
  | str => rfl
  | list h0 h1 h2 => exact ⟨_, h1, rfl⟩
  | tuple h0 h1 h2 => exact ⟨_, h1, rfl⟩
  | exc => cases nd
theorem sub_of {A T : String} (h : (A == T || (A == "bool" && T == "int")) = true) (hT : T ∈ isaTypes) : isSubtype (.type A) (.type T) = pure true := by
  simp only [isaTypes, List.mem_cons, List.not_mem_nil, or_false] at hT
  simp only [Bool.or_eq_true, Bool.and_eq_true, beq_iff_eq] at h
  rcases h with rfl | ⟨rfl, rfl⟩
  · rcases hT with rfl | rfl | rfl | rfl | rfl <;> (rw [isSubtype_type]; kernel_rfl)
  · rw [isSubtype_type]; kernel_rfl
theorem meta_of {T : String} (hT : T ∈ isaTypes) : typeOf (.type T) = pure (.type "type") := by
  simp only [isaTypes, List.mem_cons, List.not_mem_nil, or_false] at hT
  rcases hT with rfl | rfl | rfl | rfl | rfl <;> kernel_rfl
end
theorem nosub_of {A T : String} (hA : A ∈ ["NoneType", "bool", "int", "str", "list", "tuple"]) (h : (A == T || (A == "bool" && T == "int")) = false) (hT : T ∈ isaTypes) : (Value.type A == Value.type T) = false ∧ isSubtype (.type A) (.type T) = pure false := by
  simp only [isaTypes, List.mem_cons, List.not_mem_nil, or_false] at hT hA
  rcases hA with rfl | rfl | rfl | rfl | rfl | rfl <;> rcases hT with rfl | rfl | rfl | rfl | rfl <;>
    first | (exact absurd h (by decide)) | exact ⟨by decide +kernel, by rw [isSubtype_type]; kernel_rfl⟩

theorem call_isa {prog : Program} {w : World} {A : Around} {E : Value → Shared → Prop} {s : Shared} {W : List Addr} {v : Value} {d : D} {as : List Addr} {T : String} {Q : Value → Shared → Prop} (r : Rd W s.heap v d as) (nd : notDict d = true) (hT : T ∈ isaTypes)
    (q : ∀ t, Q (.bool (isA d T)) { s with toks := t }) : wpAny (model prog w) A (call (.builtin "isinstance") [v, .type T]) Q E s := by
  cases hb : isA d T with
  | true =>
    rw [hb] at q
    refine PyProof.Rows.call_isinstance_yes (rd_typeIs r nd) (meta_of hT) (sub_of hb hT) ?_
    exact q s.toks
  | false =>
    rw [hb] at q
    cases r with
    | none => obtain ⟨h1, h2⟩ := nosub_of (A := "NoneType") (by simp) hb hT; exact call_isinstance (isinstance_false_none h1 (meta_of hT) h2) (q _)
    | bool => obtain ⟨h1, h2⟩ := nosub_of (A := "bool") (by simp) hb hT; exact call_isinstance (isinstance_false_bool h1 (meta_of hT) h2) (q _)
    | int => obtain ⟨h1, h2⟩ := nosub_of (A := "int") (by simp) hb hT; exact call_isinstance (isinstance_false_int h1 (meta_of hT) h2) (q _)
    | str => obtain ⟨h1, h2⟩ := nosub_of (A := "str") (by simp) hb hT; exact call_isinstance (isinstance_false_str h1 (meta_of hT) h2) (q _)
    | list k0 k1 k2 => obtain ⟨h1, h2⟩ := nosub_of (A := "list") (by simp) hb hT; exact call_isinstance (isinstance_false_list h1 (meta_of hT) h2) ⟨⟨_, k1, rfl⟩, q _⟩
    | tuple k0 k1 k2 => obtain ⟨h1, h2⟩ := nosub_of (A := "tuple") (by simp) hb hT; exact call_isinstance (isinstance_false_tuple h1 (meta_of hT) h2) ⟨⟨_, k1, rfl⟩, q _⟩
    | exc => cases nd

theorem ev_isinstance {K : Fm} {rho : List (Str × Option D)} {np tp pos : Pos} {e : Expr} {d : D} {f : Bool} {x : Str} {T : String} (hx : K.sc.names.lookup (Str.ofString "isinstance") = some .globalImplicit) (hy : K.sc.names.lookup x = some .globalImplicit) (hm : x ∈ bnames)
    (hb : bootBuiltins x = some (.type T)) (hT : T ∈ isaTypes) (h : EV K rho e d f) (nd : notDict d = true) (hn : noStar e = true) : EV K rho (.Call (.Name "isinstance" np) [e, .Name x tp] [] pos) (.bool (isA d T)) true := fun W s R E => by
  rw [eval_Call_plain rfl]
  have hi : (Str.ofString "isinstance") ∈ bnames := by decide +kernel
  refine wpAny_bind (load_builtin R hx hi PyProof.Rows.Boot.«isinstance» (bname_ok hi).1 (bname_ok hi).2 ?_)
  refine callWith_flat rfl (by rw [List.all_cons, hn]; rfl) (wpAny_items_cons (h.bind R fun v s1 R1 g1 => wpAny_items_cons (load_builtin R1 hy hm hb (bname_ok hm).1 (bname_ok hm).2 (wpAny_items_nil ?_))) (starEach_cons hn))
  obtain ⟨st, as, q1, _⟩ := g1
  exact call_isa q1 nd hT fun t => .intro_bool (st.toks t) _
end Mine
end

section
set_option autoImplicit false
namespace Mine
open PySem

theorem KS.sameBut {W : List Addr} {h h' : Heap} {a : Addr} (hs : Heap.SameBut a h h') (ha : ∀ o, h.get? a = some o → ¬ Solid o) : KS W h h' := fun b o _ e so =>
  (hs.2 b fun e' => by subst e'; exact ha o e so).trans e

inductive Put : List (Str × Option D) → Str → D → List (Str × Option D) → Prop
  | here {x o d r} : Put ((x, o) :: r) x d ((x, some d) :: r)
  | there {x y o d r r'} : Put r x d r' → Put ((y, o) :: r) x d ((y, o) :: r')
theorem Put.names {r r' : List (Str × Option D)} {x : Str} {d : D} (p : Put r x d r') : r'.map (·.1) = r.map (·.1) := by
  induction p with
  | here => rfl
  | there _ ih => simp [ih]
theorem Put.mem_name {r r' : List (Str × Option D)} {x : Str} {d : D} (p : Put r x d r') : x ∈ r.map (·.1) := by
  induction p with
  | here => simp
  | there _ ih => simp only [List.map_cons, List.mem_cons]; exact .inr ih
theorem Put.cases {r r' : List (Str × Option D)} {x : Str} {d : D} (p : Put r x d r') (hn : (r.map (·.1)).Nodup) : ∀ y d', (y, some d') ∈ r' → (y = x ∧ d' = d) ∨ (y ≠ x ∧ (y, some d') ∈ r) := by
  induction p with
  | @here x o d r =>
    intro y d' hm
    simp only [List.map_cons, List.nodup_cons] at hn
    rcases List.mem_cons.mp hm with e | hm
    · cases e; exact .inl ⟨rfl, rfl⟩
    · refine .inr ⟨fun e => hn.1 (e ▸ List.mem_map.mpr ⟨_, hm, rfl⟩), .tail _ hm⟩
  | @there x y o d r r' p ih =>
    intro z d' hm
    simp only [List.map_cons, List.nodup_cons] at hn
    rcases List.mem_cons.mp hm with e | hm
    · cases e
      exact .inr ⟨fun e => hn.1 (e ▸ p.mem_name), .head _⟩
    · rcases ih hn.2 z d' hm with q | ⟨q1, q2⟩
      · exact .inl q
      · exact .inr ⟨q1, .tail _ q2⟩

def Storable (K : Fm) (x : Str) : Prop := K.sc.names.lookup x = some .local ∨ x ∈ K.own
def Slot (K : Fm) (a : Addr) : Prop := a = K.env.locals ∨ ∃ x ∈ K.own, K.env.cells.lookup x = some a
structure Stored (K : Fm) (s s' : Shared) : Prop where
  same : ∃ h' tk, s' = { s with heap := h', toks := tk }
  but : ∃ a, Slot K a ∧ Heap.SameBut a s.heap s'.heap

theorem funFrames_of {h h' base : Heap} (k : ∀ b o, h.get? b = some o → (∀ vs, o.data ≠ .fields vs) → ∃ o', h'.get? b = some o' ∧ ∀ vs, o'.data ≠ .fields vs) : ∀ {l : List Env}, h.FunFrames base l → h'.FunFrames base l
  | [], _ => trivial
  | _ :: _, ⟨hk, ⟨L, o, hf, hn, ho, hd⟩, hr⟩ => let ⟨o', h1, h2⟩ := k L o ho hd; ⟨hk, ⟨L, o', hf, hn, h1, h2⟩, funFrames_of k hr⟩

theorem ns_ne_cell {h : Heap} {a c : Addr} {m : Str → Option Value} {v : Option Value} (n : h.Ns a m) (i : h.IsCell c v) : c ≠ a := fun e => by
  subst e
  obtain ⟨o, es, ep, ho, hd, _⟩ := n
  obtain ⟨o', ho', hd'⟩ := i
  rw [ho] at ho'; cases ho'
  rw [hd] at hd'; cases hd'

theorem slot_new {K : Fm} (k : K.Ok) {a : Addr} (h : Slot K a) : K.s0.heap.get? a = none := by
  rcases h with rfl | ⟨x, hx, e⟩
  · exact k.locnew
  · obtain ⟨_, c, e1, e2⟩ := k.ownnew x hx
    rw [e] at e1; cases e1; exact e2

theorem Rel.slot {K : Fm} {rho : List (Str × Option D)} {W : List Addr} {s s' : Shared} (R : Rel K rho W s) {a : Addr} (ha : Slot K a) (hs : Heap.SameBut a s.heap s'.heap) (same : ∃ h' tk, s' = { s with heap := h', toks := tk })
    (hd : ∃ o, s.heap.get? a = some o ∧ (∀ vs, o.data ≠ .fields vs) ∧ ∀ xs n, o.data ≠ .seq xs n) (hd' : ∃ o, s'.heap.get? a = some o ∧ (∀ vs, o.data ≠ .fields vs)) (hdm : ∀ m, s.heap.Ns a m → ∃ m', s'.heap.Ns a m')
    {rho' : List (Str × Option D)} (hnm : rho'.map (·.1) = rho.map (·.1)) (loc : ∃ m, s'.heap.Ns K.env.locals m) (cells : ∀ x c, K.env.cells.lookup x = some c → ∃ v, s'.heap.IsCell c v)
    (vars : KS W s.heap s'.heap → ∀ x d, (x, some d) ∈ rho' → ∃ v as, Holds K.env s'.heap x v ∧ Rd W s'.heap v d as) : Rel K rho' W s' where
  ok := R.ok
  off := fun b hb => by
    obtain ⟨o, e⟩ := R.off b hb
    by_cases hba : b = a
    · subst hba; exact let ⟨o', h1, _⟩ := hd'; ⟨o', h1⟩
    · exact ⟨o, (hs.2 b hba).trans e⟩
  same := by
    obtain ⟨h, tk, e⟩ := R.same
    obtain ⟨h', tk', e'⟩ := same
    exact ⟨h', tk', by rw [e', e]⟩
  stays := fun b o e => (hs.2 b fun q => by
    subst q
    have := R.ok.base0 _ _ e
    rw [slot_new R.ok ha] at this; cases this).trans (R.stays b o e)
  kept := fun b o e => by
    have hb : b ≠ a := fun q => by subst q; rw [slot_new R.ok ha] at e; cases e
    rcases R.kept b o e with q | ⟨q1, q2, sl, q3⟩ | q
    · exact .inl ((hs.2 b hb).trans q)
    · exact .inr (.inl ⟨q1, q2, sl, (hs.2 b hb).trans q3⟩)
    · refine .inr (.inr (q.keep fun b' o' e' hv _ => (hs.2 b' fun z => ?_).trans e'))
      subst z
      obtain ⟨o2, e2, z1, _⟩ := hd
      rw [e'] at e2; cases e2
      obtain ⟨vs, hv⟩ := hv
      exact z1 vs hv
  frames := funFrames_of (fun b o e hn => by
    by_cases hb : b = a
    · subst hb; exact let ⟨o', h1, h2⟩ := hd'; ⟨o', h1, h2⟩
    · exact ⟨o, (hs.2 b hb).trans e, hn⟩) R.frames
  fdict := fun b hb => by
    obtain ⟨m, n⟩ := R.fdict b hb
    by_cases hba : b = a
    · subst hba; exact hdm m n
    · exact ⟨m, n.sameBut hs hba⟩
  loc := loc
  cells := cells
  nodup := by rw [hnm]; exact R.nodup
  plain := fun x hx => R.plain x (by rw [← hnm]; exact hx)
  vars := vars (.sameBut hs fun o e so => by obtain ⟨o', e', q1, q⟩ := hd; rw [e] at e'; cases e'; rcases so with ⟨xs, n, z⟩ | ⟨vs, z, _⟩; exact q xs n z; exact q1 vs z)

theorem Stored.kept {K : Fm} {s s' : Shared} (x : Stored K s s') {b : Addr} {o : Obj} (hb : ∀ a, Slot K a → b ≠ a) (e : s.heap.get? b = some o) : s'.heap.get? b = some o := by
  obtain ⟨_, a, ha, sb⟩ := x
  exact (sb.2 b (hb a ha)).trans e
end Mine
end

section
set_option autoImplicit false
namespace Mine
open PySem

structure Nxt (prog : Program) (w : World) (A : Around) (i : Addr) (fp : List Addr) (vs : Array Value) (St : Nat → Heap → Prop) : Prop where
  self : i ∈ fp
  frame : ∀ k h h', St k h → (∀ b ∈ fp, ∀ o, h.get? b = some o → h'.get? b = some o) → St k h'
  item : ∀ k (s : Shared) x (Q : Value → Shared → Prop) (E : Value → Shared → Prop), vs[k]? = some x → St k s.heap → (∀ h', St (k + 1) h' → Heap.SameBut i s.heap h' → Q x { s with heap := h' }) → wpAny (model prog w) A (Builtin.SmallTypes.nextOf (.ref i)) Q E s
  done : ∀ (s : Shared) (Q : Value → Shared → Prop) (E : Value → Shared → Prop), St vs.size s.heap → (∀ h' e, Heap.ExtBut i s.heap h' → (∃ o, h'.get? e = some o ∧ o.cls = .type "StopIteration") → E (.ref e) { s with heap := h' }) →
    wpAny (model prog w) A (Builtin.SmallTypes.nextOf (.ref i)) Q E s
  there : ∀ k h, St k h → ∃ o, h.get? i = some o

section
variable {prog : Program} {w : World} {A : Around} {E : Value → Shared → Prop} {s : Shared}

theorem Nxt.list (hh : A.handled = none) (i l : Addr) (hne : l ≠ i) (vs : Array Value) : Nxt prog w A i [i, l] vs (fun k h => h.IsListIter i l k ∧ h.IsList l vs) where
  self := by simp
  frame := fun k h h' st hk => ⟨st.1.at fun o e => hk i (by simp) o e, st.2.at fun o e => hk l (by simp) o e⟩
  item := fun k s x Q E hx st hQ => wpAny_nextOf_list_item st.1 st.2 hx fun h' q1 q2 => hQ h' ⟨q1, st.2.extBut q2.extBut hne⟩ q2
  done := fun s Q E st hE => wpAny_nextOf_list_end hh st.1 st.2 (by simp) hE
  there := fun k h st => let ⟨o, e, _⟩ := st.1; ⟨o, e⟩

theorem nextOf_tuple {i t : Addr} {k : Nat} {vs : Array Value} {x : Value} {Q : Value → Shared → Prop} (hi : s.heap.IsTupleIter i t k) (ht : s.heap.IsTuple t vs) (hx : vs[k]? = some x)
    (hQ : ∀ h', h'.IsTupleIter i t (k + 1) → Heap.SameBut i s.heap h' → Q x { s with heap := h' }) : wpAny (model prog w) A (Builtin.SmallTypes.nextOf (.ref i)) Q E s := by
  obtain ⟨o, ho, hc, hd⟩ := id hi
  obtain ⟨ot, hot, _, nt, hdt⟩ := ht
  unfold Builtin.SmallTypes.nextOf
  refine wpAny_bind (wpAny_callSpecial?_slot (name := Str.ofString "__next__") hi.typeIs F.slot_tuple_iterator_next (wpAny_call_entry F.slot_tuple_iterator_next hi.typeIs F.entry_tuple_iterator_next ?_ (F.args_tuple_iterator_next_1 _)))
  show wpAny _ _ (field (.ref i) 0 >>= _) _ _ s
  refine wpAny_bind (wpAny_field ho hd (x := .ref t) rfl ?_)
  show wpAny _ _ (if (Value.ref t == Value.none) = true then _ else _) _ _ s
  rw [if_neg (show ¬ ((Value.ref t == Value.none) = true) from Bool.false_ne_true)]
  show wpAny _ _ (field (.ref i) 1 >>= _) _ _ s
  refine wpAny_bind (wpAny_field ho hd (x := .int k 0) rfl ?_)
  show wpAny _ _ (seqItems? (.ref t) >>= _) _ _ s
  refine wpAny_bind (wpAny_seqItems hot hdt ?_)
  simp only [Int.toNat_natCast, hx]
  refine wpAny_bind (wpAny_setField ho hd (by simp) (wpAny_pure ⟨x, rfl, wpAny_pure (hQ _ ?_ (Heap.SameBut.update ..))⟩))
  exact ⟨_, Heap.get?_update_self _ ho (Obj.isFreed_of_fields (Obj.data_mapFields hd _)), (Obj.cls_mapFields ..).trans hc, by rw [Obj.data_mapFields hd]; simp [rawInt]⟩

theorem nextOf_tuple_end {i t : Addr} {k : Nat} {vs : Array Value} {Q : Value → Shared → Prop} (hh : A.handled = none) (hi : s.heap.IsTupleIter i t k) (ht : s.heap.IsTuple t vs) (hx : vs[k]? = none)
    (hE : ∀ h' e, Heap.ExtBut i s.heap h' → (∃ o, h'.get? e = some o ∧ o.cls = .type "StopIteration") → E (.ref e) { s with heap := h' }) : wpAny (model prog w) A (Builtin.SmallTypes.nextOf (.ref i)) Q E s := by
  obtain ⟨o, ho, hc, hd⟩ := id hi
  obtain ⟨ot, hot, _, nt, hdt⟩ := ht
  unfold Builtin.SmallTypes.nextOf
  refine wpAny_bind (wpAny_callSpecial?_slot (name := Str.ofString "__next__") hi.typeIs F.slot_tuple_iterator_next (wpAny_call_entry F.slot_tuple_iterator_next hi.typeIs F.entry_tuple_iterator_next ?_ (F.args_tuple_iterator_next_1 _)))
  show wpAny _ _ (field (.ref i) 0 >>= _) _ _ s
  refine wpAny_bind (wpAny_field ho hd (x := .ref t) rfl ?_)
  show wpAny _ _ (if (Value.ref t == Value.none) = true then _ else _) _ _ s
  rw [if_neg (show ¬ ((Value.ref t == Value.none) = true) from Bool.false_ne_true)]
  show wpAny _ _ (field (.ref i) 1 >>= _) _ _ s
  refine wpAny_bind (wpAny_field ho hd (x := .int k 0) rfl ?_)
  show wpAny _ _ (seqItems? (.ref t) >>= _) _ _ s
  refine wpAny_bind (wpAny_seqItems hot hdt ?_)
  simp only [Int.toNat_natCast, hx]
  refine wpAny_bind (wpAny_rule (wpAny_bind (wpAny_setField ho hd (by simp) ?_)))
  show wpAny _ _ (newExc (.type "StopIteration") [] >>= _) _ _ _
  refine wpAny_bind ?_
  simp only [newExc, newTuple]
  refine wpAny_bind (wpAny_newObj_type ?_ (by size_fits))
  refine wpAny_bind (m := firstArgMember _ _) (wpAny_of_eq (a := Value.none) (by first | rfl | (simp only [firstArgMember]; rfl)) ?_)
  refine wpAny_newObj_type ?_ (by size_fits)
  simp only [raiseNew]
  refine wpAny_bind (wpAny_handled ?_)
  first | rw [show A.in1.handled = none from hh] | rw [hh]
  refine wpAny_bind (wpAny_pure (wpAny_throw ?_))
  exact hE _ _ (((Heap.SameBut.update ..).extBut.push _).push _) ⟨_, Heap.get?_push_size _ rfl, rfl⟩

theorem Nxt.tuple (hh : A.handled = none) (i t : Addr) (hne : t ≠ i) (vs : Array Value) : Nxt prog w A i [i, t] vs (fun k h => h.IsTupleIter i t k ∧ h.IsTuple t vs) where
  self := by simp
  frame := fun k h h' st hk => ⟨st.1.at fun o e => hk i (by simp) o e, st.2.at fun o e => hk t (by simp) o e⟩
  item := fun k s x Q E hx st hQ => nextOf_tuple st.1 st.2 hx fun h' q1 q2 => hQ h' ⟨q1, st.2.extBut q2.extBut hne⟩ q2
  done := fun s Q E st hE => nextOf_tuple_end hh st.1 st.2 (by simp) hE
  there := fun k h st => let ⟨o, e, _⟩ := st.1; ⟨o, e⟩
theorem Nxt.in1 {i : Addr} {fp : List Addr} {vs : Array Value} {St : Nat → Heap → Prop} (N : Nxt prog w A.in1 i fp vs St) : Nxt prog w A i fp vs St where
  self := N.self
  frame := N.frame
  item := fun k s x Q E hx st hQ => wpAny_of_in1 (N.item k s x Q E hx st hQ)
  done := fun s Q E st hE => wpAny_of_in1 (N.done s Q E st hE)
  there := N.there
end

section
variable {prog : Program} {w : World} {A : Around} {E : Value → Shared → Prop} {s : Shared}
theorem enum_item {e i : Addr} {fp : List Addr} {vs : Array Value} {St : Nat → Heap → Prop} (N : Nxt prog w A i fp vs St) {k : Nat} {x old : Value} {Q : Value → Shared → Prop}
    (he : IsEnum s.heap e i k old) (st : St k s.heap) (hx : vs[k]? = some x) (hef : e ∉ fp)
    (hQ : ∀ h', IsEnumOut h' e i ((k : Int) + 1) x s.heap.objs.size → St (k + 1) h' → h'.get? s.heap.objs.size = some { cls := .type "tuple", data := .seq #[.int k s.toks, x] } →
      (∀ b o, b ≠ e → b ≠ i → s.heap.get? b = some o → h'.get? b = some o) → Q (.ref s.heap.objs.size) { s with heap := h', toks := s.toks + 1 }) :
    wpAny (model prog w) A (Builtin.«enumerate.__next__» ⟨[.ref e], []⟩) (fun fin s' => ∃ v, fin = .done (.ret v) ∧ Q v s') E s := by
  obtain ⟨hp, g, d, tk, os⟩ := s
  have hne : e ≠ i := fun q => hef (q ▸ N.self)
  show wpAny _ _ (field (.ref e) 2 >>= _) _ _ _
  refine wpAny_bind (wpAny_field he rfl (x := .ref i) rfl ?_)
  refine wpAny_bind (N.item k _ x _ _ hx st fun h₁ st₁ hs₁ => ?_)
  replace hs₁ : Heap.SameBut i hp h₁ := hs₁
  have he₁ : IsEnum h₁ e i k old := (hs₁.2 e hne).trans he
  show wpAny _ _ (field (.ref e) 3 >>= _) _ _ ⟨h₁, g, d, tk, os⟩
  refine wpAny_bind (wpAny_field he₁ rfl (x := rawInt k) rfl ?_)
  show wpAny _ _ (field (.ref e) 4 >>= _) _ _ ⟨h₁, g, d, tk, os⟩
  refine wpAny_bind (wpAny_field he₁ rfl (x := .none) rfl ?_)
  show wpAny _ _ (mkInt k >>= _) _ _ ⟨h₁, g, d, tk, os⟩
  refine wpAny_bind (wpAny_mkInt ?_)
  show wpAny _ _ (setField (.ref e) 3 (rawInt ((k : Int) + 1)) >>= _) _ _ ⟨h₁, g, d, tk + 1, os⟩
  refine wpAny_bind (wpAny_setField_rec he₁ (by simp) fun h₂ he₂ hs₂ => ?_)
  replace hs₂ : Heap.SameBut e h₁ h₂ := hs₂
  replace he₂ : IsEnum h₂ e i ((k : Int) + 1) old := he₂
  show wpAny _ _ (setField (.ref e) 4 .none >>= _) _ _ ⟨h₂, g, d, tk + 1, os⟩
  refine wpAny_bind (wpAny_setField_rec he₂ (by simp) fun h₃ he₃ hs₃ => ?_)
  replace hs₃ : Heap.SameBut e h₂ h₃ := hs₃
  replace he₃ : IsEnum h₃ e i ((k : Int) + 1) old := he₃
  show wpAny _ _ (newTuple [.int k tk, x] >>= _) _ _ ⟨h₃, g, d, tk + 1, os⟩
  refine wpAny_bind (wpAny_newTuple ?_)
  have he₄ : IsEnum (h₃.push { cls := .type "tuple", data := .seq #[.int k tk, x] }) e i ((k : Int) + 1) old := Heap.get?_push_of_some _ he₃
  generalize hh₄ : h₃.push { cls := .type "tuple", data := .seq #[.int k tk, x] } = h₄ at he₄
  have hsz : h₃.objs.size = hp.objs.size := by rw [hs₃.1, hs₂.1, hs₁.1]
  have hel : e < hp.objs.size := Heap.lt_size he
  have ht₄ : h₄.get? hp.objs.size = some { cls := .type "tuple", data := .seq #[.int k tk, x] } := by rw [← hh₄, ← hsz]; exact Heap.get?_push_size _ rfl
  have up₄ : ∀ b o, b ≠ e → h₁.get? b = some o → h₄.get? b = some o := fun b o hb q => by
    rw [← hh₄]; exact Heap.get?_push_of_some _ (hs₃.extBut b o hb (hs₂.extBut b o hb q))
  show wpAny _ _ (Builtin.SmallTypes.ownedTupleIsFree (.ref e) >>= _) _ _ ⟨h₄, g, d, tk + 1, os⟩
  rw [hsz]
  refine wpAny_bind ?_
  unfold Builtin.SmallTypes.ownedTupleIsFree
  refine wpAny_bind (wpAny_field he₄ rfl (x := .none) rfl (wpAny_pure ?_))
  simp only [if_true]
  refine wpAny_bind (wpAny_rule ?_)
  refine wpAny_bind (wpAny_field he₄ rfl (x := old) rfl ?_)
  refine wpAny_bind (wpAny_setField_rec he₄ (by simp) fun h₅ he₅ hs₅ => ?_)
  replace hs₅ : Heap.SameBut e h₄ h₅ := hs₅
  replace he₅ : IsEnum h₅ e i ((k : Int) + 1) x := he₅
  show wpAny _ _ (Builtin.SmallTypes.ownedTupleHandOut (.ref e) (.ref hp.objs.size) >>= _) _ _ ⟨h₅, g, d, tk + 1, os⟩
  refine wpAny_bind ?_
  unfold Builtin.SmallTypes.ownedTupleHandOut
  refine wpAny_bind (wpAny_setField_rec he₅ (by simp) fun h₆ he₆ hs₆ => ?_)
  replace hs₆ : Heap.SameBut e h₅ h₆ := hs₆
  replace he₆ : IsEnumOut h₆ e i ((k : Int) + 1) x hp.objs.size := he₆
  refine wpAny_setField_rec he₆ (by simp) fun h₇ he₇ hs₇ => ?_
  replace hs₇ : Heap.SameBut e h₆ h₇ := hs₇
  replace he₇ : IsEnumOut h₇ e i ((k : Int) + 1) x hp.objs.size := he₇
  have up : ∀ b o, b ≠ e → h₄.get? b = some o → h₇.get? b = some o := fun b o hb q => hs₇.extBut b o hb (hs₆.extBut b o hb (hs₅.extBut b o hb q))
  refine wpAny_bind (wpAny_letGo (wpAny_pure ⟨_, rfl, hQ h₇ he₇ (N.frame _ _ _ st₁ fun b hb o q => ?_) (up _ _ (Nat.ne_of_gt hel) ht₄) fun b o hbe hbi hb => ?_⟩))
  · have hbe : b ≠ e := fun q' => hef (q' ▸ hb)
    exact up b o hbe (up₄ b o hbe q)
  · exact up b o hbe (up₄ b o hbe (hs₁.extBut b o hbi hb))

theorem WalksT.enumN {e i : Addr} {fp : List Addr} {vs : Array Value} {St : Nat → Heap → Prop} (N : Nxt prog w A.in1 i fp vs St) (hef : e ∉ fp) :
    WalksT prog w A e (e :: fp) [e, i] vs.size (fun k vals => ∃ t x, vs[k]? = some x ∧ vals = #[.int k t, x])
      (fun k h => (∃ old, IsEnum h e i k old) ∧ St k h) (fun k T h => (∃ x, IsEnumOut h e i ((k : Int) + 1) x T) ∧ St (k + 1) h ∧ T ≠ e ∧ T ≠ i) where
  sub := fun b hb => by
    rcases List.mem_cons.mp hb with rfl | hb
    · exact List.mem_cons_self ..
    · rcases List.mem_cons.mp hb with rfl | hb
      · exact List.mem_cons_of_mem _ N.self
      · cases hb
  frame := fun k h h' ⟨⟨old, he⟩, st⟩ hk => ⟨⟨old, hk e (List.mem_cons_self ..) _ he⟩, N.frame _ _ _ st fun b hb o q => hk b (List.mem_cons_of_mem _ hb) o q⟩
  item := fun k s Q E hi ⟨⟨old, he⟩, st⟩ hQ => by
    have hT : s.TypeIs (.ref e) "enumerate" := ⟨_, he, rfl⟩
    have hx : vs[k]? = some vs[k] := Array.getElem?_eq_getElem hi
    obtain ⟨oi, hoi⟩ := N.there _ _ st
    unfold pyNext
    refine wpAny_bind (wpAny_attempt (wpAny_callSpecial?_slot (name := Str.ofString "__next__") hT F.slot_enumerate_next (wpAny_call_entry F.slot_enumerate_next hT F.entry_enumerate_next
      (enum_item N he st hx hef fun h' a b c k' => wpAny_pure (hQ _ #[.int k s.toks, vs[k]] h' (s.toks + 1) ⟨_, _, hx, rfl⟩ (Nat.le_refl _) ⟨_, c, rfl, _, rfl⟩ ⟨⟨_, a⟩, b, Nat.ne_of_gt (Heap.lt_size he), Nat.ne_of_gt (Heap.lt_size hoi)⟩
        fun b o hb q => k' b o (fun q' => hb (by simp [q'])) (fun q' => hb (by simp [q'])) q)) (F.args_enumerate_next_1 _))))
  go := fun elts k pos j T s Q E ⟨⟨x, ho⟩, st, hTe, hTi⟩ hQ => by
    refine wpAny_letOwnedTupleGo_enum ho fun h' he' hs' => hQ h' ⟨⟨x, by simpa using he'⟩, N.frame _ _ _ st fun b hb o q => (hs'.2 b fun q' => hef (q' ▸ hb)).trans q⟩ fun b o hb q => (hs'.2 b fun q' => hb (by simp [q'])).trans q
  apart := fun j T h ⟨_, _, hTe, hTi⟩ hT => by
    rcases List.mem_cons.mp hT with rfl | hT
    · exact hTe rfl
    · rcases List.mem_cons.mp hT with rfl | hT
      · exact hTi rfl
      · cases hT
  done := fun s Q E ⟨⟨old, he⟩, st⟩ hQ => by
    have hT : s.TypeIs (.ref e) "enumerate" := ⟨_, he, rfl⟩
    unfold pyNext
    refine wpAny_bind (wpAny_attempt (wpAny_callSpecial?_slot (name := Str.ofString "__next__") hT F.slot_enumerate_next (wpAny_call_entry F.slot_enumerate_next hT F.entry_enumerate_next ?_ (F.args_enumerate_next_1 _))))
    show wpAny _ _ (field (.ref e) 2 >>= _) _ _ _
    refine wpAny_bind (wpAny_field he rfl (x := .ref i) rfl ?_)
    refine wpAny_bind (N.done s _ _ st fun h' x he' hx' => ?_)
    obtain ⟨o, ho, hc⟩ := hx'
    refine wpAny_bind (wpAny_isInstance (T := "StopIteration") (b := true) ⟨o, ho, hc⟩ isSubtype_stop ?_)
    exact wpAny_pure (hQ h' s.toks fun b o hb q => he' b o (fun q' => hb (by simp [q'])) q)
  self := fun k s Q E ⟨⟨old, he⟩, _⟩ hQ => wpAny_pyIter_enum he hQ
end

structure ZOff (z TI TO i1 i2 : Addr) (f1 f2 : List Addr) : Prop where
  z1 : z ∉ f1
  z2 : z ∉ f2
  o1 : TO ∉ f1
  o2 : TO ∉ f2
  i12 : i1 ∉ f2
  i21 : i2 ∉ f1
  TIz : TI ≠ z
  TOz : TO ≠ z
  TITO : TI ≠ TO
  TIi1 : TI ≠ i1
  TIi2 : TI ≠ i2

section
variable {prog : Program} {w : World} {A : Around} {E : Value → Shared → Prop} {s : Shared} {z TI TO i1 i2 : Addr} {f1 f2 : List Addr} {xs ys : Array Value} {S1 S2 : Nat → Heap → Prop}
end

section
open AutoSeq1 (wpAny_loadPart')
abbrev tIt (t : Addr) : Obj := { cls := .type "tuple_iterator", data := .fields #[.ref t, .int 0 0] }
abbrev zt1 (h : Heap) (a : Addr) : Heap := h.push (tIt a)
abbrev zt2 (h : Heap) (a b : Addr) : Heap := (zt1 h a).push (tIt b)
abbrev zt3 (h : Heap) (a b : Addr) : Heap := (zt2 h a b).push { cls := .type "tuple", data := .seq #[.ref h.objs.size, .ref (zt1 h a).objs.size] }
abbrev zt4 (h : Heap) (a b : Addr) : Heap := (zt3 h a b).push { cls := .type "tuple", data := .seq #[.none, .none] }
abbrev zt5 (h : Heap) (a b : Addr) : Heap := (zt4 h a b).push { cls := .type "zip", data := .fields #[.none, .bool false, .bool false, .ref (zt2 h a b).objs.size, .ref (zt3 h a b).objs.size] }
theorem meets_enum_tuple (t : Addr) (xs : Array Value) (n : Nat) :
    Meets (Builtin.«enumerate.__new__» ⟨[.type "enumerate", .ref t], []⟩) (fun _ R s => s.heap.get? t = some { cls := .type "tuple", dict := none, data := .seq xs n, slots := #[] } ∧
      R (.ok (.ret (.ref (s.heap.push (tIt t)).objs.size)))
        { s with heap := (s.heap.push (tIt t)).push { cls := .type "enumerate", data := .fields #[.none, .bool false, .ref s.heap.objs.size, rawInt 0, .none, .none] } }) :=
  .of_wp fun prog w A R s h => by
    obtain ⟨hp, g, d, tk, os⟩ := s; obtain ⟨hl, h⟩ := h
    have hsub := sub_enumerate
    have hL : Heap.IsTuple (Shared.heap ⟨hp, g, d, tk, os⟩) t xs := ⟨_, hl, rfl, n, rfl⟩
    wp_walk using wpAny_loadPart' hl
    refine wpAny_stack_any fun st => wpAny_pure ?_
    split
    · rename_i c _ _ _ _ _
      cases (c == Value.type "enumerate")
      · wp_walk using wpAny_loadPart' hl, wpAny_pyIter_tuple hL
        exact ⟨_, rfl, h⟩
      · wp_walk using wpAny_loadPart' hl, wpAny_pyIter_tuple hL
        exact ⟨_, rfl, h⟩
    · wp_walk using wpAny_loadPart' hl, wpAny_pyIter_tuple hL
      exact ⟨_, rfl, h⟩
theorem call_enum_tuple {prog : Program} {w : World} {A : Around} {E : Value → Shared → Prop} {s : Shared} {t : Addr} {xs : Array Value} {n : Nat} {Q : Value → Shared → Prop}
    (hl : s.heap.get? t = some { cls := .type "tuple", dict := none, data := .seq xs n, slots := #[] })
    (h : ∀ h', IsEnum h' (s.heap.objs.size + 1) s.heap.objs.size 0 .none → h'.IsTupleIter s.heap.objs.size t 0 → h'.objs.size = s.heap.objs.size + 2 →
      (∀ b o, s.heap.get? b = some o → h'.get? b = some o) → Q (.ref (s.heap.objs.size + 1)) { s with heap := h' }) :
    wpAny (model prog w) A (call (.type "enumerate") [.ref t]) Q E s := by
  refine callType_new F.called_enumerate (by decide) (F.typeCall_enumerate_1 _) (F.newCall_enumerate_1 _) (fun obj => F.args_object_init_2 obj _) F.entry_enumerate_new (meets_enum_tuple t xs n) ⟨hl, ?_⟩
  have hz : (s.heap.push (tIt t)).objs.size = s.heap.objs.size + 1 := Heap.size_push ..
  show _ ∧ _
  rw [hz]
  have he : IsEnum ((s.heap.push (tIt t)).push { cls := .type "enumerate", data := .fields #[.none, .bool false, .ref s.heap.objs.size, rawInt 0, .none, .none] }) (s.heap.objs.size + 1) s.heap.objs.size 0 .none := by
    have := Heap.get?_push_size (s.heap.push (tIt t)) (o := { cls := .type "enumerate", data := .fields #[.none, .bool false, .ref s.heap.objs.size, rawInt 0, .none, .none] }) rfl
    rw [hz] at this; exact this
  exact ⟨⟨_, he, rfl⟩, h _ he ⟨_, Heap.get?_push_of_some _ (Heap.get?_push_size _ rfl), rfl, rfl⟩ (by rw [Heap.size_push, hz]) fun b o x => Heap.get?_push_of_some _ (Heap.get?_push_of_some _ x)⟩
end
end Mine
end

section
set_option autoImplicit false
namespace Mine
open PySem

def OffK (K : Fm) (X : List Addr) : Prop := ∀ a ∈ X, a ≠ K.env.locals ∧ (∀ y c, K.env.cells.lookup y = some c → a ≠ c) ∧ a ∉ K.fr
theorem offK_of {K : Fm} {rho : List (Str × Option D)} {W X : List Addr} {s : Shared} (R : Rel K rho W s) (h : ∀ a ∈ X, ∃ o, s.heap.get? a = some o ∧ Solid o) : OffK K X := fun a ha => by
  obtain ⟨o, e, sol⟩ := h a ha
  refine ⟨fun q => ?_, fun y c hc q => ?_, fun hm => ?_⟩
  · subst q
    obtain ⟨m, o', es, ep, e', hd, _⟩ := R.loc
    rw [e] at e'; cases e'
    rcases sol with ⟨_, _, q⟩ | ⟨_, q, _⟩ <;> (rw [hd] at q; cases q)
  · subst q
    obtain ⟨v, o', e', hd⟩ := R.cells y a hc
    rw [e] at e'; cases e'
    rcases sol with ⟨_, _, q⟩ | ⟨_, q, _⟩ <;> (rw [hd] at q; cases q)
  · obtain ⟨m, o', es, ep, e', hd, _⟩ := R.fdict a hm
    rw [e] at e'; cases e'
    rcases sol with ⟨_, _, q⟩ | ⟨_, q, _⟩ <;> (rw [hd] at q; cases q)

theorem Rel.turn {K : Fm} {rho : List (Str × Option D)} {W W' X : List Addr} {s s' : Shared} (R : Rel K rho W s) (hX : ∀ a ∈ X, a ∈ W) (hW' : ∀ a ∈ W', a ∈ W) (off : OffK K X) (hsol : ∀ a ∈ X, ∃ o, s.heap.get? a = some o ∧ NoTab o) (new : ∀ a ∈ X, K.s0.heap.get? a = none) (same : ∃ h' tk, s' = { s with heap := h', toks := tk })
    (keep : ∀ b o, b ∉ X → s.heap.get? b = some o → s'.heap.get? b = some o) (live : ∀ a ∈ X, a ∈ W' → ∃ o, s'.heap.get? a = some o) : Rel K rho W' s' where
  ok := R.ok
  off := fun a ha => by
    by_cases hx : a ∈ X
    · exact live a hx ha
    · exact let ⟨o, e⟩ := R.off a (hW' a ha); ⟨o, keep a o hx e⟩
  same := by
    obtain ⟨h, tk, e⟩ := R.same
    obtain ⟨h', tk', e'⟩ := same
    exact ⟨h', tk', by rw [e', e]⟩
  stays := fun b o e => keep b o (fun hx => by have := R.ok.base0 b o e; rw [new b hx] at this; cases this) (R.stays b o e)
  kept := fun b o e => by
    have hb : b ∉ X := fun hx => by rw [new b hx] at e; cases e
    rcases R.kept b o e with q | ⟨q1, q2, sl, q3⟩ | q
    · exact .inl (keep b o hb q)
    · exact .inr (.inl ⟨q1, q2, sl, keep b _ hb q3⟩)
    · exact .inr (.inr (q.keep fun b' o' e' hv hc => keep b' o' (fun hx => by obtain ⟨o2, e2, so⟩ := hsol b' hx; rw [e'] at e2; cases e2; exact so hv hc) e'))
  frames := by
    have : ∀ {l : List Env}, (∀ b ∈ l.filterMap (·.frame), b ∉ X) → s.heap.FunFrames K.G.base l → s'.heap.FunFrames K.G.base l := by
      intro l
      induction l with
      | nil => intro _ _; trivial
      | cons env r ih =>
        intro hl h
        obtain ⟨hk, ⟨L, o, hf, hn, ho, hd⟩, hr⟩ := h
        exact ⟨hk, ⟨L, o, hf, hn, keep L o (hl L (by simp [hf])) ho, hd⟩, ih (fun b hb => hl b (by
          obtain ⟨e', he', hfe⟩ := List.mem_filterMap.mp hb
          exact List.mem_filterMap.mpr ⟨e', List.mem_cons_of_mem _ he', hfe⟩)) hr⟩
    exact this (fun b hb hx => (off b hx).2.2 hb) R.frames
  fdict := fun b hb => let ⟨m, n⟩ := R.fdict b hb; ⟨m, n.at' fun o e => keep b o (fun hx => (off b hx).2.2 hb) e⟩
  loc := let ⟨m, n⟩ := R.loc; ⟨m, n.at' fun o e => keep _ o (fun hx => (off _ hx).1 rfl) e⟩
  cells := fun y c e => let ⟨v, o, ho, hd⟩ := R.cells y c e; ⟨v, o, keep c o (fun hx => (off c hx).2.1 y c e rfl) ho, hd⟩
  nodup := R.nodup
  plain := R.plain
  vars := fun y d hm => by
    obtain ⟨v, as, q1, q2⟩ := R.vars y d hm
    refine ⟨v, as, ?_, (q2.ks fun b o hb e _ => keep b o (fun hx => hb (hX b hx)) e).sub hW'⟩
    rcases q1 with ⟨k, m, n, e⟩ | ⟨k, c, e, o, ho, hd⟩
    · exact .inl ⟨k, m, n.at' fun o e => keep _ o (fun hx => (off _ hx).1 rfl) e, e⟩
    · exact .inr ⟨k, c, e, o, keep c o (fun hx => (off c hx).2.1 y c e rfl) ho, hd⟩

theorem Rel.ext {K : Fm} {rho : List (Str × Option D)} {W X : List Addr} {s s' : Shared} (R : Rel K rho W s) (st : Step K.fr s s') (new : ∀ a ∈ X, s.heap.get? a = none) (live : ∀ a ∈ X, ∃ o, s'.heap.get? a = some o) : Rel K rho (W ++ X) s' :=
  have R' := R.step st
  { R' with
    off := fun a ha => (List.mem_append.mp ha).elim (R'.off a) (live a)
    vars := fun y d hm => let ⟨v, as, q1, q2⟩ := R.vars y d hm; ⟨v, as, st.kf.holds q1, (q2.ext new).kf st.kf⟩ }
theorem Rel.sub {K : Fm} {rho : List (Str × Option D)} {W W' : List Addr} {s : Shared} (R : Rel K rho W s) (hs : ∀ a ∈ W', a ∈ W) : Rel K rho W' s :=
  { R with
    off := fun a ha => R.off a (hs a ha)
    vars := fun y d hm => let ⟨v, as, q1, q2⟩ := R.vars y d hm; ⟨v, as, q1, q2.sub hs⟩ }

structure Src (W : List Addr) (s s2 : Shared) (fp wr : List Addr) (St : Nat → Heap → Prop) : Prop where
  new : ∀ b ∈ wr, s.heap.get? b = none
  there : ∀ b ∈ fp, ∃ o, s2.heap.get? b = some o ∧ Solid o
  lists : ∀ b ∈ fp, ∀ vs n, s2.heap.get? b = some (listO vs n) → b ∉ W
  live : ∀ i h, St i h → ∀ b ∈ wr, ∃ o, h.get? b = some o ∧ Solid o
inductive Item1 (ds : List D) (W : List Addr) (h : Heap) (i : Nat) (v : Value) : Prop
  | mk (d : D) (as : List Addr) : ds[i]? = some d → Rd W h v d as → Item1 ds W h i v
inductive Iter1 (K : Fm) (W : List Addr) (s : Shared) (ds : List D) (it : Value) (s2 : Shared) : Prop
  | mk (st : Step K.fr s s2) (I : Addr) (fp wr : List Addr) (Pv : Nat → Value → Prop) (St : Nat → Heap → Prop) : it = .ref I → Walks K.G.prog K.G.w K.A I fp wr ds.length Pv St → St 0 s2.heap → Src W s s2 fp wr St → (∀ i v, i < ds.length → Pv i v → Item1 ds (W ++ wr) s2.heap i v) → Iter1 K W s ds it s2
inductive Item2 (ds : List (D × D)) (W : List Addr) (h : Heap) (i : Nat) (vals : Array Value) : Prop
  | mk (v1 v2 : Value) (d1 d2 : D) (as bs : List Addr) : vals = #[v1, v2] → ds[i]? = some (d1, d2) → Rd W h v1 d1 as → Rd W h v2 d2 bs → Item2 ds W h i vals
inductive Iter2 (K : Fm) (W : List Addr) (s : Shared) (ds : List (D × D)) (it : Value) (s2 : Shared) : Prop
  | mk (st : Step K.fr s s2) (I : Addr) (fp wr : List Addr) (Pt : Nat → Array Value → Prop) (St : Nat → Heap → Prop) (Mid : Nat → Addr → Heap → Prop) : it = .ref I → WalksU K.G.prog K.G.w K.A I fp wr ds.length Pt St Mid → St 0 s2.heap → Src W s s2 fp wr St →
    (∀ i vals, i < ds.length → Pt i vals → Item2 ds (W ++ wr) s2.heap i vals) → Iter2 K W s ds it s2
def IT (K : Fm) (rho : List (Str × Option D)) (e : Expr) (ds : List D) : Prop :=
  ∀ W s, Rel K rho W s → ∀ E, wpAny K.M K.A (eval e K.env) (fun x s1 => wpAny K.M K.A (pyIter x) (Iter1 K W s ds) E s1) E s
def IT2 (K : Fm) (rho : List (Str × Option D)) (e : Expr) (ds : List (D × D)) : Prop :=
  ∀ W s, Rel K rho W s → ∀ E, wpAny K.M K.A (eval e K.env) (fun x s1 => wpAny K.M K.A (pyIter x) (Iter2 K W s ds) E s1) E s

section
variable {K : Fm} {rho : List (Str × Option D)} {e e2 : Expr} {ds es : List D} {f g : Bool}
theorem fresh_push {s s1 : Shared} {fr : List Addr} (st : Step fr s s1) : s.heap.get? s1.heap.objs.size = none := st.kf.fresh (get?_size _)

theorem it_list (hh : K.A.handled = none) (h : EV K rho e (.list ds) f) : IT K rho e ds := fun W s R E =>
  h.bind R fun v s1 R1 g => by
    obtain ⟨st, as, q, _⟩ := g
    obtain ⟨l, vs, n, bs, rfl, _, ho, hr, hlW⟩ := q.list_inv
    have hlen : vs.toArray.size = ds.length := by rw [List.size_toArray]; exact hr.length
    refine wpAny_pyIter_list (isList_of ho) ⟨st.trans (step_push s1 _), s1.heap.objs.size, [s1.heap.objs.size, l], [s1.heap.objs.size], _, _, rfl, hlen ▸ Walks.list hh s1.heap.objs.size l (Nat.ne_of_lt (Heap.lt_size ho)) vs.toArray, ?_, ⟨?_, ?_, ?_, ?_⟩, ?_⟩
    · exact ⟨⟨_, Heap.get?_push_size _ rfl, rfl, rfl⟩, (isList_of ho).push _⟩
    · intro b hb; obtain rfl := List.mem_singleton.mp hb; exact fresh_push st
    · intro b hb
      simp only [List.mem_cons, List.not_mem_nil, or_false] at hb
      rcases hb with rfl | rfl
      · exact ⟨_, Heap.get?_push_size _ rfl, solid_ty rfl rfl (by decide)⟩
      · exact ⟨_, Heap.get?_push_of_some _ ho, .inl ⟨_, _, rfl⟩⟩
    · intro b hb vs' n' eb
      simp only [List.mem_cons, List.not_mem_nil, or_false] at hb
      rcases hb with rfl | rfl
      · exact off_size R1.off
      · exact hlW
    · intro i h' st' b hb; obtain rfl := List.mem_singleton.mp hb; obtain ⟨⟨o, eo, ec, ed⟩, _⟩ := st'; exact ⟨o, eo, solid_ty ed ec (by decide)⟩
    · intro i v _ hv
      obtain ⟨d, cs, e1, e2, _⟩ := hr.getv i v (by simpa using hv)
      refine ⟨d, cs, e1, (e2.ext (W' := [s1.heap.objs.size]) fun a ha => ?_).kf (kf_push (fr := []) _ _)⟩
      obtain rfl := List.mem_singleton.mp ha; exact get?_size _
theorem it_tuple (hh : K.A.handled = none) (h : EV K rho e (.tuple ds) f) : IT K rho e ds := fun W s R E =>
  h.bind R fun v s1 R1 g => by
    obtain ⟨st, as, q, _⟩ := g
    obtain ⟨l, vs, n, rfl, ho, hr, hlW⟩ := q.tuple_inv
    have hlen : vs.toArray.size = ds.length := by rw [List.size_toArray]; exact hr.length
    refine wpAny_pyIter_tuple (isTup_of ho) ⟨st.trans (step_push s1 _), s1.heap.objs.size, [s1.heap.objs.size, l], [s1.heap.objs.size], _, _, rfl, hlen ▸ Walks.tuple hh s1.heap.objs.size l (Nat.ne_of_lt (Heap.lt_size ho)) vs.toArray, ?_, ⟨?_, ?_, ?_, ?_⟩, ?_⟩
    · exact ⟨⟨_, Heap.get?_push_size _ rfl, rfl, rfl⟩, Heap.IsTuple.push (isTup_of ho) _⟩
    · intro b hb; obtain rfl := List.mem_singleton.mp hb; exact fresh_push st
    · intro b hb
      simp only [List.mem_cons, List.not_mem_nil, or_false] at hb
      rcases hb with rfl | rfl
      · exact ⟨_, Heap.get?_push_size _ rfl, solid_ty rfl rfl (by decide)⟩
      · exact ⟨_, Heap.get?_push_of_some _ ho, .inl ⟨_, _, rfl⟩⟩
    · intro b hb vs' n' eb
      simp only [List.mem_cons, List.not_mem_nil, or_false] at hb
      rcases hb with rfl | rfl
      · exact off_size R1.off
      · exact hlW
    · intro i h' st' b hb; obtain rfl := List.mem_singleton.mp hb; obtain ⟨⟨o, eo, ec, ed⟩, _⟩ := st'; exact ⟨o, eo, solid_ty ed ec (by decide)⟩
    · intro i v _ hv
      obtain ⟨d, cs, e1, e2, _⟩ := hr.getv i v (by simpa using hv)
      refine ⟨d, cs, e1, (e2.ext (W' := [s1.heap.objs.size]) fun a ha => ?_).kf (kf_push (fr := []) _ _)⟩
      obtain rfl := List.mem_singleton.mp ha; exact get?_size _
end
end Mine
end

section
set_option autoImplicit false
namespace Mine
open PySem

inductive Sl
  | no
  | fz (d : D)
  | ow (d : D)
def Sl.full : Sl → Option D
  | .no => none
  | .fz d => some d
  | .ow d => some d
def Sl.froz : Sl → Option D
  | .fz d => some d
  | _ => none
abbrev Sg := List (Str × Sl)
def fullOf (g : Sg) : List (Str × Option D) := g.map fun p => (p.1, p.2.full)
def frozOf (g : Sg) : List (Str × Option D) := g.map fun p => (p.1, p.2.froz)
theorem full_names (g : Sg) : (fullOf g).map (·.1) = g.map (·.1) := by simp [fullOf, Function.comp_def]
theorem froz_names (g : Sg) : (frozOf g).map (·.1) = g.map (·.1) := by simp [frozOf, Function.comp_def]

inductive SegG (env : Env) (W0 : List Addr) (h : Heap) : Sg → List Addr → Prop
  | nil : SegG env W0 h [] []
  | no {x g W} : SegG env W0 h g W → SegG env W0 h ((x, .no) :: g) W
  | fz {x d g W} : SegG env W0 h g W → SegG env W0 h ((x, .fz d) :: g) W
  | ow {x d v as g W} : Holds env h x v → Rd W0 h v d as → SegG env W0 h g W → SegG env W0 h ((x, .ow d) :: g) (as ++ W)

theorem SegG.step {env : Env} {W0 fr : List Addr} {h h' : Heap} (k : KF fr h h') {g : Sg} {W : List Addr} (x : SegG env W0 h g W) : SegG env W0 h' g W := by
  induction x with
  | nil => exact .nil
  | no _ ih => exact .no ih
  | fz _ ih => exact .fz ih
  | ow a b _ ih => exact .ow (k.holds a) (b.kf k) ih
theorem SegG.get {env : Env} {W0 : List Addr} {h : Heap} {g : Sg} {W : List Addr} (q : SegG env W0 h g W) {x : Str} {d : D} (hm : (x, Sl.ow d) ∈ g) : ∃ v as, Holds env h x v ∧ Rd W0 h v d as ∧ ∀ a ∈ as, a ∈ W := by
  induction q with
  | nil => cases hm
  | no _ ih => rcases List.mem_cons.mp hm with e | hm; · cases e
               · exact ih hm
  | fz _ ih => rcases List.mem_cons.mp hm with e | hm; · cases e
               · exact ih hm
  | @ow y d' v as g W a b _ ih =>
    rcases List.mem_cons.mp hm with e | hm
    · cases e; exact ⟨v, as, a, b, fun a ha => List.mem_append_left _ ha⟩
    · exact let ⟨v, bs, q1, q2, q3⟩ := ih hm; ⟨v, bs, q1, q2, fun a ha => List.mem_append_right _ (q3 a ha)⟩
theorem SegG.lists {env : Env} {W0 : List Addr} {h : Heap} {g : Sg} {W : List Addr} (q : SegG env W0 h g W) : ∀ a ∈ W, a ∉ W0 ∧ ∃ vs n, h.get? a = some (listO vs n) := by
  induction q with
  | nil => intro a ha; cases ha
  | no _ ih => exact ih
  | fz _ ih => exact ih
  | ow _ b _ ih => intro a ha; exact (List.mem_append.mp ha).elim (b.there a) (ih a)

structure OR (K : Fm) (W0 W1 : List Addr) (g : Sg) (s : Shared) : Prop where
  rel : Rel K (frozOf g) (W0 ++ W1) s
  seg : SegG K.env W0 s.heap g W1
  nd : W1.Nodup
  nw : ∀ a ∈ W1, K.s0.heap.get? a = none
structure Fra (W1 W1' : List Addr) (s s' : Shared) : Prop where
  keep : ∀ b o, b ∉ W1 → Solid o → s.heap.get? b = some o → s'.heap.get? b = some o
  live : ∀ b o, s.heap.get? b = some o → ∃ o', s'.heap.get? b = some o'
  new : ∀ a ∈ W1', a ∈ W1 ∨ s.heap.get? a = none
theorem Fra.refl (W1 : List Addr) (s : Shared) : Fra W1 W1 s s := ⟨fun _ _ _ _ e => e, fun _ o e => ⟨o, e⟩, fun _ h => .inl h⟩
theorem Fra.trans {W1 W2 W3 : List Addr} {s1 s2 s3 : Shared} (x : Fra W1 W2 s1 s2) (y : Fra W2 W3 s2 s3) : Fra W1 W3 s1 s3 where
  keep := fun b o hb so e => y.keep b o (fun hm => (x.new b hm).elim hb fun q => by rw [q] at e; cases e) so (x.keep b o hb so e)
  live := fun b o e => let ⟨o', e'⟩ := x.live b o e; y.live b o' e'
  new := fun a ha => (y.new a ha).elim (x.new a) fun q => by
    cases e : s1.heap.get? a with
    | none => exact .inr rfl
    | some o => obtain ⟨o', e'⟩ := x.live a o e; rw [q] at e'; cases e'
theorem KF.solid {fr : List Addr} {h h' : Heap} (k : KF fr h h') {b : Addr} {o : Obj} (so : Solid o) (e : h.get? b = some o) : h'.get? b = some o :=
  k.whole e so.nodict so.tab
theorem Fra.of_step {fr W1 : List Addr} {s s' : Shared} (st : Step fr s s') : Fra W1 W1 s s' where
  keep := fun b o _ so e => st.kf.solid so e
  live := fun b o e => st.kf.live e
  new := fun _ h => .inl h

theorem mem_full {g : Sg} {x : Str} {d : D} : (x, some d) ∈ fullOf g ↔ (x, Sl.fz d) ∈ g ∨ (x, Sl.ow d) ∈ g := by
  simp only [fullOf, List.mem_map, Prod.mk.injEq, Prod.exists]
  constructor
  · rintro ⟨y, sl, hm, rfl, e⟩
    cases sl with
    | no => cases e
    | fz d' => cases e; exact .inl hm
    | ow d' => cases e; exact .inr hm
  · rintro (hm | hm)
    · exact ⟨_, _, hm, rfl, rfl⟩
    · exact ⟨_, _, hm, rfl, rfl⟩
theorem mem_froz {g : Sg} {x : Str} {d : D} : (x, some d) ∈ frozOf g ↔ (x, Sl.fz d) ∈ g := by
  simp only [frozOf, List.mem_map, Prod.mk.injEq, Prod.exists]
  constructor
  · rintro ⟨y, sl, hm, rfl, e⟩
    cases sl with
    | no => cases e
    | fz d' => cases e; exact hm
    | ow d' => cases e
  · intro hm; exact ⟨_, _, hm, rfl, rfl⟩

section
variable {K : Fm} {W0 W1 : List Addr} {g g' : Sg} {s s' : Shared}
theorem OR.full (r : OR K W0 W1 g s) : Rel K (fullOf g) W0 s := by
  obtain ⟨R, sg, _, _⟩ := r
  have R0 := R.sub (W' := W0) fun a ha => List.mem_append_left _ ha
  exact { R0 with
    nodup := by rw [full_names, ← froz_names]; exact R.nodup
    plain := fun x hx => R.plain x (by rw [froz_names, ← full_names]; exact hx)
    vars := fun x d hm => by
      rcases mem_full.mp hm with hm | hm
      · exact R0.vars x d (mem_froz.mpr hm)
      · exact let ⟨v, as, a, b, _⟩ := sg.get hm; ⟨v, as, a, b⟩ }
theorem OR.step (r : OR K W0 W1 g s) (st : Step K.fr s s') : OR K W0 W1 g s' :=
  let ⟨R, sg, nd, nw⟩ := r; ⟨R.step st, sg.step st.kf, nd, nw⟩
theorem OR.ok (r : OR K W0 W1 g s) : K.Ok := r.rel.ok

theorem tup_ne_list {vs ws : List Value} {n m : Nat} (e : tupO vs n = listO ws m) : False := by
  have := congrArg Obj.cls e
  simp at this
theorem rdc_widen {W0 W1 : List Addr} {h : Heap} (hl : ∀ a ∈ W1, ∃ vs n, h.get? a = some (listO vs n)) : RdC W0 h (fun v d as => (∀ a ∈ as, a ∉ W1) → Rd (W0 ++ W1) h v d as) (fun vs ds as => (∀ a ∈ as, a ∉ W1) → RdAll (W0 ++ W1) h vs ds as) :=
  ⟨fun _ => .none, fun b _ => .bool b, fun i t _ => .int i t, fun x t c _ => .str x t c, fun h0 h1 ih n => .list (fun hm => (List.mem_append.mp hm).elim h0 (n _ (.head _))) h1 (ih fun a ha => n a (.tail _ ha)),
    fun h0 h1 ih n => .tuple (fun hm => (List.mem_append.mp hm).elim h0 fun hm => by obtain ⟨vs, n, e⟩ := hl _ hm; rw [h1] at e; exact tup_ne_list (Option.some.inj e)) h1 (ih n),
    fun h0 h1 h2 h3 _ => .exc (fun hm => (List.mem_append.mp hm).elim h0 fun hm => by obtain ⟨vs, n, e⟩ := hl _ hm; rw [h1] at e; cases e; cases h3) h1 h2 h3, fun _ => .nil,
    fun i1 i2 n => .cons (i1 fun a ha => n a (List.mem_append_left _ ha)) (i2 fun a ha => n a (List.mem_append_right _ ha))⟩
theorem Rd.widen {W0 W1 : List Addr} {h : Heap} (hl : ∀ a ∈ W1, ∃ vs n, h.get? a = some (listO vs n)) {v : Value} {d : D} {as : List Addr} (r : Rd W0 h v d as) (n : ∀ a ∈ as, a ∉ W1) : Rd (W0 ++ W1) h v d as := (rdc_widen hl).rd r n
theorem RdAll.widen {W0 W1 : List Addr} {h : Heap} (hl : ∀ a ∈ W1, ∃ vs n, h.get? a = some (listO vs n)) {vs : List Value} {ds : List D} {as : List Addr} (r : RdAll W0 h vs ds as) (n : ∀ a ∈ as, a ∉ W1) : RdAll (W0 ++ W1) h vs ds as := (rdc_widen hl).rds r n

inductive PutS : Sg → Str → Sl → Sg → Prop
  | here {x o d r} : PutS ((x, o) :: r) x d ((x, d) :: r)
  | there {x y o d r r'} : PutS r x d r' → PutS ((y, o) :: r) x d ((y, o) :: r')
theorem PutS.names {r r' : Sg} {x : Str} {d : Sl} (p : PutS r x d r') : r'.map (·.1) = r.map (·.1) := by
  induction p with
  | here => rfl
  | there _ ih => simp [ih]
theorem PutS.mem_name {r r' : Sg} {x : Str} {d : Sl} (p : PutS r x d r') : x ∈ r.map (·.1) := by
  induction p with
  | here => simp
  | there _ ih => simp only [List.map_cons, List.mem_cons]; exact .inr ih
theorem PutS.froz {g g' : Sg} {x : Str} {d : D} (p : PutS g x (.fz d) g') : Put (frozOf g) x d (frozOf g') := by
  generalize hs : Sl.fz d = sl at p
  induction p with
  | here => subst hs; exact .here
  | there _ ih => exact .there (ih hs)
end

theorem store_core {K : Fm} {rho : List (Str × Option D)} {W : List Addr} {s : Shared} {x : Str} {v : Value} {Q : Unit → Shared → Prop} {E : Value → Shared → Prop}
    (R : Rel K rho W s) (hs : Storable K x)
    (k : ∀ s', (∃ h' tk, s' = { s with heap := h', toks := tk }) → (∀ W, KS W s.heap s'.heap) → (∀ b o, Solid o → s.heap.get? b = some o → s'.heap.get? b = some o) → (∀ b o, s.heap.get? b = some o → ∃ o', s'.heap.get? b = some o') → Holds K.env s'.heap x v → (∀ y w, y ≠ x → Holds K.env s.heap y w → Holds K.env s'.heap y w) → (∃ a, Slot K a ∧ Heap.SameBut a s.heap s'.heap) →
      (∀ rho', rho'.map (·.1) = rho.map (·.1) → (∀ y d, (y, some d) ∈ rho' → ∃ v as, Holds K.env s'.heap y v ∧ Rd W s'.heap v d as) → Rel K rho' W s') → Q () s') : wpAny K.M K.A (storeName K.env x v) Q E s := by
  obtain ⟨m, n⟩ := R.loc
  rcases hs with hl | ho
  · refine wpAny_storeName_local (R.ok.kindOf hl) n (fun h' n' sb => ?_) (by rw [R.ok.kindE]; rfl)
    obtain ⟨o, es, ep, ho, hd, _⟩ := id n
    obtain ⟨o', es', ep', ho', hd', _⟩ := id n'
    have e1 : ∀ vs, o.data ≠ .fields vs := fun vs e => by rw [hd] at e; cases e
    have e2 : ∀ xs n, o.data ≠ .seq xs n := fun xs n e => by rw [hd] at e; cases e
    have e3 : ∀ vs, o'.data ≠ .fields vs := fun vs e => by rw [hd'] at e; cases e
    have ks : ∀ W, KS W s.heap h' := fun W => .sameBut sb fun o2 e so => by rw [ho] at e; cases e; rcases so with ⟨xs, n, z⟩ | ⟨vs, z, _⟩; exact e2 xs n z; exact e1 vs z
    have sol : ∀ b o2, Solid o2 → s.heap.get? b = some o2 → h'.get? b = some o2 := fun b o2 so e => (sb.2 b fun q => by
      subst q; rw [ho] at e; cases e
      rcases so with ⟨_, _, q⟩ | ⟨_, q, _⟩
      · exact e2 _ _ q
      · exact e1 _ q).trans e
    have liv : ∀ b o2, s.heap.get? b = some o2 → ∃ o3, h'.get? b = some o3 := fun b o2 e => by
      by_cases q : b = K.env.locals
      · subst q; exact ⟨_, ho'⟩
      · exact ⟨o2, (sb.2 b q).trans e⟩
    refine k _ ⟨h', _, rfl⟩ ks sol liv (.inl ⟨R.ok.kindOf hl, _, n', by simp⟩) (fun y w hne q1 => ?_) ⟨_, .inl rfl, sb⟩ fun rho' hnm vars => ?_
    · rcases q1 with ⟨k1, m1, n1, e1⟩ | ⟨k1, c, e1, i1⟩
      · refine .inl ⟨k1, _, n', ?_⟩
        have hm1 : m1 = m := by
          obtain ⟨o1, es1, ep1, ho1, hd1, _, f1⟩ := n1
          obtain ⟨o2, es2, ep2, ho2, hd2, _, f2⟩ := n
          rw [ho1] at ho2; cases ho2
          rw [hd1] at hd2; cases hd2
          funext z; rw [← f1 z, ← f2 z]
        subst hm1
        rw [if_neg hne]; exact e1
      · exact .inr ⟨k1, c, e1, i1.sameBut sb (ns_ne_cell n i1)⟩
    · exact R.slot (.inl rfl) sb ⟨_, _, rfl⟩ ⟨o, ho, e1, e2⟩ ⟨o', ho', e3⟩ (fun _ _ => ⟨_, n'⟩) hnm ⟨_, n'⟩
        (fun y c e => let ⟨w, i⟩ := R.cells y c e; ⟨w, i.sameBut sb (ns_ne_cell n i)⟩) fun _ => vars
  · obtain ⟨hk, c, hc, hnew⟩ := R.ok.ownnew x ho
    obtain ⟨v0, i0⟩ := R.cells x c hc
    refine wpAny_storeName_cell R.ok.kindE (R.ok.kindOf hk) hc i0 fun h' i' sb => ?_
    obtain ⟨o, ho1, hd⟩ := id i0
    obtain ⟨o', ho', hd'⟩ := id i'
    have hcL := ns_ne_cell n i0
    have e1 : ∀ vs, o.data ≠ .fields vs := fun vs e => by rw [hd] at e; cases e
    have e2 : ∀ xs n, o.data ≠ .seq xs n := fun xs n e => by rw [hd] at e; cases e
    have e3 : ∀ vs, o'.data ≠ .fields vs := fun vs e => by rw [hd'] at e; cases e
    have ks : ∀ W, KS W s.heap h' := fun W => .sameBut sb fun o2 e so => by rw [ho1] at e; cases e; rcases so with ⟨xs, n, z⟩ | ⟨vs, z, _⟩; exact e2 xs n z; exact e1 vs z
    have sol : ∀ b o2, Solid o2 → s.heap.get? b = some o2 → h'.get? b = some o2 := fun b o2 so e => (sb.2 b fun q => by
      subst q; rw [ho1] at e; cases e
      rcases so with ⟨_, _, q⟩ | ⟨_, q, _⟩
      · exact e2 _ _ q
      · exact e1 _ q).trans e
    have liv : ∀ b o2, s.heap.get? b = some o2 → ∃ o3, h'.get? b = some o3 := fun b o2 e => by
      by_cases q : b = c
      · subst q; exact ⟨_, ho'⟩
      · exact ⟨o2, (sb.2 b q).trans e⟩
    refine k _ ⟨h', _, rfl⟩ ks sol liv (.inr ⟨.inl (R.ok.kindOf hk), c, hc, i'⟩) (fun y w hne q1 => ?_) ⟨c, .inr ⟨x, ho, hc⟩, sb⟩ fun rho' hnm vars => ?_
    · rcases q1 with ⟨k1, m1, n1, e1⟩ | ⟨k1, c', e1, i1⟩
      · exact .inl ⟨k1, m1, n1.sameBut sb (Ne.symm hcL), e1⟩
      · exact .inr ⟨k1, c', e1, i1.sameBut sb fun e => hne (name_of_addr R.ok.apart (mem_of_lookup e1) (e ▸ mem_of_lookup hc))⟩
    · refine R.slot (.inr ⟨x, ho, hc⟩) sb ⟨_, _, rfl⟩ ⟨o, ho1, e1, e2⟩ ⟨o', ho', e3⟩ (fun m1 n1 => absurd rfl (ns_ne_cell n1 i0)) hnm ⟨m, n.sameBut sb (Ne.symm hcL)⟩
        (fun y c' e => ?_) fun _ => vars
      by_cases hcc : c' = c
      · subst hcc; exact ⟨_, i'⟩
      · exact let ⟨w, i⟩ := R.cells y c' e; ⟨w, i.sameBut sb hcc⟩

theorem SegG.stored {env : Env} {W0 : List Addr} {h h' : Heap} {x : Str} (ks : KS W0 h h') (hh : ∀ y w, y ≠ x → Holds env h y w → Holds env h' y w) {g : Sg} {W : List Addr} (q : SegG env W0 h g W) (hn : x ∉ g.map (·.1)) : SegG env W0 h' g W := by
  induction q with
  | nil => exact .nil
  | no _ ih => exact .no (ih fun hm => hn (by simp only [List.map_cons, List.mem_cons]; exact .inr hm))
  | fz _ ih => exact .fz (ih fun hm => hn (by simp only [List.map_cons, List.mem_cons]; exact .inr hm))
  | ow a b _ ih =>
    simp only [List.map_cons, List.mem_cons, not_or] at hn
    exact .ow (hh _ _ (Ne.symm hn.1) a) (b.ks ks) (ih hn.2)
theorem SegG.put {env : Env} {W0 : List Addr} {h h' : Heap} {x : Str} {sl : Sl} (ks : KS W0 h h') (hh : ∀ y w, y ≠ x → Holds env h y w → Holds env h' y w) {g g' : Sg} (p : PutS g x sl g') : ∀ {W : List Addr}, SegG env W0 h g W → (g.map (·.1)).Nodup → W.Nodup →
    (match sl with
      | .ow d => ∀ v as, Holds env h' x v → Rd W0 h' v d as → as.Nodup → (∀ a ∈ as, a ∉ W) → ∃ W', SegG env W0 h' g' W' ∧ W'.Nodup ∧ ∀ a ∈ W', a ∈ as ∨ a ∈ W
      | _ => ∃ W', SegG env W0 h' g' W' ∧ W'.Nodup ∧ ∀ a ∈ W', a ∈ W) := by
  have none_ : ∀ {W : List Addr}, (∃ W', SegG env W0 h' g' W' ∧ W'.Nodup ∧ ∀ a ∈ W', a ∈ W) → ∃ W', SegG env W0 h' g' W' ∧ W'.Nodup ∧ ∀ a ∈ W', a ∈ W := fun q => q
  clear none_
  induction p with
  | @here x o d r =>
    intro W q hn nd
    simp only [List.map_cons, List.nodup_cons] at hn
    have tail : ∃ W', SegG env W0 h' r W' ∧ W'.Nodup ∧ ∀ a ∈ W', a ∈ W := by
      cases q with
      | no q => exact ⟨_, q.stored ks hh hn.1, nd, fun _ h => h⟩
      | fz q => exact ⟨_, q.stored ks hh hn.1, nd, fun _ h => h⟩
      | ow _ _ q => exact ⟨_, q.stored ks hh hn.1, (List.nodup_append.mp nd).2.1, fun _ h => List.mem_append_right _ h⟩
    obtain ⟨W', q', nd', sub⟩ := tail
    cases d with
    | no => exact ⟨W', .no q', nd', sub⟩
    | fz d => exact ⟨W', .fz q', nd', sub⟩
    | ow d =>
      intro v as hv hr hnd hnew
      refine ⟨as ++ W', .ow hv hr q', List.nodup_append.mpr ⟨hnd, nd', fun a ha b hb e => ?_⟩, fun a ha => ?_⟩
      · subst e; exact hnew a ha (sub a hb)
      · exact (List.mem_append.mp ha).imp id (sub a)
  | @there x y o d r r' p ih =>
    intro W q hn nd
    simp only [List.map_cons, List.nodup_cons] at hn
    have hyx : y ≠ x := fun e => hn.1 (e ▸ p.mem_name)
    cases q with
    | no q =>
      have := ih hh q hn.2 nd
      cases d with
      | no => exact let ⟨W', a, b, c⟩ := this; ⟨W', .no a, b, c⟩
      | fz d => exact let ⟨W', a, b, c⟩ := this; ⟨W', .no a, b, c⟩
      | ow d => exact fun v as h1 h2 h3 h4 => let ⟨W', a, b, c⟩ := this v as h1 h2 h3 h4; ⟨W', .no a, b, c⟩
    | fz q =>
      have := ih hh q hn.2 nd
      cases d with
      | no => exact let ⟨W', a, b, c⟩ := this; ⟨W', .fz a, b, c⟩
      | fz d => exact let ⟨W', a, b, c⟩ := this; ⟨W', .fz a, b, c⟩
      | ow d => exact fun v as h1 h2 h3 h4 => let ⟨W', a, b, c⟩ := this v as h1 h2 h3 h4; ⟨W', .fz a, b, c⟩
    | @ow _ _ v0 as0 _ W0' hv0 hr0 q =>
      obtain ⟨n1, n2, n3⟩ := List.nodup_append.mp nd
      have := ih hh q hn.2 n2
      have add : ∀ {P : Addr → Prop} {W' : List Addr}, SegG env W0 h' r' W' → W'.Nodup → (∀ a ∈ W', a ∉ as0) → SegG env W0 h' ((y, .ow _) :: r') (as0 ++ W') ∧ (as0 ++ W').Nodup := fun a b c =>
        ⟨.ow (hh _ _ hyx hv0) (hr0.ks ks) a, List.nodup_append.mpr ⟨n1, b, fun a ha b hb e => c b hb (e ▸ ha)⟩⟩
      cases d with
      | no =>
        obtain ⟨W', a, b, c⟩ := this
        obtain ⟨a1, a2⟩ := add (P := fun _ => True) a b fun z hz hz' => n3 z hz' z (c z hz) rfl
        exact ⟨_, a1, a2, fun z hz => (List.mem_append.mp hz).elim (List.mem_append_left _) fun hz => List.mem_append_right _ (c z hz)⟩
      | fz d =>
        obtain ⟨W', a, b, c⟩ := this
        obtain ⟨a1, a2⟩ := add (P := fun _ => True) a b fun z hz hz' => n3 z hz' z (c z hz) rfl
        exact ⟨_, a1, a2, fun z hz => (List.mem_append.mp hz).elim (List.mem_append_left _) fun hz => List.mem_append_right _ (c z hz)⟩
      | ow d =>
        intro v as h1 h2 h3 h4
        obtain ⟨W', a, b, c⟩ := this v as h1 h2 h3 fun z hz hz' => h4 z hz (List.mem_append_right _ hz')
        obtain ⟨a1, a2⟩ := add (P := fun _ => True) a b fun z hz hz' => (c z hz).elim (fun q => h4 z q (List.mem_append_left _ hz')) fun q => n3 z hz' z q rfl
        exact ⟨_, a1, a2, fun z hz => (List.mem_append.mp hz).elim (fun q => .inr (List.mem_append_left _ q)) fun hz => (c z hz).imp id fun q => List.mem_append_right _ q⟩

inductive Out
  | next (g : Sg)
  | cont (g : Sg)
  | brk (g : Sg)
  | ret (d : D) (fr : Bool)
def Meets (K : Fm) (W0 W1 : List Addr) : Out → Flow → Shared → Prop
  | .next g, .next, s => OR K W0 W1 g s
  | .cont g, .cont, s => OR K W0 W1 g s
  | .brk g, .brk, s => OR K W0 W1 g s
  | .ret d fr, .ret v, s => Got K W0 K.s0 d fr v s
  | _, _, _ => False
inductive Ends (K : Fm) (W0 W1 : List Addr) (s : Shared) (P : Out → Prop) (f : Flow) (s' : Shared) : Prop
  | mk (o : Out) (p : P o) (W1' : List Addr) (m : Meets K W0 W1' o f s') (fa : Fra W1 W1' s s') : Ends K W0 W1 s P f s'
def SX (K : Fm) (g : Sg) (body : List Stmt) (P : Out → Prop) : Prop :=
  ∀ W0 W1 s, OR K W0 W1 g s → ∀ E, wpAny K.M K.A (execs body K.env) (Ends K W0 W1 s P) E s
def Seq (K : Fm) (rest : List Stmt) (P : Out → Prop) : Out → Prop
  | .next g => SX K g rest P
  | o => P o

section
variable {K : Fm} {g g' : Sg} {rest body orelse : List Stmt} {P Q : Out → Prop} {pos pos' : Pos} {x : Str} {e : Expr} {d : D} {f b : Bool}
theorem SX.mono (h : SX K g body P) (k : ∀ o, P o → Q o) : SX K g body Q := fun W0 W1 s r E => wpAny_mono (h W0 W1 s r E) (fun f s' ⟨o, a, W1', b, c⟩ => ⟨o, k o a, W1', b, c⟩) fun _ _ q => q
theorem sx_nil (h : P (.next g)) : SX K g [] P := fun W0 W1 s r E => wpAny_execs_nil ⟨_, h, W1, r, .refl _ _⟩
theorem Ends.after {W0 W1 W2 : List Addr} {s s2 s' : Shared} {f : Flow} (x : Fra W1 W2 s s2) (h : Ends K W0 W2 s2 P f s') : Ends K W0 W1 s P f s' :=
  let ⟨o, a, W3, b, c⟩ := h; ⟨o, a, W3, b, x.trans c⟩
theorem sx_cons {st : Stmt} (h : ∀ W0 W1 s, OR K W0 W1 g s → ∀ E, wpAny K.M K.A (exec st K.env) (Ends K W0 W1 s (Seq K rest P)) E s) : SX K g (st :: rest) P := fun W0 W1 s r E =>
  wpAny_execs_cons (wpAny_mono (h W0 W1 s r E) (fun f s' ⟨o, a, W2, b, c⟩ => by
    cases f with
    | next => cases o <;> first | exact wpAny_mono (a W0 W2 s' b E) (fun _ _ q => q.after c) (fun _ _ q => q) | exact absurd b id
    | cont => cases o <;> first | exact ⟨_, a, W2, b, c⟩ | exact absurd b id
    | brk => cases o <;> first | exact ⟨_, a, W2, b, c⟩ | exact absurd b id
    | ret v => cases o <;> first | exact ⟨_, a, W2, b, c⟩ | exact absurd b id) fun _ _ q => q)
theorem sx_if (t : TS K (fullOf g) e b) (h1 : b = true → SX K g body (Seq K rest P)) (h2 : b = false → SX K g orelse (Seq K rest P)) : SX K g (.If e body orelse pos :: rest) P := sx_cons fun W0 W1 s r E =>
  wpAny_If (wpAny_mono (t W0 s r.full E) (fun b' s' q => by
    obtain ⟨st, rfl⟩ := q
    cases b' with
    | true => exact wpAny_mono (h1 rfl W0 W1 s' (r.step st) E) (fun _ _ q => q.after (.of_step st)) fun _ _ q => q
    | false => exact wpAny_mono (h2 rfl W0 W1 s' (r.step st) E) (fun _ _ q => q.after (.of_step st)) fun _ _ q => q) fun _ _ q => q)
theorem Got.from0 {W0 W1 : List Addr} {s s' : Shared} {v : Value} (r : OR K W0 W1 g s) (h : Got K W0 s d f v s') : Got K W0 K.s0 d f v s' := by
  obtain ⟨R, _⟩ := r
  obtain ⟨st, as, q1, q2⟩ := h
  have R' := R.step st
  exact ⟨⟨R'.same, R'.kept⟩, as, q1, fun e => ⟨(q2 e).1, fun a ha => R.kept.fresh ((q2 e).2 a ha)⟩⟩
theorem Fra.drop {W1 W1' : List Addr} {s s' : Shared} (x : Fra W1 W1' s s') : Fra W1 [] s s' := ⟨x.keep, x.live, fun a h => nomatch h⟩
theorem sx_return (h : EV K (fullOf g) e d f) (k : P (.ret d f)) : SX K g (.Return (some e) pos :: rest) P := sx_cons fun W0 W1 s r E =>
  wpAny_Return_some (wpAny_mono (h W0 s r.full E) (fun v s' q => ⟨.ret d f, k, W1, q.from0 r, .of_step q.st⟩) fun _ _ q => q)
theorem SegG.get2 {env : Env} {W0 : List Addr} {h : Heap} {g : Sg} {W : List Addr} (q : SegG env W0 h g W) {x : Str} {d : D} (hm : (x, Sl.ow d) ∈ g) (nd : W.Nodup) : ∃ v as, Holds env h x v ∧ Rd W0 h v d as ∧ as.Nodup ∧ ∀ a ∈ as, a ∈ W := by
  induction q with
  | nil => cases hm
  | no _ ih => rcases List.mem_cons.mp hm with e | hm; · cases e
               · exact ih hm nd
  | fz _ ih => rcases List.mem_cons.mp hm with e | hm; · cases e
               · exact ih hm nd
  | @ow y d' v as g W a b _ ih =>
    rcases List.mem_cons.mp hm with e | hm
    · cases e; exact ⟨v, as, a, b, (List.nodup_append.mp nd).1, fun a ha => List.mem_append_left _ ha⟩
    · exact let ⟨v, bs, q1, q2, q3, q4⟩ := ih hm (List.nodup_append.mp nd).2.1; ⟨v, bs, q1, q2, q3, fun a ha => List.mem_append_right _ (q4 a ha)⟩
theorem sx_return_own (hm : (x, Sl.ow d) ∈ g) (k : P (.ret d true)) : SX K g (.Return (some (.Name x pos')) pos :: rest) P := sx_cons fun W0 W1 s r E => by
  have R0 := r.full
  obtain ⟨R, sg, nd, nw⟩ := r
  obtain ⟨v, as, q1, q2, q3, q4⟩ := sg.get2 hm nd
  have hn := R0.plain x (List.mem_map.mpr ⟨_, mem_full.mpr (.inr hm), rfl⟩)
  simp only [plainName, Bool.and_eq_true, Bool.not_eq_true'] at hn
  exact wpAny_Return_some (wpAny_Name (load_holds R.ok.kindE q1 ⟨.ret d true, k, W1, ⟨⟨R.same, R.kept⟩, as, q2, fun _ => ⟨q3, fun a ha => nw a (q4 a ha)⟩⟩, .refl _ _⟩ hn.1) hn.2)

def noComp : Expr → Bool
  | .ListComp .. => false
  | .SetComp .. => false
  | .DictComp .. => false
  | _ => true
theorem swaps_no {t : Option Expr} {n : Nat} {env : Env} (h : noComp e = true) : swapsWith e t n env = pure false := by
  cases e <;> first | rfl | cases h

theorem OR.nodup {W0 W1 : List Addr} {s : Shared} (r : OR K W0 W1 g s) : (g.map (·.1)).Nodup := by
  obtain ⟨R, _⟩ := r
  have := R.nodup
  rwa [froz_names] at this
theorem store_sg {W0 W1 : List Addr} {s : Shared} {v : Value} {sl : Sl} {Q : Unit → Shared → Prop} {E : Value → Shared → Prop} (R : Rel K (frozOf g) (W0 ++ W1) s) (sg : SegG K.env W0 s.heap g W1) (nd : W1.Nodup) (nw : ∀ a ∈ W1, K.s0.heap.get? a = none)
    (p : PutS g x sl g') (hs : Storable K x) (as : List Addr)
    (hv : match sl with
      | .no => True
      | .fz d => Rd (W0 ++ W1) s.heap v d as
      | .ow d => Rd W0 s.heap v d as ∧ as.Nodup ∧ (∀ a ∈ as, K.s0.heap.get? a = none) ∧ (∀ a ∈ as, a ∉ W1) ∧ Rel K (frozOf g) ((W0 ++ W1) ++ as) s)
    (k : ∀ s' W1', OR K W0 W1' g' s' → (∀ b o, Solid o → s.heap.get? b = some o → s'.heap.get? b = some o) → (∀ b o, s.heap.get? b = some o → ∃ o', s'.heap.get? b = some o') →
      (∀ a ∈ W1', a ∈ W1 ∨ (a ∈ as ∧ ∃ d, sl = .ow d)) → (∃ a, Slot K a ∧ Heap.SameBut a s.heap s'.heap) → Q () s') : wpAny K.M K.A (storeName K.env x v) Q E s := by
  have hnd := OR.nodup ⟨R, sg, nd, nw⟩
  refine store_core R hs fun s' same ks sol liv hx hy but mk => ?_
  suffices fin : ∃ W1', OR K W0 W1' g' s' ∧ ∀ a ∈ W1', a ∈ W1 ∨ (a ∈ as ∧ ∃ d, sl = .ow d) by
    obtain ⟨W1', r', n'⟩ := fin
    exact k s' W1' r' sol liv n' but
  have hnm : (frozOf g').map (·.1) = (frozOf g).map (·.1) := by rw [froz_names, froz_names, p.names]
  have hput : ∀ {y : Str} {sl' : Sl}, (y, sl') ∈ g' → (y = x ∧ sl' = sl) ∨ (y ≠ x ∧ (y, sl') ∈ g) := by
    intro y sl' hm
    clear hv mk hnm sg R k ks hx hy sol liv but
    induction p with
    | @here x o d r =>
      simp only [List.map_cons, List.nodup_cons] at hnd
      rcases List.mem_cons.mp hm with e | hm
      · cases e; exact .inl ⟨rfl, rfl⟩
      · exact .inr ⟨fun e => hnd.1 (e ▸ List.mem_map.mpr ⟨_, hm, rfl⟩), .tail _ hm⟩
    | @there x z o d r r' p ih =>
      simp only [List.map_cons, List.nodup_cons] at hnd
      rcases List.mem_cons.mp hm with e | hm
      · cases e; exact .inr ⟨fun e => hnd.1 (e ▸ p.mem_name), .head _⟩
      · rcases ih hs hnd.2 hm with q | ⟨q1, q2⟩
        · exact .inl q
        · exact .inr ⟨q1, .tail _ q2⟩
  have hl : ∀ a ∈ W1, ∃ vs n, s.heap.get? a = some (listO vs n) := fun a ha => (sg.lists a ha).2
  have old : ∀ y d', y ≠ x → (y, Sl.fz d') ∈ g → ∃ v as, Holds K.env s'.heap y v ∧ Rd (W0 ++ W1) s'.heap v d' as := fun y d' hne hm => by
    obtain ⟨w, bs, q1, q2⟩ := R.vars y d' (mem_froz.mpr hm)
    exact ⟨w, bs, hy y w hne q1, q2.ks (ks _)⟩
  cases sl with
  | no =>
    obtain ⟨W', a1, a2, a3⟩ := SegG.put (sl := .no) (ks W0) hy p sg hnd nd
    have R' := mk (frozOf g') hnm fun y d' hm => by
      rcases hput (mem_froz.mp hm) with ⟨_, e⟩ | ⟨hne, hm⟩
      · cases e
      · exact old y d' hne hm
    exact ⟨W', ⟨R'.sub fun a ha => (List.mem_append.mp ha).elim (List.mem_append_left _) fun h => List.mem_append_right _ (a3 a h), a1, a2, fun a ha => nw a (a3 a ha)⟩, fun a ha => .inl (a3 a ha)⟩
  | fz d =>
    obtain ⟨W', a1, a2, a3⟩ := SegG.put (sl := .fz d) (ks W0) hy p sg hnd nd
    have R' := mk (frozOf g') hnm fun y d' hm => by
      rcases hput (mem_froz.mp hm) with ⟨rfl, e⟩ | ⟨hne, hm⟩
      · cases e; exact ⟨v, as, hx, hv.ks (ks _)⟩
      · exact old y d' hne hm
    exact ⟨W', ⟨R'.sub fun a ha => (List.mem_append.mp ha).elim (List.mem_append_left _) fun h => List.mem_append_right _ (a3 a h), a1, a2, fun a ha => nw a (a3 a ha)⟩, fun a ha => .inl (a3 a ha)⟩
  | ow d =>
    obtain ⟨h1, h2, h3, h5, h6⟩ := hv
    obtain ⟨W', a1, a2, a3⟩ := SegG.put (sl := .ow d) (ks W0) hy p sg hnd nd v as hx (h1.ks (ks W0)) h2 h5
    have R' := mk (frozOf g') hnm fun y d' hm => by
      rcases hput (mem_froz.mp hm) with ⟨_, e⟩ | ⟨hne, hm⟩
      · cases e
      · exact old y d' hne hm
    refine ⟨W', ⟨{ R' with off := fun a ha => ?_, vars := fun y d' hm => ?_ }, a1, a2, fun a ha => (a3 a ha).elim (h3 a) (nw a)⟩, fun a ha => (a3 a ha).elim (fun q => .inr ⟨q, d, rfl⟩) .inl⟩
    · rcases List.mem_append.mp ha with ha | ha
      · exact R'.off a (List.mem_append_left _ ha)
      · exact let ⟨_, vs, n, e⟩ := a1.lists a ha; ⟨_, e⟩
    · rcases hput (mem_froz.mp hm) with ⟨_, e⟩ | ⟨hne, hm⟩
      · cases e
      · obtain ⟨w, bs, q1, q2⟩ := h6.vars y d' (mem_froz.mpr hm)
        refine ⟨w, bs, hy y w hne q1, (q2.ks (ks _)).sub fun a ha => ?_⟩
        rcases List.mem_append.mp ha with ha | ha
        · exact List.mem_append_left _ (List.mem_append_left _ ha)
        · exact (a3 a ha).elim (List.mem_append_right _) fun q => List.mem_append_left _ (List.mem_append_right _ q)

theorem exec_name {W0 : List Addr} {s : Shared} {E : Value → Shared → Prop} {Q : Flow → Shared → Prop} (hc : noComp e = true)
    (h : wpAny K.M K.A (eval e K.env) (fun v s1 => wpAny K.M K.A (storeName K.env x v) (fun _ s2 => Q .next s2) E s1) E s) : wpAny K.M K.A (exec (.Assign [.Name x pos'] e pos) K.env) Q E s := by
  rw [exec_Assign_Name _ _ _ _ _ (swaps_no hc)]
  refine wpAny_bind (wpAny_standAt (wpAny_bind (wpAny_mono h (fun v s1 h1 => wpAny_bind (wpAny_standAt (wpAny_bind (wpAny_bindName ?_)))) fun _ _ q => q)))
  exact wpAny_mono h1 (fun _ s2 h2 => wpAny_pure h2) fun _ _ q => q

theorem Fra.store {fr W1 W1' as : List Addr} {s s1 s2 : Shared} {P : Prop} (st : Step fr s s1) (sol : ∀ b o, Solid o → s1.heap.get? b = some o → s2.heap.get? b = some o) (liv : ∀ b o, s1.heap.get? b = some o → ∃ o', s2.heap.get? b = some o')
    (n : ∀ a ∈ W1', a ∈ W1 ∨ (a ∈ as ∧ P)) (new : P → ∀ a ∈ as, s.heap.get? a = none) : Fra W1 W1' s s2 where
  keep := fun b o _ so e => sol b o so (st.kf.solid so e)
  live := fun b o e => let ⟨o', e'⟩ := st.kf.live e; liv b o' e'
  new := fun a ha => (n a ha).imp id fun q => new q.2 a q.1
theorem sx_assign (h : EV K (fullOf g) e d true) (p : PutS g x (.fz d) g') (hs : Storable K x) (hc : noComp e = true) (k : SX K g' rest P) : SX K g (.Assign [.Name x pos'] e pos :: rest) P := sx_cons fun W0 W1 s r E => by
  refine exec_name (W0 := W0) hc (wpAny_mono (h W0 s r.full E) (fun v s1 q => ?_) fun _ _ q => q)
  obtain ⟨st, as, q1, q2⟩ := q
  obtain ⟨R, sg, nd, nw⟩ := r
  have sg1 := sg.step st.kf
  refine store_sg (R.step st) sg1 nd nw p hs as (q1.widen (fun a ha => (sg1.lists a ha).2) fun a ha hm => ?_) fun s2 W2 r2 sol liv n2 _ => ⟨.next g', k, W2, r2, .store st sol liv n2 fun q => nomatch q⟩
  obtain ⟨_, _, _, e⟩ := sg.lists a hm
  rw [(q2 rfl).2 a ha] at e; cases e
theorem sx_assign_alias (h : EV K (frozOf g) e d f) (p : PutS g x (.fz d) g') (hs : Storable K x) (hc : noComp e = true) (k : SX K g' rest P) : SX K g (.Assign [.Name x pos'] e pos :: rest) P := sx_cons fun W0 W1 s r E => by
  obtain ⟨R, sg, nd, nw⟩ := r
  refine exec_name (W0 := W0) hc (wpAny_mono (h (W0 ++ W1) s R E) (fun v s1 q => ?_) fun _ _ q => q)
  obtain ⟨st, as, q1, q2⟩ := q
  exact store_sg (R.step st) (sg.step st.kf) nd nw p hs as q1 fun s2 W2 r2 sol liv n2 _ => ⟨.next g', k, W2, r2, .store st sol liv n2 fun q => nomatch q⟩
theorem sx_assign_own (h : EV K (fullOf g) e d true) (p : PutS g x (.ow d) g') (hs : Storable K x) (hc : noComp e = true) (k : SX K g' rest P) : SX K g (.Assign [.Name x pos'] e pos :: rest) P := sx_cons fun W0 W1 s r E => by
  refine exec_name (W0 := W0) hc (wpAny_mono (h W0 s r.full E) (fun v s1 q => ?_) fun _ _ q => q)
  obtain ⟨st, as, q1, q2⟩ := q
  obtain ⟨q2, q3⟩ := q2 rfl
  obtain ⟨R, sg, nd, nw⟩ := r
  have sg1 := sg.step st.kf
  refine store_sg (R.step st) sg1 nd nw p hs as ⟨q1, q2, fun a ha => R.kept.fresh (q3 a ha), fun a ha hm => ?_, R.ext st q3 fun a ha => let ⟨_, vs, n, e⟩ := q1.there a ha; ⟨_, e⟩⟩ fun s2 W2 r2 sol liv n2 _ => ⟨.next g', k, W2, r2, .store st sol liv n2 fun _ => q3⟩
  obtain ⟨_, _, _, e⟩ := sg.lists a hm
  rw [q3 a ha] at e; cases e

end
end Mine
end

section
set_option autoImplicit false
namespace Mine
open PySem

def frs (envs : List Env) : List Addr := envs.filterMap (·.frame)
structure Site (G : Gx) (A : Around) (envs : List Env) (n : Nat) (s : Shared) : Prop where
  frames : A.frames = some envs
  depth : A.depth + n ≤ 800
  units : A.units + 16 * n ≤ 9000
  ff : s.heap.FunFrames G.base envs
  fdict : ∀ b ∈ frs envs, ∃ m, s.heap.Ns b m
  stays : G.base.StaysIn s.heap
  tabs : TabsSt s.heap
def Calls (G : Gx) (n : Nat) (x : Str) (ds : List D) (d : D) (fr : Bool) : Prop :=
  ∃ a o fd, G.mg x = some (.ref a) ∧ G.base.get? a = some o ∧ o.data = .func fd ∧ ∀ A envs W s vs as E, Site G A envs n s → A.handled = none → (∀ b ∈ W, ∃ o, s.heap.get? b = some o) → RdAll W s.heap vs ds as →
    wpAny G.M A (call (.ref a) vs) (fun v s' => Step (frs envs) s s' ∧ ∃ bs, Rd W s'.heap v d bs ∧ (fr = true → bs.Nodup ∧ ∀ a ∈ bs, s.heap.get? a = none)) E s

def CallsH (G : Gx) (n : Nat) (x : Str) (ds : List D) (d : D) (fr : Bool) : Prop :=
  ∃ a o fd, G.mg x = some (.ref a) ∧ G.base.get? a = some o ∧ o.data = .func fd ∧ ∀ A envs W s vs as E, Site G A envs n s → (∀ b ∈ W, ∃ o, s.heap.get? b = some o) → RdAll W s.heap vs ds as →
    wpAny G.M A (call (.ref a) vs) (fun v s' => Step (frs envs) s s' ∧ ∃ bs, Rd W s'.heap v d bs ∧ (fr = true → bs.Nodup ∧ ∀ a ∈ bs, s.heap.get? a = none)) E s

theorem Calls.more {G : Gx} {n m : Nat} {x : Str} {ds : List D} {d : D} {fr : Bool} (h : Calls G n x ds d fr) (hm : n ≤ m) : Calls G m x ds d fr := by
  obtain ⟨a, o, fd, h1, h2, h3, h4⟩ := h
  exact ⟨a, o, fd, h1, h2, h3, fun A envs W s vs as E st => h4 A envs W s vs as E { st with depth := by have := st.depth; lia, units := by have := st.units; lia }⟩

theorem Rel.site {K : Fm} {rho : List (Str × Option D)} {W : List Addr} {s : Shared} (R : Rel K rho W s) {n : Nat} (hn : n ≤ K.room) : Site K.G K.A K.envs n s :=
  ⟨R.ok.frames, by have := R.ok.depth; lia, by have := R.ok.units; lia, R.frames, R.fdict, R.stays, R.tabs⟩

theorem callWith_def {M : Model} {A : Around} {E : Value → Shared → Prop} {s : Shared} {env : Env} {pos : Pos} {a : Addr} {o : Obj} {fd : FuncData} {e : Expr} {es : List Expr} {Q : Value → Shared → Prop} (hn : noStar e = true) (hd : o.data = .func fd)
    (h : wpAny M A (spliced (backTo pos (starEach (e :: es) env))) (fun vs s₁ => s₁.heap.get? a = some o ∧ wpAny M A (call (.ref a) vs) Q E s₁) E s) :
    wpAny M A (callWith pos (.ref a) [] (backTo pos (starEach (e :: es) env)) []) Q E s := by
  refine Calls.callWith_function (o := o) (fd := fd) ?_
  rw [starEach_cons hn] at h ⊢
  exact Calls.evalArgs_plain (wpAny_mono h (fun vs s₁ q => ⟨⟨q.1, hd⟩, q.2⟩) fun _ _ q => q)

def gnameOk (x : Str) : Bool := !(x == ("__debug__" : Str))
theorem ev_call {K : Fm} {rho : List (Str × Option D)} {x : Str} {np pos : Pos} {e : Expr} {es : List Expr} {ds : List D} {d : D} {f fr : Bool} {n : Nat} (hh : K.A.handled = none) (hx : K.sc.names.lookup x = some .globalImplicit) (hxd : gnameOk x = true)
    (h : EVs K rho (e :: es) ds f) (hn : noStar e = true) (c : Calls K.G n x ds d fr) (hr : n ≤ K.room) : EV K rho (.Call (.Name x np) (e :: es) [] pos) d fr := fun W s R E => by
  obtain ⟨a, o, fd, h1, h2, h3, h4⟩ := c
  rw [eval_Call_plain rfl]
  refine wpAny_bind (Calls.Name_function_global R.ok.kindE (R.ok.kindOf hx) ?_ (by simpa [gnameOk] using hxd))
  refine Calls.loadGlobal_global (mg := K.G.mg) (by rw [R.ok.globals]; exact R.ok.gl.g.keeps R.stays) h1 ?_
  refine callWith_def hn h3 (wpAny_mono (h W s pos R E) (fun vs s1 g => ?_) fun _ _ x => x)
  obtain ⟨st, as, q1, q3⟩ := g
  have R1 := R.step st
  refine ⟨R1.stays _ _ h2, wpAny_mono (h4 K.A K.envs W s1 vs as E (R1.site hr) hh R1.off q1) (fun v s2 g2 => ?_) fun _ _ x => x⟩
  obtain ⟨st2, bs, r1, r3⟩ := g2
  exact ⟨st.trans st2, bs, r1, fun e => ⟨(r3 e).1, fun b hb' => st.kf.fresh ((r3 e).2 b hb')⟩⟩

theorem bindL_off {k : Str → Option NameKind} {x : Str} : ∀ {b : List (Str × Value)} {m : Str → Option Value}, x ∉ b.map (·.1) → bindL k b m x = m x
  | [], _, _ => rfl
  | (n, v) :: r, m, h => by
    simp only [List.map_cons, List.mem_cons, not_or] at h
    unfold bindL
    rw [bindL_off h.2]
    split
    · exact if_neg h.1
    · rfl
theorem bindC_off {k : Str → Option NameKind} {x : Str} : ∀ {b : List (Str × Value)} {m : Str → Option Value}, x ∉ b.map (·.1) → bindC k b m x = m x
  | [], _, _ => rfl
  | (n, v) :: r, m, h => by
    simp only [List.map_cons, List.mem_cons, not_or] at h
    unfold bindC
    rw [bindC_off h.2]
    split
    · rfl
    · exact if_neg h.1
theorem bindL_at {k : Str → Option NameKind} {x : Str} {v : Value} : ∀ {b : List (Str × Value)} {m : Str → Option Value}, (b.map (·.1)).Nodup → (x, v) ∈ b → k x = some .local → bindL k b m x = some v
  | (n, w) :: r, m, hn, hm, hk => by
    simp only [List.map_cons, List.nodup_cons] at hn
    unfold bindL
    rcases List.mem_cons.mp hm with e | hm
    · cases e
      rw [bindL_off hn.1, if_pos hk]
      exact if_pos rfl
    · exact bindL_at hn.2 hm hk
theorem bindC_at {k : Str → Option NameKind} {x : Str} {v : Value} : ∀ {b : List (Str × Value)} {m : Str → Option Value}, (b.map (·.1)).Nodup → (x, v) ∈ b → k x ≠ some .local → bindC k b m x = some v
  | (n, w) :: r, m, hn, hm, hk => by
    simp only [List.map_cons, List.nodup_cons] at hn
    unfold bindC
    rcases List.mem_cons.mp hm with e | hm
    · cases e
      rw [bindC_off hn.1, if_neg hk]
      exact if_pos rfl
    · exact bindC_at hn.2 hm hk
theorem cells_some {x : Str} : ∀ (names : List (Str × NameKind)) (n : Nat) (acc : List (Str × Addr)), names.lookup x = some .cell ∨ (acc.lookup x).isSome = true → ((cellsFrom n names acc).lookup x).isSome = true
  | [], _, _, h => h.elim (fun e => by cases e) id
  | (y, k) :: r, n, acc, h => by
    unfold cellsFrom
    by_cases hk : (k == .cell) = true
    · rw [if_pos hk]
      refine cells_some r (n + 1) ((y, n) :: acc) ?_
      by_cases hy : (x == y) = true
      · exact .inr (by rw [List.lookup_cons, hy]; rfl)
      · refine h.imp (fun e => ?_) fun e => ?_
        · rw [List.lookup_cons] at e; simpa only [hy] using e
        · rw [List.lookup_cons]; simpa only [hy] using e
    · rw [if_neg hk]
      refine cells_some r n acc ?_
      by_cases hy : (x == y) = true
      · refine .inr (h.elim (fun e => ?_) id)
        rw [List.lookup_cons, hy] at e
        exact absurd (by rw [Option.some.inj e]; rfl) hk
      · refine h.imp (fun e => ?_) id
        rw [List.lookup_cons] at e; simpa only [hy] using e

def gStart (ps : List Str) (ds : List D) (rest : List Str) : Sg := (ps.zip ds).map (fun p => (p.1, Sl.fz p.2)) ++ rest.map fun x => (x, Sl.no)
theorem gStart_names {ps : List Str} {ds : List D} {rest : List Str} (h : ps.length = ds.length) : (gStart ps ds rest).map (·.1) = ps ++ rest := by
  simp only [gStart, List.map_append, List.map_map, Function.comp_def, List.map_id']
  rw [show (fun (x : Str × D) => x.1) = Prod.fst from rfl, List.map_fst_zip (by lia)]
theorem seg_rest {env : Env} {W0 : List Addr} {h : Heap} {rest : List Str} : SegG env W0 h (rest.map fun x => (x, Sl.no)) [] := by
  induction rest with
  | nil => exact .nil
  | cons x r ih => exact .no ih
theorem seg_fz {env : Env} {W0 : List Addr} {h : Heap} {g : Sg} (q : SegG env W0 h g []) : ∀ {l : List (Str × D)}, SegG env W0 h (l.map (fun p => (p.1, Sl.fz p.2)) ++ g) []
  | [] => q
  | _ :: _ => .fz (seg_fz q)
theorem seg_start {env : Env} {W0 : List Addr} {h : Heap} {ps : List Str} {ds : List D} {rest : List Str} : SegG env W0 h (gStart ps ds rest) [] := seg_fz seg_rest
theorem mem_zip_get {ps : List Str} : ∀ {ds : List D} {x : Str} {d : D}, (x, d) ∈ ps.zip ds → ∃ i : Nat, ps[i]? = some x ∧ ds[i]? = some d := by
  induction ps with
  | nil => intro ds x d h; simp at h
  | cons p ps ih =>
    intro ds x d h
    cases ds with
    | nil => simp at h
    | cons e ds =>
      rcases List.mem_cons.mp h with q | q
      · cases q; exact ⟨0, rfl, rfl⟩
      · exact let ⟨i, a, b⟩ := ih q; ⟨i + 1, a, b⟩
theorem get_mem_zip {ps : List Str} : ∀ {vs : List Value} {i : Nat} {x : Str} {v : Value}, ps[i]? = some x → vs[i]? = some v → (x, v) ∈ ps.zip vs := by
  induction ps with
  | nil => intro vs i x v h; simp at h
  | cons p ps ih =>
    intro vs i x v h1 h2
    cases vs with
    | nil => simp at h2
    | cons w vs =>
      cases i with
      | zero => cases h1; cases h2; exact .head _
      | succ i => exact .tail _ (ih h1 h2)
def Rets (d : D) (fr : Bool) : Out → Prop
  | .ret d' f' => d' = d ∧ (fr = true → f' = true)
  | .next _ => d = .none
  | _ => False

def callFm (G : Gx) (A : Around) (envs : List Env) (s : Shared) (n : Nat) (fd : FuncData) (a : Addr) (own : List Str) : Fm :=
  { G := G, A := A.deeper (callEnvC fd s.heap.objs.size a), env := callEnvC fd s.heap.objs.size a, envs := callEnvC fd s.heap.objs.size a :: envs, s0 := s, room := n, sc := fd.scope, own := own }

structure DefOk (sc : Scope) (ps rest own : List Str) : Prop where
  kind : sc.kind = .function
  co : sc.isCoroutine = false
  gen : sc.isGenerator = false
  nodup : (ps ++ rest).Nodup
  plain : ∀ x ∈ ps ++ rest, plainName x = true
  stor : ∀ x ∈ ps, sc.names.lookup x = some .local ∨ sc.names.lookup x = some .cell
  own : ∀ x ∈ own, sc.names.lookup x = some .cell
  nofree : ∀ x, sc.names.lookup x ≠ some .free

def defOkB (sc : Scope) (ps rest own : List Str) : Bool :=
  (match sc.kind with | .function => true | _ => false) && !sc.isCoroutine && !sc.isGenerator && decide (ps ++ rest).Nodup && (ps ++ rest).all plainName &&
    ps.all (fun x => sc.names.lookup x == some .local || sc.names.lookup x == some .cell) && own.all (fun x => sc.names.lookup x == some .cell) && sc.names.all (fun p => !(p.2 == .free))
theorem defOk_of {sc : Scope} {ps rest own : List Str} (h : defOkB sc ps rest own = true) : DefOk sc ps rest own := by
  simp only [defOkB, Bool.and_eq_true, Bool.not_eq_true', List.all_eq_true, decide_eq_true_eq, Bool.or_eq_true, beq_iff_eq] at h
  obtain ⟨⟨⟨⟨⟨⟨⟨h1, h2⟩, h3⟩, h4⟩, h5⟩, h6⟩, h7⟩, h8⟩ := h
  refine ⟨?_, h2, h3, h4, h5, h6, h7, fun x e => ?_⟩
  · revert h1
    cases sc.kind <;> simp
  · have := h8 _ (mem_of_lookup e)
    simp at this

theorem enter {G : Gx} (gk : G.Ok) {x : Str} {params : Arguments} {body : List Stmt} {sc : Scope} {ps rest own : List Str} {ds : List D} {n : Nat} {a : Addr} {o : Obj} {pm code doc : Value}
    (h2 : G.base.get? a = some o) (h3 : o.data = .func (Calls.docDef x params body sc pm code doc)) (h4 : G.base.CodeRec code x)
    (ok : DefOk sc ps rest own) (hl : ps.length = ds.length)
    (hb : ∀ vals : List Value, vals.length = ps.length → ∀ pm code doc, bindArgs (Calls.docDef x params body sc pm code doc) ⟨vals, []⟩ = pure (ps.zip vals))
    {A : Around} {envs : List Env} {W : List Addr} {s : Shared} {vs : List Value} {as : List Addr} {Q E : Value → Shared → Prop} (st : Site G A envs (n + 1) s) (off : ∀ b ∈ W, ∃ o, s.heap.get? b = some o) (rd : RdAll W s.heap vs ds as)
    (h : ∀ (K : Fm) s₁, K.G = G → K.sc = sc → K.own = own → K.room = n → K.A.handled = A.handled → K.s0 = s → K.fr = K.env.locals :: frs envs → K.envs = K.env :: envs → K.env.frame = some K.env.locals → K.env.code = code ∧ K.env.qual = x ++ ".<locals>." → OR K W [] (gStart ps ds rest) s₁ →
      wpAny K.M K.A (execs body K.env) (fun f s' => Q (match f with | .ret v => v | _ => .none) s') (fun e s' => wpAny K.M K.A (leaving K.env e) (fun _ s'' => E e s'') (fun e' s'' => E e' s'') s') s₁) : wpAny G.M A (call (.ref a) vs) Q E s := by
  generalize hfd : Calls.docDef x params body sc pm code doc = fd at h3
  have hlen : vs.length = ps.length := by rw [rd.length, hl]
  have esc : fd.scope = sc := by rw [← hfd]; rfl
  have kinds : ∀ y ∈ ps.zip vs, fd.scope.names.lookup y.1 = some .local ∨ (fd.scope.names.lookup y.1 = some .cell ∧ ((cellsFrom (s.heap.objs.size + 1) fd.scope.names []).lookup y.1).isSome = true) := fun y hy => by
    rw [esc]
    have hp : y.1 ∈ ps := (List.of_mem_zip hy).1
    rcases ok.stor y.1 hp with q | q
    · exact .inl q
    · exact .inr ⟨q, cells_some _ _ _ (.inl q)⟩
  refine wpAny_call (codeAny_call_cells (o := o) (fd := fd) (body := body) (binds := ps.zip vs) (by have := st.depth; show A.depth < 1000; lia) (st.stays _ _ h2) h3 (gk.nolimit.keeps st.stays)
    (by rw [← hfd]; exact h4.keeps st.stays) (by rw [← hfd]; rfl) (by rw [← hfd]; exact hb vs hlen pm code doc) (by rw [← hfd]; rfl) kinds (fun s₁ ic => ?_) (by rw [esc]; exact ok.co) (by rw [esc]; exact ok.gen) (by rw [esc]; exact ok.kind))
  generalize hK : callFm G A envs s n fd a own = K
  have eA : K.A = A.deeper (callEnvC fd s.heap.objs.size a) := by rw [← hK]; rfl
  have eE : K.env = callEnvC fd s.heap.objs.size a := by rw [← hK]; rfl
  have eV : K.envs = callEnvC fd s.heap.objs.size a :: envs := by rw [← hK]; rfl
  have eG : K.G = G := by rw [← hK]; rfl
  have eS : K.sc = sc := by rw [← hK]; exact esc
  have eO : K.own = own := by rw [← hK]; rfl
  have e0 : K.s0 = s := by rw [← hK]; rfl
  have eR : K.room = n := by rw [← hK]; rfl
  rw [← eE] at ic
  rw [← eA, ← eE]
  have keep := ic.toInCall.keep
  have eL : K.env.locals = s.heap.objs.size := by rw [eE]; rfl
  have eF : K.env.frame = some s.heap.objs.size := by rw [eE]; rfl
  have eC : K.env.cells = cellsFrom (s.heap.objs.size + 1) sc.names [] := by rw [eE, ← esc]; rfl
  have eK : K.env.scope = sc := by rw [eE, ← esc]; rfl
  have kok : K.Ok := {
    scope := by rw [eK, eS]
    kind := by rw [eS]; exact ok.kind
    globals := by rw [eE, ← hfd]; rfl
    builtins := by rw [eE, ← hfd]; rfl
    frames := by rw [eA, eV]; exact Around.frames_deeper st.frames
    apart := ic.apart
    base0 := by rw [eG, e0]; exact st.stays
    tabs0 := by rw [e0]; exact st.tabs
    locnew := by rw [e0, eL]; exact get?_size _
    ownnew := fun y hy => by
      rw [eO] at hy
      rw [eS, e0]
      refine ⟨ok.own y hy, ?_⟩
      obtain ⟨c, hc⟩ := Option.isSome_iff_exists.mp (cells_some sc.names (s.heap.objs.size + 1) [] (.inl (ok.own y hy)))
      rw [eC]
      refine ⟨c, hc, ?_⟩
      have := ic.above y c (by rw [eC]; exact mem_of_lookup hc)
      rw [eL] at this
      exact Heap.get?_none_of_le (Nat.le_of_lt this)
    hascell := fun y hy => by
      rw [eS] at hy
      rw [eC]
      exact Option.isSome_iff_exists.mp (cells_some sc.names (s.heap.objs.size + 1) [] (.inl (hy.elim id fun q => absurd q (ok.nofree y))))
    gl := by rw [eG]; exact gk
    depth := by rw [eA, eR]; show A.depth + 1 + n ≤ 800; have := st.depth; lia
    units := by rw [eA, eR]; show A.units + 3 + 16 * n ≤ 9000; have := st.units; lia }
  have ns := ic.toInCall.ns
  have keepB : G.base.StaysIn s₁.heap := fun b o e => keep b o (st.stays b o e)
  have hrd : ∀ y d', (y, some d') ∈ frozOf (gStart ps ds rest) → ∃ v as, Holds K.env s₁.heap y v ∧ Rd W s₁.heap v d' as := fun y d' hm => by
    have hm' : (y, d') ∈ ps.zip ds := by
      have := mem_froz.mp hm
      rcases List.mem_append.mp this with q | q
      · obtain ⟨p, hp, e⟩ := List.mem_map.mp q
        cases e; exact hp
      · obtain ⟨p, hp, e⟩ := List.mem_map.mp q
        cases e
    obtain ⟨i, i1, i2⟩ := mem_zip_get hm'
    obtain ⟨v, bs, v1, v2, _⟩ := rd.get i d' i2
    have hz := get_mem_zip i1 v1
    have nd : ((ps.zip vs).map (·.1)).Nodup := by
      rw [show (fun (x : Str × Value) => x.1) = Prod.fst from rfl, List.map_fst_zip (by lia)]
      exact (List.nodup_append.mp ok.nodup).1
    refine ⟨v, bs, ?_, v2.kf (fr := []) (.of_keeps keep)⟩
    have kindK : ∀ {q}, sc.names.lookup y = q → K.env.kindOf y = q := fun e => by unfold Env.kindOf; rw [eK]; exact e
    rcases ok.stor y (List.of_mem_zip hz).1 with q | q
    · exact .inl ⟨kindK q, _, ns, bindL_at nd hz (kindK q)⟩
    · obtain ⟨c, hc⟩ := Option.isSome_iff_exists.mp (cells_some sc.names (s.heap.objs.size + 1) [] (.inl q))
      refine .inr ⟨.inl (kindK q), c, by rw [eC]; exact hc, ?_⟩
      have := ic.cell y c (by rw [eC]; exact hc)
      rwa [bindC_at nd hz (by rw [kindK q]; decide)] at this
  have rel : Rel K (frozOf (gStart ps ds rest)) (W ++ []) s₁ := {
    ok := kok
    off := fun b hb => let ⟨o, e⟩ := off b (by simpa using hb); ⟨o, keep b o e⟩
    same := by rw [e0]; exact ic.toInCall.same
    stays := by rw [eG]; exact keepB
    kept := by rw [e0]; exact .of_keeps keep
    frames := by
      rw [eG, eV, ← eE]
      refine Heap.FunFrames.cons (by rw [eK, ok.kind]; decide) eF (by rw [← eL]; exact ns) st.stays.fresh ?_
      exact st.ff.of_keeps fun b o e _ => ⟨o, keep b o e, rfl⟩
    fdict := fun b hb => by
      have : b ∈ s.heap.objs.size :: frs envs := by
        have e : K.fr = s.heap.objs.size :: frs envs := by
          unfold Fm.fr frs
          rw [eV, ← eE, List.filterMap_cons, eF]
        rw [← e]; exact hb
      rcases List.mem_cons.mp this with rfl | hb
      · exact ⟨_, by rw [← eL]; exact ns⟩
      · exact let ⟨m, n⟩ := st.fdict b hb; ⟨m, n.keeps keep⟩
    loc := ⟨_, ns⟩
    cells := fun y c hc => ⟨_, ic.cell y c hc⟩
    nodup := by rw [froz_names, gStart_names hl]; exact ok.nodup
    plain := fun y hy => by rw [froz_names, gStart_names hl] at hy; exact ok.plain y hy
    vars := by rw [List.append_nil]; exact hrd }
  have frE : K.fr = s.heap.objs.size :: frs envs := by
    unfold Fm.fr frs
    rw [eV, ← eE, List.filterMap_cons, eF]
  have main := h K s₁ eG eS eO eR (by rw [eA]; rfl) e0 (by rw [frE, eL]) (by rw [eV, eE]) (by rw [eF, eL]) ⟨by rw [eE, ← hfd]; rfl, by rw [eE, ← hfd]; rfl⟩ ⟨rel, seg_start, .nil, fun a ha => nomatch ha⟩
  have e' : K.M = model G.prog G.w := by unfold Fm.M; rw [eG]
  rw [e'] at main
  exact main
def Fm.Of (K : Fm) (x : Str) : Prop := (∃ a o fd, K.G.mg x = some (.ref a) ∧ K.G.base.get? a = some o ∧ o.data = .func fd ∧ K.env.code = fd.code) ∧ K.env.qual = x ++ ".<locals>."
theorem calls_of {G : Gx} (gk : G.Ok) {x : Str} {params : Arguments} {body : List Stmt} {sc : Scope} {ps rest own : List Str} {ds : List D} {d : D} {fr : Bool} {n : Nat}
    (hf : ∃ a o pm code doc, G.mg x = some (.ref a) ∧ G.base.get? a = some o ∧ o.data = .func (Calls.docDef x params body sc pm code doc) ∧ G.base.CodeRec code x)
    (ok : DefOk sc ps rest own) (hl : ps.length = ds.length)
    (hb : ∀ vals : List Value, vals.length = ps.length → ∀ pm code doc, bindArgs (Calls.docDef x params body sc pm code doc) ⟨vals, []⟩ = pure (ps.zip vals))
    (hd : Option Value → Prop) (h : ∀ K : Fm, K.G = G → K.sc = sc → K.own = own → K.room = n → hd K.A.handled → K.Of x → SX K (gStart ps ds rest) body (Rets d fr)) :
    ∃ a o fd, G.mg x = some (.ref a) ∧ G.base.get? a = some o ∧ o.data = .func fd ∧ ∀ A envs W s vs as E, Site G A envs (n + 1) s → hd A.handled → (∀ b ∈ W, ∃ o, s.heap.get? b = some o) → RdAll W s.heap vs ds as →
    wpAny G.M A (call (.ref a) vs) (fun v s' => Step (frs envs) s s' ∧ ∃ bs, Rd W s'.heap v d bs ∧ (fr = true → bs.Nodup ∧ ∀ a ∈ bs, s.heap.get? a = none)) E s := by
  obtain ⟨a, o, pm, code, doc, h1, h2, h3, h4⟩ := hf
  refine ⟨a, o, _, h1, h2, h3, fun A envs W s vs as E st hh off rd => enter gk h2 h3 h4 ok hl hb st off rd fun K s₁ eG eS eO eR eH e0 frE _ eF eX r => ?_⟩
  have back : ∀ {v : Value} {s' : Shared} {f' : Bool}, (fr = true → f' = true) → Got K W K.s0 d f' v s' → Step (frs envs) s s' ∧ ∃ bs, Rd W s'.heap v d bs ∧ (fr = true → bs.Nodup ∧ ∀ a ∈ bs, s.heap.get? a = none) := fun hf' q => by
    obtain ⟨st', bs, q1, q2⟩ := q
    rw [e0] at st' q2
    refine ⟨⟨st'.same, fun b o e => ?_⟩, bs, q1, fun e => q2 (hf' e)⟩
    rcases st'.kf b o e with q | ⟨q1, q2⟩ | q
    · exact .inl q
    · rw [frE] at q1
      rcases List.mem_cons.mp q1 with rfl | q1
      · have := r.rel.ok.locnew
        rw [e0] at this
        rw [this] at e; cases e
      · exact .inr (.inl ⟨q1, q2⟩)
    · exact .inr (.inr q)
  refine wpAny_mono (h K eG eS eO eR (by rw [eH]; exact hh) ⟨⟨a, o, _, by rw [eG]; exact h1, by rw [eG]; exact h2, h3, eX.1⟩, eX.2⟩ W [] s₁ r _) (fun f s' hq => ?_) fun _ _ q => q
  obtain ⟨ou, p, W3, m, _⟩ := hq
  cases f with
  | next =>
    cases ou <;> first | exact absurd m id | skip
    obtain rfl : d = .none := p
    have R' : Rel K _ _ s' := m.full
    exact back (f' := true) (fun _ => rfl) (.flat ⟨R'.same, R'.kept⟩ .none true)
  | ret v =>
    cases ou <;> first | exact absurd m id | skip
    obtain ⟨rfl, hf'⟩ := p
    exact back hf' m
  | brk => cases ou <;> first | exact absurd m id | exact absurd p id
  | cont => cases ou <;> first | exact absurd m id | exact absurd p id
end Mine
end

section
set_option autoImplicit false
namespace Mine
open PySem

structure Has (G : Gx) (rs : List DefRec) : Prop where
  ok : G.Ok
  fn : ∀ d ∈ rs, ∃ a o pm code doc, G.mg d.name = some (.ref a) ∧ G.base.get? a = some o ∧ o.data = .func (Calls.docDef d.name d.params d.body d.scope pm code doc) ∧ G.base.CodeRec code d.name
theorem Has.at {G : Gx} {rs : List DefRec} (h : Has G rs) (x : Str) {d : DefRec} (e : rs.find? (fun e => e.name == x) = some d) :
    ∃ a o pm code doc, G.mg x = some (.ref a) ∧ G.base.get? a = some o ∧ o.data = .func (Calls.docDef x d.params d.body d.scope pm code doc) ∧ G.base.CodeRec code x := by
  have hx : d.name = x := by have := List.find?_some e; simpa using this
  have := h.fn d (List.mem_of_find?_eq_some e)
  rwa [hx] at this

theorem nameOk {K : Fm} {sc : Scope} {x : Str} {q : Option NameKind} (e : K.sc = sc) (h : sc.names.lookup x = q) : K.sc.names.lookup x = q := by rw [e]; exact h
theorem stor_local {K : Fm} {sc : Scope} {x : Str} (e : K.sc = sc) (h : sc.names.lookup x = some .local) : Storable K x := .inl (nameOk e h)
theorem stor_own {K : Fm} {own : List Str} {x : Str} (e : K.own = own) (h : x ∈ own) : Storable K x := .inr (e ▸ h)

theorem ixOf_pos {k : Int} {n : Nat} (h0 : 0 ≤ k) (h1 : k < n) : ixOf k n = some k.toNat := by
  unfold ixOf seqIndex?
  have : ¬ k < 0 := by omega
  simp [this, h0, h1]
section
variable {K : Fm} {rho : List (Str × Option D)} {e i : Expr} {es : List Expr} {pos np p p2 : Pos} {f g : Bool} {a b k : Int} {L : List Int} {ds : List D}
def EVI (K : Fm) (rho : List (Str × Option D)) (es : List Expr) (L : List Int) : Prop := EVs K rho es (L.map .int) true
theorem evi_nil : EVI K rho [] [] := evs_nil
theorem evi_cons (h : EV K rho e (.int a) f) (k : EVI K rho es L) (hn : noStar e = true) : EVI K rho (e :: es) (a :: L) := evs_cons (h.up (f' := true) (.int a)) k hn
theorem ev_ints (h : EVI K rho es L) (hl : L.length ≤ sizeLine) : EV K rho (.List es pos) (.list (L.map .int)) true := ev_list h (by simpa using hl)
theorem ev_pick (h : EVI K rho es L) (h2 : EV K rho i (.int k) g) (h0 : 0 ≤ k) (h1 : k < L.length) (hl : L.length ≤ 1000) (hn : noSlice i = true) : EV K rho (.Subscript (.List es p) i pos) (.int (L.getD k.toNat 0)) true := by
  have hk : k.toNat < L.length := by lia
  refine (ev_item_list (ev_ints h (by have : sizeLine = 16777216 := rfl; lia)) h2 (j := k.toNat) ?_ (d := .int (L.getD k.toNat 0)) ?_ hn (by lia)).up (.int _)
  · exact ixOf_pos h0 (by simpa using h1)
  · simp [List.getD, hk]
theorem bc_max2 (hh : K.A.handled = none) : BC K (.builtin "max") [.int a, .int b] (.int (max a b)) true := fun W s vs as E kk _ hW r => by
  obtain ⟨v, v', _, _, rfl, r1, r2, _⟩ := rd2 r
  obtain ⟨t, rfl, _⟩ := r1.int_inv
  obtain ⟨u, rfl, _⟩ := r2.int_inv
  refine max_two_ints hh fun h' tk hk => ?_
  have hst : Step K.fr s { s with heap := h', toks := tk } := .of_keeps hk
  split
  · rw [show max a b = b by lia]; exact .intro_int hst _
  · rw [show max a b = a by lia]; exact .intro_int hst _
theorem bc_min2 (hh : K.A.handled = none) : BC K (.builtin "min") [.int a, .int b] (.int (min a b)) true := fun W s vs as E kk _ hW r => by
  obtain ⟨v, v', _, _, rfl, r1, r2, _⟩ := rd2 r
  obtain ⟨t, rfl, _⟩ := r1.int_inv
  obtain ⟨u, rfl, _⟩ := r2.int_inv
  refine min_two_ints hh fun h' tk hk => ?_
  have hst : Step K.fr s { s with heap := h', toks := tk } := .of_keeps hk
  split
  · rw [show min a b = b by lia]; exact .intro_int hst _
  · rw [show min a b = a by lia]; exact .intro_int hst _

abbrev GN (K : Fm) (x : Str) : Prop := K.sc.names.lookup x = some .globalImplicit
theorem ev_max2 (hx : GN K "max") (hh : K.A.handled = none) {e1 e2 : Expr} (h1 : EV K rho e1 (.int a) f) (h2 : EV K rho e2 (.int b) g) (n1 : noStar e1 = true) (n2 : noStar e2 = true) : EV K rho (.Call (.Name "max" np) [e1, e2] [] pos) (.int (max a b)) true :=
  ev_bcall hx (by decide +kernel) PyProof.Rows.Boot.«max» rfl (evs_cons h1 (evs_cons h2 evs_nil n2) n1) (by simp [n1, n2]) (bc_max2 hh)
theorem ev_min2 (hx : GN K "min") (hh : K.A.handled = none) {e1 e2 : Expr} (h1 : EV K rho e1 (.int a) f) (h2 : EV K rho e2 (.int b) g) (n1 : noStar e1 = true) (n2 : noStar e2 = true) : EV K rho (.Call (.Name "min" np) [e1, e2] [] pos) (.int (min a b)) true :=
  ev_bcall hx (by decide +kernel) PyProof.Rows.Boot.«min» rfl (evs_cons h1 (evs_cons h2 evs_nil n2) n1) (by simp [n1, n2]) (bc_min2 hh)
theorem ev_abs (hx : GN K "abs") (h1 : EV K rho e (.int a) f) (n1 : noStar e = true) : EV K rho (.Call (.Name "abs" np) [e] [] pos) (.int (a.natAbs : Int)) true :=
  ev_bcall hx (by decide +kernel) PyProof.Rows.Boot.«abs» rfl (evs_cons h1 evs_nil n1) (by simp [n1]) bc_abs
theorem ev_len_list (hx : GN K "len") (h1 : EV K rho e (.list ds) f) (hl : ds.length ≤ sizeLine) (n1 : noStar e = true) : EV K rho (.Call (.Name "len" np) [e] [] pos) (.int ds.length) true :=
  ev_bcall hx (by decide +kernel) PyProof.Rows.Boot.«len» rfl (evs_cons h1 evs_nil n1) (by simp [n1]) (bc_len_list hl)
theorem ev_len_tuple (hx : GN K "len") (h1 : EV K rho e (.tuple ds) f) (hl : ds.length ≤ sizeLine) (n1 : noStar e = true) : EV K rho (.Call (.Name "len" np) [e] [] pos) (.int ds.length) true :=
  ev_bcall hx (by decide +kernel) PyProof.Rows.Boot.«len» rfl (evs_cons h1 evs_nil n1) (by simp [n1]) (bc_len_tuple hl)
theorem ev_tuple_list (hx : GN K "tuple") (h1 : EV K rho e (.list ds) f) (hl : ds.length ≤ sizeLine) (n1 : noStar e = true) : EV K rho (.Call (.Name "tuple" np) [e] [] pos) (.tuple ds) false :=
  ev_bcall hx (by decide +kernel) PyProof.Rows.Boot.«tuple» rfl (evs_cons h1 evs_nil n1) (by simp [n1]) (bc_tuple_list hl)
theorem ev_tuple_list' (hx : GN K "tuple") (h1 : EV K rho e (.list ds) f) (hl : ds.length ≤ sizeLine) (fl : ∀ d ∈ ds, Flat d) (n1 : noStar e = true) : EV K rho (.Call (.Name "tuple" np) [e] [] pos) (.tuple ds) true :=
  (ev_tuple_list hx h1 hl n1).up (.tuple fl)
theorem ev_list_list (hx : GN K "list") (h1 : EV K rho e (.list ds) f) (hl : ds.length ≤ sizeLine) (fl : ∀ d ∈ ds, Flat d) (n1 : noStar e = true) : EV K rho (.Call (.Name "list" np) [e] [] pos) (.list ds) true :=
  ev_bcall hx (by decide +kernel) PyProof.Rows.Boot.«list» rfl (evs_cons h1 evs_nil n1) (by simp [n1]) (bc_list_list hl fl)
end
theorem ev_call1 {K : Fm} {rho : List (Str × Option D)} {x : Str} {np pos : Pos} {e1 : Expr} {d1 d : D} {f1 fr : Bool} {n : Nat} (hh : K.A.handled = none) (hx : GN K x) (hxd : gnameOk x = true)
    (h1 : EV K rho e1 d1 f1) (n1 : noStar e1 = true) (c : Calls K.G n x [d1] d fr) (hr : n ≤ K.room) : EV K rho (.Call (.Name x np) [e1] [] pos) d fr :=
  ev_call hh hx hxd (evs_cons h1 evs_nil n1) n1 c hr
theorem ev_call2 {K : Fm} {rho : List (Str × Option D)} {x : Str} {np pos : Pos} {e1 e2 : Expr} {d1 d2 d : D} {f1 f2 fr : Bool} {n : Nat} (hh : K.A.handled = none) (hx : GN K x) (hxd : gnameOk x = true)
    (h1 : EV K rho e1 d1 f1) (h2 : EV K rho e2 d2 f2) (n1 : noStar e1 = true) (n2 : noStar e2 = true) (c : Calls K.G n x [d1, d2] d fr) (hr : n ≤ K.room) : EV K rho (.Call (.Name x np) [e1, e2] [] pos) d fr :=
  ev_call hh hx hxd (evs_cons h1 (evs_cons h2 evs_nil n2) n1) n1 c hr
theorem ev_call3 {K : Fm} {rho : List (Str × Option D)} {x : Str} {np pos : Pos} {e1 e2 e3 : Expr} {d1 d2 d3 d : D} {f1 f2 f3 fr : Bool} {n : Nat} (hh : K.A.handled = none) (hx : GN K x) (hxd : gnameOk x = true)
    (h1 : EV K rho e1 d1 f1) (h2 : EV K rho e2 d2 f2) (h3 : EV K rho e3 d3 f3) (n1 : noStar e1 = true) (n2 : noStar e2 = true) (n3 : noStar e3 = true) (c : Calls K.G n x [d1, d2, d3] d fr) (hr : n ≤ K.room) : EV K rho (.Call (.Name x np) [e1, e2, e3] [] pos) d fr :=
  ev_call hh hx hxd (evs_cons h1 (evs_cons h2 (evs_cons h3 evs_nil n3) n2) n1) n1 c hr
end Mine
end

section
set_option autoImplicit false
namespace Mine
open PySem

structure Side (p : Prop) : Prop where
  out : p
structure Imp (p q : Prop) : Prop where
  out : p → q
structure Look (b : Bool) : Prop where
  out : b = true
structure XE (K : Fm) (rho : List (Str × Option D)) (e : Expr) (d : D) (f : Bool) : Prop where
  out : EV K rho e d f
structure XI (K : Fm) (rho : List (Str × Option D)) (es : List Expr) (L : List Int) : Prop where
  out : EVI K rho es L
structure XL (K : Fm) (rho : List (Str × Option D)) (es : List Expr) (ds : List D) (f : Bool) : Prop where
  out : EVs K rho es ds f
structure XA (K : Fm) (rho : List (Str × Option D)) (op : BoolOp) (pos : Pos) (es : List Expr) (b : Bool) : Prop where
  out : EVA K rho op pos es b
structure XT (K : Fm) (rho : List (Str × Option D)) (e : Expr) (b : Bool) : Prop where
  out : TS K rho e b
structure XTA (K : Fm) (rho : List (Str × Option D)) (es : List Expr) (b : Bool) : Prop where
  out : TSA K rho es b
structure XTO (K : Fm) (rho : List (Str × Option D)) (es : List Expr) (b : Bool) : Prop where
  out : TSO K rho es b
structure XC (K : Fm) (op : CmpOp) (d1 d2 : D) (b : Bool) : Prop where
  out : CMP K op d1 d2 b
structure XM (rho : List (Str × Option D)) (x : Str) (d : D) : Prop where
  out : (x, some d) ∈ rho
structure XG (K : Fm) (x : Str) : Prop where
  out : GN K x
structure XK (G : Gx) (n : Nat) (x : Str) (ds : List D) (d : D) (f : Bool) : Prop where
  out : Calls G n x ds d f
structure XH (K : Fm) : Prop where
  out : K.A.handled = none

namespace V
theorem m_fz {x : Str} {d : D} {g : Sg} : XM (fullOf ((x, .fz d) :: g)) x d := ⟨.head _⟩
theorem m_tl {x y : Str} {d : D} {o : Sl} {g : Sg} (h : XM (fullOf g) x d) : XM (fullOf ((y, o) :: g)) x d := ⟨.tail _ h.out⟩
theorem z_fz {x : Str} {d : D} {g : Sg} : XM (frozOf ((x, .fz d) :: g)) x d := ⟨.head _⟩
theorem z_tl {x y : Str} {d : D} {o : Sl} {g : Sg} (h : XM (frozOf g) x d) : XM (frozOf ((y, o) :: g)) x d := ⟨.tail _ h.out⟩
theorem gn {K : Fm} {sc : Scope} {x : Str} (e : K.sc = sc) (h : sc.names.lookup x = some .globalImplicit) : XG K x := ⟨nameOk e h⟩

section
variable {K : Fm} {rho : List (Str × Option D)} {e l r i : Expr} {es : List Expr} {pos np p p2 : Pos} {f g : Bool} {a b k : Int} {L : List Int} {ds : List D} {d d1 d2 d3 : D} {x : Str} {n : Nat} {fr : Bool} {kk : Nat}
theorem cint : XE K rho (.Constant (.int a) kk pos) (.int a) true := ⟨ev_int⟩
theorem cnone : XE K rho (.Constant .none kk pos) .none true := ⟨ev_none⟩
theorem cbool {bb : Bool} : XE K rho (.Constant (.bool bb) kk pos) (.bool bb) true := ⟨ev_bool⟩
theorem cstr (h : Side (PyData.canLay0 (.str x) = true)) : XE K rho (.Constant (.str x) kk pos) (.str x) true := ⟨ev_str h.out⟩
theorem name_int (h : XM rho x (.int a)) : XE K rho (.Name x pos) (.int a) true := ⟨(ev_name h.out).up (.int a)⟩
theorem name_bool {bb : Bool} (h : XM rho x (.bool bb)) : XE K rho (.Name x pos) (.bool bb) true := ⟨(ev_name h.out).up (.bool bb)⟩
theorem name (h : XM rho x d) : XE K rho (.Name x pos) d false := ⟨ev_name h.out⟩
theorem neg (h1 : XE K rho l (.int a) f) : XE K rho (.UnaryOp .USub l pos) (.int (-a)) true := ⟨ev_neg h1.out⟩
theorem enot {bb : Bool} (h1 : XE K rho l (.bool bb) f) : XE K rho (.UnaryOp .Not l pos) (.bool (!bb)) true := ⟨ev_not h1.out⟩
theorem add (h1 : XE K rho l (.int a) f) (h2 : XE K rho r (.int b) g) : XE K rho (.BinOp l .Add r pos) (.int (a + b)) true := ⟨ev_add h1.out h2.out⟩
theorem sub (h1 : XE K rho l (.int a) f) (h2 : XE K rho r (.int b) g) : XE K rho (.BinOp l .Sub r pos) (.int (a - b)) true := ⟨ev_sub h1.out h2.out⟩
theorem mul (h1 : XE K rho l (.int a) f) (h2 : XE K rho r (.int b) g) (hm : Side (IntMulOk a b)) : XE K rho (.BinOp l .Mult r pos) (.int (a * b)) true := ⟨ev_mul h1.out h2.out hm.out⟩
theorem mod (h1 : XE K rho l (.int a) f) (h2 : XE K rho r (.int b) g) (hb : Side (0 < b)) : XE K rho (.BinOp l .Mod r pos) (.int (a % b)) true := by
  have h := hb.out
  rw [← Int.fmod_eq_emod_of_nonneg a (Int.le_of_lt h)]
  exact ⟨ev_mod h1.out h2.out (by omega)⟩
theorem fdiv (h1 : XE K rho l (.int a) f) (h2 : XE K rho r (.int b) g) (hb : Side (0 < b)) (hs : Side (b.natAbs.log2 < 9000)) : XE K rho (.BinOp l .FloorDiv r pos) (.int (a / b)) true := by
  have h := hb.out
  rw [← Int.fdiv_eq_ediv_of_nonneg a (Int.le_of_lt h)]
  exact ⟨ev_floordiv h1.out h2.out (by lia) hs.out⟩
theorem i_nil : XI K rho [] [] := ⟨evi_nil⟩
theorem i_cons (h : XE K rho e (.int a) f) (k : XI K rho es L) (hn : Look (noStar e)) : XI K rho (e :: es) (a :: L) := ⟨evi_cons h.out k.out hn.out⟩
theorem l_nil : XL K rho [] [] true := ⟨evs_nil⟩
theorem l_cons (h : XE K rho e d f) (k : XL K rho es ds g) (hn : Look (noStar e)) : XL K rho (e :: es) (d :: ds) (f && g) := ⟨evs_cons h.out k.out hn.out⟩
theorem lints (h : XI K rho es L) (hl : Side (L.length ≤ sizeLine)) : XE K rho (.List es pos) (.list (L.map .int)) true := ⟨ev_ints h.out hl.out⟩
theorem list (h : XL K rho es ds f) (hl : Side (ds.length ≤ sizeLine)) : XE K rho (.List es pos) (.list ds) f := ⟨ev_list h.out hl.out⟩
theorem tuple (h : XL K rho es ds f) (hl : Side (ds.length ≤ sizeLine)) : XE K rho (.Tuple es kk pos) (.tuple ds) f := ⟨ev_tuple h.out hl.out⟩
theorem pick (h : XI K rho es L) (h2 : XE K rho i (.int k) g) (h0 : Side (0 ≤ k ∧ k < L.length)) (hl : Side (L.length ≤ 1000)) (hn : Look (noSlice i)) : XE K rho (.Subscript (.List es p) i pos) (.int (L.getD k.toNat 0)) true :=
  ⟨ev_pick h.out h2.out h0.out.1 h0.out.2 hl.out hn.out⟩
theorem item_list (h : XE K rho e (.list ds) f) (h2 : XE K rho i (.int k) g) (hk : Side (0 ≤ k ∧ k < 1000000000)) (hd : Side (ds[k.toNat]? = some d)) (hn : Look (noSlice i)) : XE K rho (.Subscript e i pos) d false := by
  have hl : k.toNat < ds.length := (List.getElem?_eq_some_iff.mp hd.out).1
  exact ⟨ev_item_list h.out h2.out (ixOf_pos hk.out.1 (by have := hk.out.1; omega)) hd.out hn.out (by have := hk.out; omega)⟩
theorem item_int (h : XE K rho e (.list (L.map .int)) f) (h2 : XE K rho i (.int k) g) (hk : Side (0 ≤ k ∧ k < L.length)) (hl : Side (L.length < 1000000000)) (hn : Look (noSlice i)) : XE K rho (.Subscript e i pos) (.int (L.getD k.toNat 0)) true := by
  have h0 := hk.out
  have hl := hl.out
  have hk : k.toNat < L.length := by lia
  exact ⟨(ev_item_list h.out h2.out (j := k.toNat) (ixOf_pos h0.1 (by simpa using h0.2)) (d := .int (L.getD k.toNat 0)) (by simp [List.getD, hk]) hn.out (by lia)).up (.int _)⟩
theorem item_intT (h : XE K rho e (.tuple (L.map .int)) f) (h2 : XE K rho i (.int k) g) (hk : Side (0 ≤ k ∧ k < L.length)) (hl : Side (L.length < 1000000000)) (hn : Look (noSlice i)) : XE K rho (.Subscript e i pos) (.int (L.getD k.toNat 0)) true := by
  have h0 := hk.out
  have hl := hl.out
  have hk : k.toNat < L.length := by omega
  exact ⟨(ev_item_tuple h.out h2.out (j := k.toNat) (ixOf_pos h0.1 (by simpa using h0.2)) (d := .int (L.getD k.toNat 0)) (by simp [List.getD, hk]) hn.out (by omega)).up (.int _)⟩
theorem call1 {e1 : Expr} {f1 : Bool} (hx : XG K x) (h1 : XE K rho e1 d1 f1) (c : XK K.G n x [d1] d fr) (hh : XH K) (hxd : Look (gnameOk x)) (n1 : Look (noStar e1)) (hr : Side (n ≤ K.room)) : XE K rho (.Call (.Name x np) [e1] [] pos) d fr :=
  ⟨ev_call1 hh.out hx.out hxd.out h1.out n1.out c.out hr.out⟩
theorem call2 {e1 e2 : Expr} {f1 f2 : Bool} (hx : XG K x) (h1 : XE K rho e1 d1 f1) (h2 : XE K rho e2 d2 f2) (c : XK K.G n x [d1, d2] d fr) (hh : XH K) (hxd : Look (gnameOk x)) (n1 : Look (noStar e1)) (n2 : Look (noStar e2)) (hr : Side (n ≤ K.room)) : XE K rho (.Call (.Name x np) [e1, e2] [] pos) d fr :=
  ⟨ev_call2 hh.out hx.out hxd.out h1.out h2.out n1.out n2.out c.out hr.out⟩
theorem call3 {e1 e2 e3 : Expr} {f1 f2 f3 : Bool} (hx : XG K x) (h1 : XE K rho e1 d1 f1) (h2 : XE K rho e2 d2 f2) (h3 : XE K rho e3 d3 f3) (c : XK K.G n x [d1, d2, d3] d fr) (hh : XH K) (hxd : Look (gnameOk x)) (n1 : Look (noStar e1)) (n2 : Look (noStar e2)) (n3 : Look (noStar e3)) (hr : Side (n ≤ K.room)) : XE K rho (.Call (.Name x np) [e1, e2, e3] [] pos) d fr :=
  ⟨ev_call3 hh.out hx.out hxd.out h1.out h2.out h3.out n1.out n2.out n3.out c.out hr.out⟩
theorem isint (hx : XG K "isinstance") (hy : XG K "int") (h : XE K rho e d f) (nd : Look (notDict d)) (hn : Look (noStar e)) : XE K rho (.Call (.Name "isinstance" np) [e, .Name "int" p] [] pos) (.bool (isA d "int")) true :=
  ⟨ev_isinstance hx.out hy.out (by decide +kernel) PyProof.Rows.Boot.«int» (by decide) h.out nd.out hn.out⟩
theorem isbool (hx : XG K "isinstance") (hy : XG K "bool") (h : XE K rho e d f) (nd : Look (notDict d)) (hn : Look (noStar e)) : XE K rho (.Call (.Name "isinstance" np) [e, .Name "bool" p] [] pos) (.bool (isA d "bool")) true :=
  ⟨ev_isinstance hx.out hy.out (by decide +kernel) PyProof.Rows.Boot.«bool» (by decide) h.out nd.out hn.out⟩
theorem istuple (hx : XG K "isinstance") (hy : XG K "tuple") (h : XE K rho e d f) (nd : Look (notDict d)) (hn : Look (noStar e)) : XE K rho (.Call (.Name "isinstance" np) [e, .Name "tuple" p] [] pos) (.bool (isA d "tuple")) true :=
  ⟨ev_isinstance hx.out hy.out (by decide +kernel) PyProof.Rows.Boot.«tuple» (by decide) h.out nd.out hn.out⟩
theorem islist (hx : XG K "isinstance") (hy : XG K "list") (h : XE K rho e d f) (nd : Look (notDict d)) (hn : Look (noStar e)) : XE K rho (.Call (.Name "isinstance" np) [e, .Name "list" p] [] pos) (.bool (isA d "list")) true :=
  ⟨ev_isinstance hx.out hy.out (by decide +kernel) PyProof.Rows.Boot.«list» (by decide) h.out nd.out hn.out⟩
theorem isstr (hx : XG K "isinstance") (hy : XG K "str") (h : XE K rho e d f) (nd : Look (notDict d)) (hn : Look (noStar e)) : XE K rho (.Call (.Name "isinstance" np) [e, .Name "str" p] [] pos) (.bool (isA d "str")) true :=
  ⟨ev_isinstance hx.out hy.out (by decide +kernel) PyProof.Rows.Boot.«str» (by decide) h.out nd.out hn.out⟩
theorem abs (hx : XG K "abs") (h1 : XE K rho e (.int a) f) (n1 : Look (noStar e)) : XE K rho (.Call (.Name "abs" np) [e] [] pos) (.int (a.natAbs : Int)) true := ⟨ev_abs hx.out h1.out n1.out⟩
theorem max2 (hx : XG K "max") {e1 e2 : Expr} (h1 : XE K rho e1 (.int a) f) (h2 : XE K rho e2 (.int b) g) (hh : XH K) (n1 : Look (noStar e1)) (n2 : Look (noStar e2)) : XE K rho (.Call (.Name "max" np) [e1, e2] [] pos) (.int (max a b)) true := ⟨ev_max2 hx.out hh.out h1.out h2.out n1.out n2.out⟩
theorem min2 (hx : XG K "min") {e1 e2 : Expr} (h1 : XE K rho e1 (.int a) f) (h2 : XE K rho e2 (.int b) g) (hh : XH K) (n1 : Look (noStar e1)) (n2 : Look (noStar e2)) : XE K rho (.Call (.Name "min" np) [e1, e2] [] pos) (.int (min a b)) true := ⟨ev_min2 hx.out hh.out h1.out h2.out n1.out n2.out⟩
theorem flat_int : ∀ d ∈ L.map PyData.int, Flat d := by
  intro d hd
  obtain ⟨i, _, rfl⟩ := List.mem_map.mp hd
  exact .int i
theorem tuple_ints (hx : XG K "tuple") (h1 : XE K rho e (.list (L.map .int)) f) (hl : Side (L.length ≤ sizeLine)) (n1 : Look (noStar e)) : XE K rho (.Call (.Name "tuple" np) [e] [] pos) (.tuple (L.map .int)) true :=
  ⟨ev_tuple_list' hx.out h1.out (by simpa using hl.out) flat_int n1.out⟩
theorem boolop {op : BoolOp} {bb : Bool} (h : XA K rho op pos es bb) : XE K rho (.BoolOp op es pos) (.bool bb) true := ⟨ev_boolop h.out⟩
theorem eone {op : BoolOp} {bb : Bool} (h : XE K rho e (.bool bb) f) : XA K rho op pos [e] bb := ⟨eva_one h.out⟩
theorem eand {e2 : Expr} {b1 b2 : Bool} (h : XE K rho e (.bool b1) f) (k : Imp (b1 = true) (XA K rho .And pos (e2 :: es) b2)) : XA K rho .And pos (e :: e2 :: es) (b1 && b2) := ⟨eva_and h.out fun q => (k.out q).out⟩
theorem tnil : XTA K rho [] true := ⟨tsa_nil⟩
theorem tonil : XTO K rho [] false := ⟨tso_nil⟩
theorem tand {b1 b2 : Bool} (h : XT K rho e b1) (k : Imp (b1 = true) (XTA K rho es b2)) : XTA K rho (e :: es) (b1 && b2) := ⟨tsa_cons h.out fun q => (k.out q).out⟩
theorem tor {b1 b2 : Bool} (h : XT K rho e b1) (k : Imp (b1 = false) (XTO K rho es b2)) : XTO K rho (e :: es) (b1 || b2) := ⟨tso_cons h.out fun q => (k.out q).out⟩
theorem tall {bb : Bool} (h : XTA K rho es bb) : XT K rho (.BoolOp .And es pos) bb := ⟨ts_and h.out⟩
theorem tany {bb : Bool} (h : XTO K rho es bb) : XT K rho (.BoolOp .Or es pos) bb := ⟨ts_or h.out⟩
theorem tnot {bb : Bool} (h : XT K rho e bb) : XT K rho (.UnaryOp .Not e pos) (!bb) := ⟨ts_not h.out⟩
theorem tcmp {op : CmpOp} {bb : Bool} (h1 : XE K rho l d1 f) (h2 : XE K rho r d2 g) (c : XC K op d1 d2 bb) (hm : Look (!behindInMarks op r)) : XT K rho (.Compare l [op] [r] pos) bb := ⟨ts_cmp h1.out h2.out c.out (by simpa using hm.out)⟩
theorem ecmp {op : CmpOp} {bb : Bool} (h1 : XE K rho l d1 f) (h2 : XE K rho r d2 g) (c : XC K op d1 d2 bb) (hm : Look (!behindInMarks op r)) : XE K rho (.Compare l [op] [r] pos) (.bool bb) true := ⟨ev_cmp h1.out h2.out c.out (by simpa using hm.out)⟩
theorem tcmp2 {op op2 : CmpOp} {r2 : Expr} {f3 b1 b2 : Bool} (h1 : XE K rho l d1 f) (h2 : XE K rho r d2 g) (c : XC K op d1 d2 b1) (h3 : Imp (b1 = true) (XE K rho r2 d3 f3)) (c2 : Imp (b1 = true) (XC K op2 d2 d3 b2)) (hm : Look (!behindInMarks op2 r2)) :
    XT K rho (.Compare l [op, op2] [r, r2] pos) (b1 && b2) := ⟨ts_cmp2 h1.out h2.out (fun q => (h3.out q).out) c.out (fun q => (c2.out q).out) (by simpa using hm.out)⟩
theorem ecmp2 {op op2 : CmpOp} {r2 : Expr} {f3 b1 b2 : Bool} (h1 : XE K rho l d1 f) (h2 : XE K rho r d2 g) (c : XC K op d1 d2 b1) (h3 : Imp (b1 = true) (XE K rho r2 d3 f3)) (c2 : Imp (b1 = true) (XC K op2 d2 d3 b2)) (hm : Look (!behindInMarks op2 r2)) :
    XE K rho (.Compare l [op, op2] [r, r2] pos) (.bool (b1 && b2)) true := ⟨ev_cmp2 h1.out h2.out (fun q => (h3.out q).out) c.out (fun q => (c2.out q).out) (by simpa using hm.out)⟩
def asks : Expr → Bool
  | .Call .. => true
  | .Name .. => true
  | _ => false
theorem asks_ok (h : asks e = true) : ∀ whole, isTrue e K.env whole = (do let v ← whole; standAt e.pos; holding [v] (truthy v)) := by
  cases e <;> first | (intro _; rfl) | cases h
theorem tval {bb : Bool} (h : XE K rho e (.bool bb) f) (he : Look (asks e)) : XT K rho e bb := ⟨ts_val h.out (asks_ok he.out)⟩
theorem clt : XC K .Lt (.int a) (.int b) (decide (a < b)) := ⟨cmp_lt⟩
theorem cle : XC K .LtE (.int a) (.int b) (decide (a ≤ b)) := ⟨cmp_le⟩
theorem cgt : XC K .Gt (.int a) (.int b) (decide (a > b)) := ⟨cmp_gt⟩
theorem cge : XC K .GtE (.int a) (.int b) (decide (a ≥ b)) := ⟨cmp_ge⟩
theorem ceq : XC K .Eq (.int a) (.int b) (a == b) := ⟨cmp_eq_int⟩
theorem cne : XC K .NotEq (.int a) (.int b) (a != b) := ⟨cmp_ne_int⟩
theorem ceqd (h : Side (d1.depth ≤ 64)) (c1 : Side (clean d1 = true)) (c2 : Side (clean d2 = true)) : XC K .Eq d1 d2 (PyData.eqv d1 d2) := ⟨cmp_eq h.out c1.out c2.out⟩
theorem cned (h : Side (d1.depth ≤ 64)) (c1 : Side (clean d1 = true)) (c2 : Side (clean d2 = true)) : XC K .NotEq d1 d2 (!PyData.eqv d1 d2) := ⟨cmp_ne h.out c1.out c2.out⟩
theorem cisn : XC K .Is d .none (isNone d) := ⟨cmp_is_none⟩
end
end V

structure XS (K : Fm) (g : Sg) (body : List Stmt) (P : Out → Prop) : Prop where
  out : SX K g body P
structure XP (g : Sg) (x : Str) (sl : Sl) (g' : Sg) : Prop where
  out : PutS g x sl g'
structure XO (K : Fm) (x : Str) : Prop where
  out : Storable K x
namespace V
theorem p_hd {x : Str} {o d : Sl} {r : Sg} : XP ((x, o) :: r) x d ((x, d) :: r) := ⟨.here⟩
theorem p_tl {x y : Str} {o d : Sl} {r r' : Sg} (h : XP r x d r') : XP ((y, o) :: r) x d ((y, o) :: r') := ⟨.there h.out⟩
theorem o_loc {K : Fm} {sc : Scope} {x : Str} (e : K.sc = sc) (h : sc.names.lookup x = some .local) : XO K x := ⟨stor_local e h⟩
theorem o_own {K : Fm} {own : List Str} {x : Str} (e : K.own = own) (h : own.contains x = true) : XO K x := ⟨stor_own e (by simpa using h)⟩
def Nx (K : Fm) (rest : List Stmt) (P : Out → Prop) : Out → Prop
  | .next g => XS K g rest P
  | o => P o
section
variable {K : Fm} {g g' : Sg} {rest body orelse : List Stmt} {P Q : Out → Prop} {pos pos' : Pos} {x : Str} {e : Expr} {d : D} {f b : Bool}
theorem keep (h : XS K g body P) : XS K g body P := h
theorem snil (h : P (.next g)) : XS K g [] P := ⟨sx_nil h⟩
theorem sif (t : XT K (fullOf g) e b) (h1 : Imp (b = true) (XS K g body (Nx K rest P))) (h2 : Imp (b = false) (XS K g orelse (Nx K rest P))) : XS K g (.If e body orelse pos :: rest) P :=
  ⟨sx_if t.out (fun q => (h1.out q).out.mono fun o => by cases o <;> first | exact fun a => a.out | exact fun a => a) fun q => (h2.out q).out.mono fun o => by cases o <;> first | exact fun a => a.out | exact fun a => a⟩
def Jn (P : Out → Prop) (J : Sg → Prop) : Out → Prop
  | .next g => J g
  | o => P o
theorem sif_join (J : Sg → Prop) (t : XT K (fullOf g) e b) (h1 : Imp (b = true) (XS K g body (Jn P J))) (h2 : Imp (b = false) (XS K g orelse (Jn P J))) (k : ∀ g', J g' → XS K g' rest P) : XS K g (.If e body orelse pos :: rest) P :=
  ⟨sx_if t.out (fun q => (h1.out q).out.mono fun o => by cases o <;> first | exact fun a => (k _ a).out | exact fun a => a) fun q => (h2.out q).out.mono fun o => by cases o <;> first | exact fun a => (k _ a).out | exact fun a => a⟩
theorem sret (h : XE K (fullOf g) e d f) (k : Side (P (.ret d f))) : XS K g (.Return (some e) pos :: rest) P := ⟨sx_return h.out k.out⟩
theorem set (h : XE K (fullOf g) e d true) (p : XP g x (.fz d) g') (hs : XO K x) (hc : Look (noComp e)) (k : XS K g' rest P) : XS K g (.Assign [.Name x pos'] e pos :: rest) P := ⟨sx_assign h.out p.out hs.out hc.out k.out⟩
theorem set_alias (h : XE K (frozOf g) e d f) (p : XP g x (.fz d) g') (hs : XO K x) (hc : Look (noComp e)) (k : XS K g' rest P) : XS K g (.Assign [.Name x pos'] e pos :: rest) P := ⟨sx_assign_alias h.out p.out hs.out hc.out k.out⟩
theorem set_own (h : XE K (fullOf g) e d true) (p : XP g x (.ow d) g') (hs : XO K x) (hc : Look (noComp e)) (k : XS K g' rest P) : XS K g (.Assign [.Name x pos'] e pos :: rest) P := ⟨sx_assign_own h.out p.out hs.out hc.out k.out⟩
def Turn (K : Fm) (rest : List Stmt) (P : Out → Prop) (I : Sg → Prop) : Out → Prop
  | .next g' => I g'
  | .cont g' => I g'
  | .brk g' => XS K g' rest P
  | .ret d f => P (.ret d f)
end
end V

theorem calls_def {G : Gx} {rs : List DefRec} (H : Has G rs) (x : Str) (ps rest own : List Str) {dr : DefRec} {ds : List D} {d : D} {fr : Bool} {n : Nat} (hd : rs.find? (fun e => e.name == x) = some dr) (ok : defOkB dr.scope ps rest own = true) (hl : ps.length = ds.length)
    (hb : ∀ vals : List Value, vals.length = ps.length → ∀ pm code doc, bindArgs (Calls.docDef x dr.params dr.body dr.scope pm code doc) ⟨vals, []⟩ = pure (ps.zip vals))
    (h : ∀ K : Fm, K.G = G → K.sc = dr.scope → K.own = own → K.room = n → K.A.handled = none → XS K (gStart ps ds rest) dr.body (Rets d fr)) : Calls G (n + 1) x ds d fr :=
  calls_of H.ok (H.at x hd) (defOk_of ok) hl hb (fun o => o = none) fun K a b c e f _ => (h K a b c e f).out
theorem calls_defH {G : Gx} {rs : List DefRec} (H : Has G rs) (x : Str) (ps rest own : List Str) {dr : DefRec} {ds : List D} {d : D} {fr : Bool} {n : Nat} (hd : rs.find? (fun e => e.name == x) = some dr) (ok : defOkB dr.scope ps rest own = true) (hl : ps.length = ds.length)
    (hb : ∀ vals : List Value, vals.length = ps.length → ∀ pm code doc, bindArgs (Calls.docDef x dr.params dr.body dr.scope pm code doc) ⟨vals, []⟩ = pure (ps.zip vals))
    (h : ∀ K : Fm, K.G = G → K.sc = dr.scope → K.own = own → K.room = n → XS K (gStart ps ds rest) dr.body (Rets d fr)) : CallsH G (n + 1) x ds d fr := by
  obtain ⟨a, o, fd, h1, h2, h3, h4⟩ := calls_of H.ok (H.at x hd) (defOk_of ok) hl hb (fun _ => True) fun K a b c e f _ => (h K a b c e).out
  exact ⟨a, o, fd, h1, h2, h3, fun A envs W s vs as E st => h4 A envs W s vs as E st trivial⟩
end Mine
end

section
set_option autoImplicit false
namespace Mine
open PySem

theorem fra_off {W W1 W1' : List Addr} {s s' : Shared} (x : Fra W1 W1' s s') {a : Addr} {o : Obj} (h0 : a ∉ W ++ W1) (h1 : s.heap.get? a = some o) : a ∉ W ++ W1' := fun hm =>
  (List.mem_append.mp hm).elim (fun q => h0 (List.mem_append_left _ q)) fun q => (x.new a q).elim (fun q => h0 (List.mem_append_right _ q)) fun q => by rw [q] at h1; cases h1
theorem rdc_fra {W W1 W1' : List Addr} {s s' : Shared} (x : Fra W1 W1' s s') : RdC (W ++ W1) s.heap (Rd (W ++ W1') s'.heap) (RdAll (W ++ W1') s'.heap) :=
  ⟨.none, .bool, .int, .str, fun h0 h1 ih => .list (fra_off x h0 h1) (x.keep _ _ (fun hm => h0 (List.mem_append_right _ hm)) solid_list h1) ih, fun h0 h1 ih => .tuple (fra_off x h0 h1) (x.keep _ _ (fun hm => h0 (List.mem_append_right _ hm)) solid_tup h1) ih,
    fun h0 h1 h2 h3 => .exc (fra_off x h0 h1) (x.keep _ _ (fun hm => h0 (List.mem_append_right _ hm)) (solid_fields h3 h2 (fun z => by cases z) (fun z => by cases z)) h1) h2 h3, .nil, .cons⟩
theorem Rd.fra {W W1 W1' : List Addr} {s s' : Shared} (x : Fra W1 W1' s s') {v : Value} {d : D} {as : List Addr} (r : Rd (W ++ W1) s.heap v d as) : Rd (W ++ W1') s'.heap v d as := (rdc_fra x).rd r

theorem SegG.ext {env : Env} {W0 X : List Addr} {h : Heap} (hn : ∀ a ∈ X, h.get? a = none) {g : Sg} {W : List Addr} (x : SegG env W0 h g W) : SegG env (W0 ++ X) h g W := by
  induction x with
  | nil => exact .nil
  | no _ ih => exact .no ih
  | fz _ ih => exact .fz ih
  | ow a b _ ih => exact .ow a (b.ext hn) ih
theorem SegG.sub {env : Env} {W0 W0' : List Addr} {h : Heap} (hs : ∀ a ∈ W0', a ∈ W0) {g : Sg} {W : List Addr} (x : SegG env W0 h g W) : SegG env W0' h g W := by
  induction x with
  | nil => exact .nil
  | no _ ih => exact .no ih
  | fz _ ih => exact .fz ih
  | ow a b _ ih => exact .ow a (b.sub hs) ih
theorem SegG.turn {env : Env} {W0 : List Addr} {h h' : Heap} (hh : ∀ y v, Holds env h y v → Holds env h' y v) (ks : KS W0 h h') {g : Sg} {W : List Addr} (x : SegG env W0 h g W) : SegG env W0 h' g W := by
  induction x with
  | nil => exact .nil
  | no _ ih => exact .no ih
  | fz _ ih => exact .fz ih
  | ow a b _ ih => exact .ow (hh _ _ a) (b.ks ks) ih

section
variable {K : Fm} {W0 W1 W2 wr : List Addr} {g g' : Sg} {s s' s2 : Shared}
theorem OR.inner (r : OR K W0 W1 g s) (st : Step K.fr s s2) (new : ∀ a ∈ wr, s.heap.get? a = none) (live : ∀ a ∈ wr, ∃ o, s2.heap.get? a = some o) : OR K (W0 ++ wr) W1 g s2 where
  rel := (r.rel.ext st new live).sub fun a ha => by simp only [List.mem_append] at ha ⊢; rcases ha with (h | h) | h <;> simp [h]
  seg := (r.seg.ext new).step st.kf
  nd := r.nd
  nw := r.nw
theorem OR.outer (r : OR K (W0 ++ wr) W1 g s) : OR K W0 W1 g s where
  rel := r.rel.sub fun a ha => by simp only [List.mem_append] at ha ⊢; rcases ha with h | h <;> simp [h]
  seg := r.seg.sub fun a ha => List.mem_append_left _ ha
  nd := r.nd
  nw := r.nw
theorem OffK.holds {X : List Addr} (off : OffK K X) {h h' : Heap} (keep : ∀ b o, b ∉ X → h.get? b = some o → h'.get? b = some o) {y : Str} {v : Value} (q : Holds K.env h y v) : Holds K.env h' y v := by
  rcases q with ⟨k, m, n, e⟩ | ⟨k, c, e, o, ho, hd⟩
  · exact .inl ⟨k, m, n.at' fun o e => keep _ o (fun hx => (off _ hx).1 rfl) e, e⟩
  · exact .inr ⟨k, c, e, o, keep c o (fun hx => (off c hx).2.1 y c e rfl) ho, hd⟩
theorem OR.turn (r : OR K (W0 ++ wr) W2 g s) (off : OffK K wr) (hsol : ∀ a ∈ wr, ∃ o, s.heap.get? a = some o ∧ NoTab o) (new : ∀ a ∈ wr, K.s0.heap.get? a = none) (same : ∃ h' tk, s' = { s with heap := h', toks := tk }) (keep : ∀ b o, b ∉ wr → s.heap.get? b = some o → s'.heap.get? b = some o)
    (live : ∀ a ∈ wr, ∃ o, s'.heap.get? a = some o) : OR K (W0 ++ wr) W2 g s' where
  rel := r.rel.turn (X := wr) (fun a ha => List.mem_append_left _ (List.mem_append_right _ ha)) (fun _ h => h) off hsol new same keep fun a ha _ => live a ha
  seg := r.seg.turn (fun y v q => off.holds keep q) fun b o hb e _ => keep b o (fun hx => hb (List.mem_append_right _ hx)) e
  nd := r.nd
  nw := r.nw
theorem OR.turnOff (r : OR K (W0 ++ wr) W2 g s) (off : OffK K wr) (hsol : ∀ a ∈ wr, ∃ o, s.heap.get? a = some o ∧ NoTab o) (new : ∀ a ∈ wr, K.s0.heap.get? a = none) (h0 : ∀ a ∈ W0, a ∉ wr) (same : ∃ h' tk, s' = { s with heap := h', toks := tk }) (keep : ∀ b o, b ∉ wr → s.heap.get? b = some o → s'.heap.get? b = some o) : OR K W0 W2 g s' where
  rel := r.rel.turn (X := wr) (fun a ha => List.mem_append_left _ (List.mem_append_right _ ha)) (fun a ha => by simp only [List.mem_append] at ha ⊢; rcases ha with h | h <;> simp [h]) off hsol new same keep fun a ha hm =>
    (List.mem_append.mp hm).elim (fun q => absurd ha (h0 a q)) fun q => absurd (List.mem_append_right _ ha) (r.seg.lists a q).1
  seg := (r.seg.turn (fun y v q => off.holds keep q) fun b o hb e _ => keep b o (fun hx => hb (List.mem_append_right _ hx)) e).sub fun a ha => List.mem_append_left _ ha
  nd := r.nd
  nw := r.nw

structure Tk (K : Fm) (W0 W1 X wr : List Addr) (s2 : Shared) (target : Expr) (it : Value) (n : Nat) (St : Nat → Heap → Prop) (put : Nat → Sg → Sg → Prop) : Prop where
  item : ∀ (i : Nat) (g1 g2 : Sg) (W2 : List Addr) (s : Shared) (Q : Shared → Prop) (E : Value → Shared → Prop), i < n → put i g1 g2 → OR K (W0 ++ (X ++ wr)) W2 g1 s → St i s.heap → Fra (W1 ++ (X ++ wr)) (W2 ++ (X ++ wr)) s2 s →
    (∀ b ∈ X, ∃ o, s.heap.get? b = some o ∧ Solid o) →
    (∀ s3 W3, OR K (W0 ++ (X ++ wr)) W3 g2 s3 → St (i + 1) s3.heap → (∀ a ∈ W3, a ∈ W2) → Fra (W2 ++ (X ++ wr)) (W3 ++ (X ++ wr)) s s3 → (∀ b ∈ X, ∀ o, s.heap.get? b = some o → s3.heap.get? b = some o) →
      (∀ b o, b ∉ wr → Solid o → s.heap.get? b = some o → s3.heap.get? b = some o) → Q s3) →
    wpAny K.M K.A (pyNext it) (fun r s1 => match r with
      | none => False
      | some v => wpAny K.M K.A (letOwnedTupleGo target it v) (fun _ s1' => wpAny K.M K.A (assign target K.env v) (fun _ s' => Q s') E s1') E s1) E s
  done : ∀ (g1 : Sg) (W2 : List Addr) (s : Shared) (Q : Shared → Prop) (E : Value → Shared → Prop), OR K (W0 ++ (X ++ wr)) W2 g1 s → St n s.heap → (∀ b ∈ X, ∃ o, s.heap.get? b = some o ∧ Solid o) →
    (∀ s3, OR K W0 W2 g1 s3 → (∀ b o, b ∉ wr → s.heap.get? b = some o → s3.heap.get? b = some o) → Q s3) →
    wpAny K.M K.A (pyNext it) (fun r s1 => match r with
      | none => Q s1
      | some _ => False) E s
  st : ∀ (i : Nat) (g2 : Sg) (W2 W3 : List Addr) (s s' : Shared), St i s.heap → OR K (W0 ++ (X ++ wr)) W2 g2 s → Fra (W1 ++ (X ++ wr)) (W2 ++ (X ++ wr)) s2 s → Fra W2 W3 s s' → St i s'.heap
  stX : ∀ (i : Nat) (h h' : Heap), St i h → (∀ b o, b ∉ X → h.get? b = some o → h'.get? b = some o) → St i h'
  self : ∀ i (s : Shared) (Q : Value → Shared → Prop) (E : Value → Shared → Prop), St i s.heap → Q it s → wpAny K.M K.A (pyIter it) Q E s
  apart : ∀ b ∈ X, b ∉ wr

structure Core (K : Fm) (W0 W1 X wr fp : List Addr) (s2 : Shared) (St : Nat → Heap → Prop) : Prop where
  new : ∀ a ∈ X ++ wr, K.s0.heap.get? a = none
  off0 : ∀ a ∈ W0, a ∉ X ++ wr
  there : ∀ b ∈ fp, ∃ o, s2.heap.get? b = some o ∧ Solid o
  off1 : ∀ b ∈ fp, b ∉ W1
  offX : ∀ b ∈ fp, b ∉ X
  sub : ∀ b ∈ wr, b ∈ fp
  live : ∀ i h, St i h → ∀ b ∈ wr, ∃ o, h.get? b = some o ∧ Solid o
theorem Core.st {X fp : List Addr} {St : Nat → Heap → Prop} (c : Core K W0 W1 X wr fp s2 St) (frame : ∀ i h h', St i h → (∀ b ∈ fp, ∀ o, h.get? b = some o → h'.get? b = some o) → St i h')
    {i : Nat} {g2 : Sg} {W3 : List Addr} {sa sb : Shared} (h : St i sa.heap) (r : OR K (W0 ++ (X ++ wr)) W2 g2 sa) (fa : Fra (W1 ++ (X ++ wr)) (W2 ++ (X ++ wr)) s2 sa) (fb : Fra W2 W3 sa sb) : St i sb.heap := by
  refine frame i _ _ h fun b hb o e => ?_
  by_cases hw : b ∈ wr
  · obtain ⟨o', e', so⟩ := c.live i _ h b hw
    rw [e] at e'; cases e'
    exact fb.keep b o (fun hm => (r.seg.lists b hm).1 (List.mem_append_right _ (List.mem_append_right _ hw))) so e
  · obtain ⟨o', e', so⟩ := c.there b hb
    have hb1 : b ∉ W1 ++ (X ++ wr) := fun hm => (List.mem_append.mp hm).elim (c.off1 b hb) fun q => (List.mem_append.mp q).elim (c.offX b hb) hw
    have e2 := fa.keep b o' hb1 so e'
    rw [e] at e2; cases e2
    refine fb.keep b o (fun hm => ?_) so e
    rcases fa.new b (List.mem_append_left _ hm) with q | q
    · exact hb1 q
    · rw [q] at e'; cases e'
theorem Src.core {fp : List Addr} {St : Nat → Heap → Prop} (r0 : OR K W0 W1 g s) (st : Step K.fr s s2) (sr : Src (W0 ++ W1) s s2 fp wr St) (sub : ∀ b ∈ wr, b ∈ fp) : Core K W0 W1 [] wr fp s2 St where
  new := fun a ha => r0.rel.kept.fresh (sr.new a ha)
  off0 := fun a ha hw => by
    obtain ⟨o, e⟩ := r0.rel.off a (List.mem_append_left _ ha)
    rw [sr.new a hw] at e; cases e
  there := sr.there
  off1 := fun b hb hm => by
    obtain ⟨_, vs, n, el⟩ := r0.seg.lists b hm
    exact sr.lists b hb vs n (st.kf.solid (.inl ⟨_, _, rfl⟩) el) (List.mem_append_right _ hm)
  offX := fun b _ h => nomatch h
  sub := sub
  live := sr.live
theorem Core.drawn {X fp : List Addr} {St : Nat → Heap → Prop} (c : Core K W0 W1 X wr fp s2 St) {g1 : Sg} {sa : Shared} {h' : Heap} {tk : Nat} {i j : Nat} (r : OR K (W0 ++ (X ++ wr)) W2 g1 sa) (hst : St i sa.heap) (hst' : St j h')
    (hX : ∀ b ∈ X, ∃ o, sa.heap.get? b = some o ∧ Solid o) (hk : ∀ b o, b ∉ wr → sa.heap.get? b = some o → h'.get? b = some o) :
    OR K (W0 ++ (X ++ wr)) W2 g1 { sa with heap := h', toks := tk } ∧ Fra (W2 ++ (X ++ wr)) (W2 ++ (X ++ wr)) sa { sa with heap := h', toks := tk } := by
  have hXw : ∀ b ∈ X, b ∉ wr := fun b hb hw => c.offX b (c.sub b hw) hb
  have hso : ∀ a ∈ X ++ wr, ∃ o, sa.heap.get? a = some o ∧ Solid o := fun a ha => (List.mem_append.mp ha).elim (hX a) (c.live i _ hst a)
  have offK : OffK K (X ++ wr) := offK_of r.rel hso
  refine ⟨r.turn offK (solid_noTab hso) c.new ⟨_, _, rfl⟩ (fun b o hb e => hk b o (fun q => hb (List.mem_append_right _ q)) e) fun a ha => ?_, ⟨fun b o hb _ e => hk b o (fun hm => hb (List.mem_append_right _ (List.mem_append_right _ hm))) e, fun b o e => ?_, fun a ha => .inl ha⟩⟩
  · rcases List.mem_append.mp ha with q | q
    · exact let ⟨o, e, _⟩ := hX a q; ⟨o, hk a o (hXw a q) e⟩
    · exact let ⟨o, e, _⟩ := c.live _ _ hst' a q; ⟨o, e⟩
  · by_cases hw : b ∈ wr
    · exact let ⟨o, e, _⟩ := c.live _ _ hst' b hw; ⟨o, e⟩
    · exact ⟨o, hk b o hw e⟩
theorem Core.ended {X fp : List Addr} {St : Nat → Heap → Prop} (c : Core K W0 W1 X wr fp s2 St) {g1 : Sg} {sa : Shared} {h' : Heap} {tk : Nat} {i : Nat} (r : OR K (W0 ++ (X ++ wr)) W2 g1 sa) (hst : St i sa.heap)
    (hX : ∀ b ∈ X, ∃ o, sa.heap.get? b = some o ∧ Solid o) (hk : ∀ b o, b ∉ wr → sa.heap.get? b = some o → h'.get? b = some o) : OR K W0 W2 g1 { sa with heap := h', toks := tk } :=
  r.turnOff (offK_of r.rel fun a ha => (List.mem_append.mp ha).elim (hX a) (c.live i _ hst a)) (solid_noTab fun a ha => (List.mem_append.mp ha).elim (hX a) (c.live i _ hst a)) c.new c.off0 ⟨_, _, rfl⟩ fun b o hb e => hk b o (fun q => hb (List.mem_append_right _ q)) e

theorem tk_one {ds : List D} {x : Str} {px : Pos} {I : Addr} {X fp : List Addr} {Pv : Nat → Value → Prop} {St : Nat → Heap → Prop} (c : Core K W0 W1 X wr fp s2 St) (W : Walks K.G.prog K.G.w K.A I fp wr ds.length Pv St) (hx : Storable K x)
    (items : ∀ i v, i < ds.length → Pv i v → ∃ d as, ds[i]? = some d ∧ Rd (W0 ++ (W1 ++ (X ++ wr))) s2.heap v d as) :
    Tk K W0 W1 X wr s2 (.Name x px) (.ref I) ds.length St (fun i g1 g2 => ∃ d, ds[i]? = some d ∧ PutS g1 x (.fz d) g2) := by
  have hXw : ∀ b ∈ X, b ∉ wr := fun b hb hw => c.offX b (c.sub b hw) hb
  refine ⟨?_, ?_, ?_, ?_, W.self, hXw⟩
  · intro i g1 g2 W2 sa Q E hi hp r hst fa hX k
    obtain ⟨d, hd, p⟩ := hp
    refine W.item i sa _ E hi hst fun v h' tk hP hst' hk => ?_
    obtain ⟨r3, f3⟩ := c.drawn (tk := tk) r hst hst' hX hk
    obtain ⟨d', as, hd', rd⟩ := items i v hi hP
    rw [hd] at hd'; cases hd'
    have rd3 : Rd ((W0 ++ (X ++ wr)) ++ W2) ({ sa with heap := h', toks := tk } : Shared).heap v d as :=
      (rd.fra (fa.trans f3)).sub fun a ha => by simp only [List.mem_append] at ha ⊢; rcases ha with (h | h | h) | h <;> simp [h]
    refine wpAny_pure (wpAny_assign_Name (store_sg r3.rel r3.seg r3.nd r3.nw p hx as rd3 fun s4 W3 r4 sol liv n3 _ => ?_))
    have n3' : ∀ a ∈ W3, a ∈ W2 := fun a ha => (n3 a ha).elim id fun q => by obtain ⟨_, _, e⟩ := q; cases e
    have f4 : Fra (W2 ++ (X ++ wr)) (W3 ++ (X ++ wr)) { sa with heap := h', toks := tk } s4 := ⟨fun b o _ so e => sol b o so e, liv, fun a ha => (List.mem_append.mp ha).elim (fun q => .inl (List.mem_append_left _ (n3' a q))) fun q => .inl (List.mem_append_right _ q)⟩
    have hst4 : St (i + 1) s4.heap := c.st W.frame hst' r3 (fa.trans f3) (W3 := W2) ⟨fun b o _ so e => sol b o so e, liv, fun a ha => .inl ha⟩
    refine k s4 W3 r4 hst4 n3' (f3.trans f4) (fun b hb o e => ?_) fun b o hb so e => sol b o so (hk b o hb e)
    obtain ⟨o', e', so⟩ := hX b hb
    rw [e] at e'; cases e'
    exact sol b o so (hk b o (hXw b hb) e)
  · intro g1 W2 sa Q E r hst hX k
    refine W.done sa _ E hst fun h' tk hk => ?_
    exact k _ (c.ended r hst hX hk) hk
  · intro i g2 W2 W3 sa sb h r fa fb
    exact c.st W.frame h r fa fb
  · intro i h h' hst hk
    exact W.frame i h h' hst fun b hb o e => hk b o (c.offX b hb) e
theorem tk1 {ds : List D} {x : Str} {px : Pos} {it : Value} (r0 : OR K W0 W1 g s) (hx : Storable K x) (h : Iter1 K (W0 ++ W1) s ds it s2) :
    ∃ wr St, Tk K W0 W1 [] wr s2 (.Name x px) it ds.length St (fun i g1 g2 => ∃ d, ds[i]? = some d ∧ PutS g1 x (.fz d) g2) ∧ St 0 s2.heap ∧ OR K (W0 ++ wr) W1 g s2 ∧ Step K.fr s s2 ∧ ∀ a ∈ wr, s.heap.get? a = none := by
  obtain ⟨st, I, fp, wr, Pv, St, rfl, W, st0, sr, items⟩ := h
  have live0 : ∀ a ∈ wr, ∃ o, s2.heap.get? a = some o := fun a ha => let ⟨o, e, _⟩ := sr.live 0 _ st0 a ha; ⟨o, e⟩
  exact ⟨wr, St, tk_one (Src.core r0 st sr W.sub) W hx fun i v hi hP => let ⟨d, as, a, b⟩ := items i v hi hP; ⟨d, as, a, by rw [List.nil_append, ← List.append_assoc]; exact b⟩, st0, r0.inner st sr.new live0, st, sr.new⟩
end

def SrcS (K : Fm) (g : Sg) (e : Expr) (target : Expr) (n : Nat) (put : Nat → Sg → Sg → Prop) : Prop :=
  ∀ W0 W1 s, OR K W0 W1 g s → ∀ E, wpAny K.M K.A (eval e K.env) (fun x s1 => wpAny K.M K.A (pyIter x) (fun it s2 => ∃ wr St, Tk K W0 W1 [] wr s2 target it n St put ∧ St 0 s2.heap ∧ OR K (W0 ++ wr) W1 g s2 ∧ Step K.fr s s2 ∧ ∀ a ∈ wr, s.heap.get? a = none) E s1) E s

def TurnF (K : Fm) (rest : List Stmt) (P : Out → Prop) (I : Sg → Prop) : Out → Prop
  | .next g' => I g'
  | .cont g' => I g'
  | .brk g' => SX K g' rest P
  | .ret d f => P (.ret d f)

theorem Got.outer {K : Fm} {W0 wr : List Addr} {s s' : Shared} {d : D} {f : Bool} {v : Value} (h : Got K (W0 ++ wr) s d f v s') : Got K W0 s d f v s' :=
  let ⟨st, as, q1, q2⟩ := h; ⟨st, as, q1.sub fun a ha => List.mem_append_left _ ha, q2⟩

inductive FInv (K : Fm) (W0 W1 wr : List Addr) (s2 : Shared) (n : Nat) (J : Nat → Sg → Prop) (St : Nat → Heap → Prop) (k : Nat) (s' : Shared) : Prop
  | mk (i : Nat) (g1 : Sg) (W2 : List Addr) : k = n + 1 - i → i ≤ n → J i g1 → OR K (W0 ++ wr) W2 g1 s' → St i s'.heap → Fra (W1 ++ wr) (W2 ++ wr) s2 s' → FInv K W0 W1 wr s2 n J St k s'
theorem sx_for {K : Fm} {g : Sg} {e target : Expr} {body rest : List Stmt} {pos : Pos} {P : Out → Prop} {n : Nat} {put : Nat → Sg → Sg → Prop} (src : SrcS K g e target n put) (hs : ∀ x, foldedSetIterable e K.env x = pure x) (J : Nat → Sg → Prop) (h0 : J 0 g)
    (step : ∀ i g1, i < n → J i g1 → ∃ g2, put i g1 g2 ∧ SX K g2 body (TurnF K rest P (J (i + 1)))) (fin : ∀ g', J n g' → SX K g' rest P) : SX K g (.For target e body [] pos :: rest) P := sx_cons fun W0 W1 s r E => by
  refine wpAny_For (wpAny_mono (src W0 W1 s r E) (fun x s1 h1 => wpAny_mono h1 (fun it s2 h2 => ?_) fun _ _ q => q) fun _ _ q => q) hs
  obtain ⟨wr, St, tk, st0, r2, st, new⟩ := h2
  refine codeAny_forLoop_any (fun k s' => FInv K W0 W1 wr s2 n J St k s') ?_ (n + 1) ⟨0, g, W1, rfl, Nat.zero_le _, h0, r2, st0, .refl _ _⟩
  rintro k s3 ⟨i, g1, W2, rfl, hi, hJ, r3, hst, fa⟩
  /- what has been kept since the loop's start -/
  have total : ∀ {W4 : List Addr} {s4 : Shared}, Fra (W1 ++ wr) (W4 ++ wr) s2 s4 → Fra W1 W4 s s4 := fun f =>
    { keep := fun b o hb so e => f.keep b o (fun hm => (List.mem_append.mp hm).elim hb fun q => by rw [new b q] at e; cases e) so (st.kf.solid so e)
      live := fun b o e => let ⟨o', e'⟩ := st.kf.live e; f.live b o' e'
      new := fun a ha => by
        rcases f.new a (List.mem_append_left _ ha) with q | q
        · exact (List.mem_append.mp q).imp id (new a)
        · exact .inr (st.kf.fresh q) }
  by_cases hlt : i < n
  · obtain ⟨g2, hp, hb⟩ := step i g1 hlt hJ
    refine wpAny_mono (tk.item i g1 g2 W2 s3 (fun s4 => wpAny K.M K.A (execs body K.env) (fun f s5 => match f with
            | .next | .cont => ∃ m, m < n + 1 - i ∧ FInv K W0 W1 wr s2 n J St m s5
            | .brk => Ends K W0 W1 s (Seq K rest P) .next s5
            | .ret v => Ends K W0 W1 s (Seq K rest P) (.ret v) s5) (notedBy K.M K.A K.env fun e s' => cameBackBy K.M K.A K.env E e s') s4) (notedBy K.M K.A K.env fun e s' => cameBackBy K.M K.A K.env E e s') hlt hp r3 hst fa (fun b hb => nomatch hb) fun s4 W3 r4 hst4 sub fb _ _ => ?_) (fun r s4 hq => ?_) fun _ _ q => q
    rotate_left
    · cases r with
      | none => exact hq.elim
      | some v => exact hq
    refine wpAny_mono (hb (W0 ++ wr) W3 s4 r4 _) (fun f s5 hq => ?_) fun _ _ q => q
    obtain ⟨o, a, W4, b, c⟩ := hq
    have f4 := fa.trans fb
    have f5 : Fra (W3 ++ wr) (W4 ++ wr) s4 s5 := ⟨fun b o hb so e => c.keep b o (fun hm => hb (List.mem_append_left _ hm)) so e, c.live, fun a ha => (List.mem_append.mp ha).elim (fun q => (c.new a q).imp (List.mem_append_left _) id) fun q => .inl (List.mem_append_right _ q)⟩
    have hst5 : St (i + 1) s5.heap := tk.st (i + 1) g2 W3 W4 s4 s5 hst4 r4 f4 c
    cases f with
    | next => cases o <;> first | exact ⟨n + 1 - (i + 1), turn_lt hlt, i + 1, _, W4, rfl, hlt, a, b, hst5, f4.trans f5⟩ | exact absurd b id
    | cont => cases o <;> first | exact ⟨n + 1 - (i + 1), turn_lt hlt, i + 1, _, W4, rfl, hlt, a, b, hst5, f4.trans f5⟩ | exact absurd b id
    | brk => cases o <;> first | exact ⟨.next _, a, W4, OR.outer b, total (f4.trans f5)⟩ | exact absurd b id
    | ret v => cases o <;> first | exact ⟨.ret _ _, a, W4, Got.outer b, total (f4.trans f5)⟩ | exact absurd b id
  · obtain rfl : i = n := by lia
    refine wpAny_mono (tk.done g1 W2 s3 (fun s4 => Ends K W0 W1 s (Seq K rest P) .next s4) _ r3 hst (fun b hb => nomatch hb) fun s4 r4 hk => ?_) (fun r s4 hq => ?_) fun _ _ q => q
    · refine ⟨.next g1, fin g1 hJ, W2, r4, ?_⟩
      refine { keep := fun b o hb so e => ?_, live := fun b o e => ?_, new := (total fa).new }
      · exact hk b o (fun q => by rw [new b q] at e; cases e) ((total fa).keep b o hb so e)
      · obtain ⟨o', e'⟩ := (total fa).live b o e
        exact ⟨o', hk b o' (fun q => by rw [new b q] at e; cases e) e'⟩
    · cases r with
      | none => exact wpAny_execs_nil hq
      | some v => exact hq.elim

theorem src_it {K : Fm} {g : Sg} {e : Expr} {x : Str} {px : Pos} {ds : List D} (h : IT K (frozOf g) e ds) (hx : Storable K x) : SrcS K g e (.Name x px) ds.length (fun i g1 g2 => ∃ d, ds[i]? = some d ∧ PutS g1 x (.fz d) g2) := fun W0 W1 s r E =>
  wpAny_mono (h (W0 ++ W1) s r.rel E) (fun x s1 h1 => wpAny_mono h1 (fun it s2 h2 => tk1 r hx h2) fun _ _ q => q) fun _ _ q => q
end Mine
end

section
set_option autoImplicit false
namespace Mine
open PySem

def rangeD (a b : Int) : List D := (List.range (b - a).toNat).map fun (i : Nat) => PyData.int (a + i)
theorem rangeD_len {a b : Int} : (rangeD a b).length = (b - a).toNat := by simp [rangeD]
theorem rangeD_get {a b : Int} {i : Nat} (h : i < (b - a).toNat) : (rangeD a b)[i]? = some (.int (a + i)) := by simp [rangeD, h]
def ITany (K : Fm) (rho : List (Str × Option D)) (e : Expr) (ds : List D) : Prop :=
  ∀ W s, Rel K rho W s → ∀ W', (∀ a ∈ W', ∃ o, s.heap.get? a = some o) → ∀ E, wpAny K.M K.A (eval e K.env) (fun x s1 => wpAny K.M K.A (pyIter x) (Iter1 K W' s ds) E s1) E s
theorem ITany.it {K : Fm} {rho : List (Str × Option D)} {e : Expr} {ds : List D} (h : ITany K rho e ds) : IT K rho e ds := fun W s R E => h W s R W R.off E
theorem src_any {K : Fm} {g : Sg} {e : Expr} {x : Str} {px : Pos} {ds : List D} (h : ITany K (fullOf g) e ds) (hx : Storable K x) : SrcS K g e (.Name x px) ds.length (fun i g1 g2 => ∃ d, ds[i]? = some d ∧ PutS g1 x (.fz d) g2) := fun W0 W1 s r E =>
  wpAny_mono (h W0 s r.full (W0 ++ W1) r.rel.off E) (fun x s1 h1 => wpAny_mono h1 (fun it s2 h2 => tk1 r hx h2) fun _ _ q => q) fun _ _ q => q

section
variable {K : Fm} {rho : List (Str × Option D)} {e e2 : Expr} {ds es : List D} {f g : Bool} {np pos : Pos}

theorem range_iter1 (hh : K.A.handled = none) {W : List Addr} {s s1 : Shared} {E : Value → Shared → Prop} {a b : Int} {r : Addr} {t u v : Tok} (st : Step K.fr s s1) (hr : IsRange s1.heap r a b 1 t u v)
    (ha : -(2 ^ 62) ≤ a ∧ a < 2 ^ 62) (hb : -(2 ^ 62) ≤ b ∧ b < 2 ^ 62) (off : ∀ c ∈ W, ∃ o, s1.heap.get? c = some o) : wpAny K.M K.A (pyIter (.ref r)) (Iter1 K W s (rangeD a b)) E s1 := by
  have hsz : Builtin.Range.rangeSize a b 1 = ((b - a).toNat : Int) := by rw [rangeSize_one]; split <;> lia
  have hlen := rangeD_len (a := a) (b := b)
  refine wpAny_pyIter_range hr (small_one ha.1 ha.2 hb.1 hb.2) ?_
  refine ⟨st.trans (step_push s1 _), s1.heap.objs.size, [s1.heap.objs.size], [s1.heap.objs.size], _, _, rfl, Walks.range hh s1.heap.objs.size a 1 (rangeD a b).length, ?_, ⟨?_, ?_, ?_, ?_⟩, ?_⟩
  · have e1 : (a + ((0 : Nat) : Int) * 1) = a := by simp
    have e2 : (((rangeD a b).length : Int) - ((0 : Nat) : Int)) = Builtin.Range.rangeSize a b 1 := by rw [hsz, hlen]; simp
    show IsRangeIter _ _ (a + ((0 : Nat) : Int) * 1) (((rangeD a b).length : Int) - ((0 : Nat) : Int)) 1
    rw [e1, e2]
    exact Heap.get?_push_size _ rfl
  · intro b hb; obtain rfl := List.mem_singleton.mp hb; exact fresh_push st
  · intro b hb; obtain rfl := List.mem_singleton.mp hb; exact ⟨_, Heap.get?_push_size _ rfl, solid_ty rfl rfl (by decide)⟩
  · intro b hb vs' n' eb; obtain rfl := List.mem_singleton.mp hb; exact off_size off
  · intro i h' st' b hb; obtain rfl := List.mem_singleton.mp hb; exact ⟨_, st', solid_ty rfl rfl (by decide)⟩
  · rintro i v hi ⟨t, rfl⟩
    rw [hlen] at hi
    refine ⟨_, [], rangeD_get hi, ?_⟩
    rw [Int.mul_one]
    exact .int _ _

theorem range_name : (Str.ofString "range") ∈ bnames := by decide +kernel
theorem it_range1 (hh : K.A.handled = none) {b : Int} (hx : K.sc.names.lookup (Str.ofString "range") = some .globalImplicit) (h : EV K rho e (.int b) f) (hn : noStar e = true) (hb : -(2 ^ 62) ≤ b ∧ b < 2 ^ 62) : ITany K rho (.Call (.Name "range" np) [e] [] pos) (rangeD 0 b) := fun W s R W' off E => by
  rw [eval_Call_plain rfl]
  refine wpAny_bind (load_builtin R hx range_name PyProof.Rows.Boot.«range» (bname_ok range_name).1 (bname_ok range_name).2 ?_)
  refine callWith_flat rfl (by rw [List.all_cons, hn]; rfl) (wpAny_items_cons (h.bind R fun v s1 R1 g1 => wpAny_items_nil ?_) (starEach_cons hn))
  obtain ⟨st, as, q1, _⟩ := g1
  obtain ⟨t, rfl, _⟩ := q1.int_inv
  refine call_range_1 (range_iter1 hh (st.trans (Step.of_keeps fun b o e => Heap.get?_push_of_some _ e)) (IsRange.new _ _ _ _ _ _ _) (by decide) hb fun c hc => ?_)
  obtain ⟨o, e'⟩ := off_step st off c hc
  exact ⟨o, Heap.get?_push_of_some _ e'⟩
theorem assign_two {W0 W1 : List Addr} {g g1 g2 : Sg} {s : Shared} {T : Addr} {v1 v2 : Value} {d1 d2 : D} {as bs : List Addr} {x y : Str} {px py tp : Pos} {k : Nat} {Q : Unit → Shared → Prop} {E : Value → Shared → Prop} (hh : K.A.handled = none)
    (r : OR K W0 W1 g s) (ht : s.heap.IsTuple T #[v1, v2]) (q1 : Rd (W0 ++ W1) s.heap v1 d1 as) (q2 : Rd (W0 ++ W1) s.heap v2 d2 bs) (hx : Storable K x) (hy : Storable K y) (p1 : PutS g x (.fz d1) g1) (p2 : PutS g1 y (.fz d2) g2)
    (kk : ∀ s' W1', OR K W0 W1' g2 s' → (∀ b o, Solid o → s.heap.get? b = some o → s'.heap.get? b = some o) → (∀ b o, s.heap.get? b = some o → ∃ o', s'.heap.get? b = some o') → (∀ a ∈ W1', a ∈ W1) → Q () s') :
    wpAny K.M K.A (assign (.Tuple [.Name x px, .Name y py] k tp) K.env (.ref T)) Q E s := by
  refine wpAny_assign_Tuple hh ht rfl rfl fun h' hk => ?_
  have keep : ∀ b o, s.heap.get? b = some o → h'.get? b = some o := fun b o e => hk b o (Nat.ne_of_lt (Heap.lt_size e)) e
  have st : Step K.fr s { s with heap := h' } := ⟨⟨_, _, rfl⟩, .of_keeps keep⟩
  have r1 := r.step st
  show wpAny K.M K.A (assignInOrder [assign (.Name x px) K.env, assign (.Name y py) K.env] [v1, v2]) Q E _
  refine wpAny_assignInOrder_more (wpAny_assign_Name (store_sg r1.rel r1.seg r1.nd r1.nw p1 hx as (q1.kf st.kf) fun s2 W2 r2 sol liv n2 _ => ?_))
  have n2' : ∀ a ∈ W2, a ∈ W1 := fun a ha => (n2 a ha).elim id fun q => by obtain ⟨_, _, e⟩ := q; cases e
  have f2 : Fra W1 W2 ({ s with heap := h' } : Shared) s2 := ⟨fun b o _ so e => sol b o so e, liv, fun a ha => .inl (n2' a ha)⟩
  refine wpAny_assignInOrder_more (wpAny_assign_Name (store_sg r2.rel r2.seg r2.nd r2.nw p2 hy bs ((q2.kf st.kf).fra f2) fun s3 W3 r3 sol3 liv3 n3 _ => wpAny_assignInOrder_none ?_))
  refine kk s3 W3 r3 (fun b o so e => sol3 b o so (sol b o so (keep b o e))) (fun b o e => let ⟨o', e'⟩ := liv b o (keep b o e); liv3 b o' e') fun a ha => (n3 a ha).elim (n2' a) fun q => by obtain ⟨_, _, e⟩ := q; cases e

theorem tk_two {W0 W1 X wr fp : List Addr} {s2 : Shared} {ps : List (D × D)} {x y : Str} {px py tp : Pos} {k : Nat} {I : Addr} {Pt : Nat → Array Value → Prop} {St : Nat → Heap → Prop} {Mid : Nat → Addr → Heap → Prop} (hh : K.A.handled = none) (c : Core K W0 W1 X wr fp s2 St)
    (W : WalksU K.G.prog K.G.w K.A I fp wr ps.length Pt St Mid) (hx : Storable K x) (hy : Storable K y)
    (items : ∀ i vals, i < ps.length → Pt i vals → ∃ v1 v2 d1 d2 as bs, vals = #[v1, v2] ∧ ps[i]? = some (d1, d2) ∧ Rd (W0 ++ (W1 ++ (X ++ wr))) s2.heap v1 d1 as ∧ Rd (W0 ++ (W1 ++ (X ++ wr))) s2.heap v2 d2 bs) :
    Tk K W0 W1 X wr s2 (.Tuple [.Name x px, .Name y py] k tp) (.ref I) ps.length St (fun i g1 g2 => ∃ d1 d2 gm, ps[i]? = some (d1, d2) ∧ PutS g1 x (.fz d1) gm ∧ PutS gm y (.fz d2) g2) := by
  have hXw : ∀ b ∈ X, b ∉ wr := fun b hb hw => c.offX b (c.sub b hw) hb
  refine ⟨?_, ?_, ?_, ?_, W.self, hXw⟩
  · intro i g1 g2 W2 sa Q E hi hp r hst fa hX kk
    obtain ⟨d1, d2, gm, hd, p1, p2⟩ := hp
    refine W.item i sa _ E hi hst fun T vals h' tk hP hT hMid hk => ?_
    refine W.go _ _ _ i T _ _ E hMid fun h'' hst' hk' => ?_
    have hkk : ∀ b o, b ∉ wr → sa.heap.get? b = some o → h''.get? b = some o := fun b o hb e => hk' b o hb (hk b o hb e)
    have hT' : h''.IsTuple T vals := by
      obtain ⟨o, e, q⟩ := hT
      exact ⟨o, hk' T o (W.apart i T _ hMid) e, q⟩
    obtain ⟨r3, f3⟩ := c.drawn (tk := tk) r hst hst' hX hkk
    obtain ⟨v1, v2, e1, e2, as, bs, rfl, hd', rd1, rd2⟩ := items i vals hi hP
    rw [hd] at hd'; cases hd'
    have turn : ∀ {v : Value} {d : D} {as : List Addr}, Rd (W0 ++ (W1 ++ (X ++ wr))) s2.heap v d as → Rd ((W0 ++ (X ++ wr)) ++ W2) ({ sa with heap := h'', toks := tk } : Shared).heap v d as := fun {v d as} rd =>
      (rd.fra (fa.trans f3)).sub fun a ha => by simp only [List.mem_append] at ha ⊢; rcases ha with (h | h | h) | h <;> simp [h]
    refine assign_two hh r3 hT' (turn rd1) (turn rd2) hx hy p1 p2 fun s4 W3 r4 sol liv n3' => ?_
    have f4 : Fra (W2 ++ (X ++ wr)) (W3 ++ (X ++ wr)) { sa with heap := h'', toks := tk } s4 := ⟨fun b o _ so e => sol b o so e, liv, fun a ha => (List.mem_append.mp ha).elim (fun q => .inl (List.mem_append_left _ (n3' a q))) fun q => .inl (List.mem_append_right _ q)⟩
    have hst4 : St (i + 1) s4.heap := c.st W.frame hst' r3 (fa.trans f3) (W3 := W2) ⟨fun b o _ so e => sol b o so e, liv, fun a ha => .inl ha⟩
    refine kk s4 W3 r4 hst4 n3' (f3.trans f4) (fun b hb o e => ?_) fun b o hb so e => sol b o so (hkk b o hb e)
    obtain ⟨o', e', so⟩ := hX b hb
    rw [e] at e'; cases e'
    exact sol b o so (hkk b o (hXw b hb) e)
  · intro g1 W2 sa Q E r hst hX k
    refine W.done sa _ E hst fun h' tk hk => ?_
    exact k _ (c.ended r hst hX hk) hk
  · intro i g2 W2 W3 sa sb h r fa fb
    exact c.st W.frame h r fa fb
  · intro i h h' hst hk
    exact W.frame i h h' hst fun b hb o e => hk b o (c.offX b hb) e
theorem tk2 {W0 W1 : List Addr} {g : Sg} {s s2 : Shared} {ps : List (D × D)} {x y : Str} {px py tp : Pos} {k : Nat} {it : Value} (hh : K.A.handled = none) (r0 : OR K W0 W1 g s) (hx : Storable K x) (hy : Storable K y) (h : Iter2 K (W0 ++ W1) s ps it s2) :
    ∃ wr St, Tk K W0 W1 [] wr s2 (.Tuple [.Name x px, .Name y py] k tp) it ps.length St (fun i g1 g2 => ∃ d1 d2 gm, ps[i]? = some (d1, d2) ∧ PutS g1 x (.fz d1) gm ∧ PutS gm y (.fz d2) g2) ∧ St 0 s2.heap ∧ OR K (W0 ++ wr) W1 g s2 ∧ Step K.fr s s2 ∧ ∀ a ∈ wr, s.heap.get? a = none := by
  obtain ⟨st, I, fp, wr, Pt, St, Mid, rfl, W, st0, sr, items⟩ := h
  have live0 : ∀ a ∈ wr, ∃ o, s2.heap.get? a = some o := fun a ha => let ⟨o, e, _⟩ := sr.live 0 _ st0 a ha; ⟨o, e⟩
  exact ⟨wr, St, tk_two hh (Src.core r0 st sr W.sub) W hx hy fun i v hi hP => let ⟨v1, v2, d1, d2, as, bs, a, b, c, d⟩ := items i v hi hP; ⟨v1, v2, d1, d2, as, bs, a, b, by rw [List.nil_append, ← List.append_assoc]; exact c, by rw [List.nil_append, ← List.append_assoc]; exact d⟩, st0, r0.inner st sr.new live0, st, sr.new⟩
theorem src_it2 {g : Sg} {x y : Str} {px py tp : Pos} {k : Nat} {ps : List (D × D)} (hh : K.A.handled = none) (h : IT2 K (frozOf g) e ps) (hx : Storable K x) (hy : Storable K y) :
    SrcS K g e (.Tuple [.Name x px, .Name y py] k tp) ps.length (fun i g1 g2 => ∃ d1 d2 gm, ps[i]? = some (d1, d2) ∧ PutS g1 x (.fz d1) gm ∧ PutS gm y (.fz d2) g2) := fun W0 W1 s r E =>
  wpAny_mono (h (W0 ++ W1) s r.rel E) (fun x s1 h1 => wpAny_mono h1 (fun it s2 h2 => tk2 hh r hx hy h2) fun _ _ q => q) fun _ _ q => q
end
end Mine
end

section
set_option autoImplicit false
namespace Mine
open PySem

def enumD (ds : List D) : List (D × D) := (List.range ds.length).zipWith (fun (i : Nat) d => (PyData.int i, d)) ds
theorem enumD_len {ds : List D} : (enumD ds).length = ds.length := by simp [enumD]
theorem enumD_get {ds : List D} {i : Nat} {d : D} (h : ds[i]? = some d) : (enumD ds)[i]? = some (.int i, d) := by
  have hi : i < ds.length := (List.getElem?_eq_some_iff.mp h).1
  obtain ⟨_, rfl⟩ := List.getElem?_eq_some_iff.mp h
  simp [enumD, hi]

section
variable {K : Fm} {rho : List (Str × Option D)} {e e2 : Expr} {ds es : List D} {f g : Bool} {np pos : Pos}

theorem iter2_enum {W : List Addr} {s s1 : Shared} {i l c : Addr} {vs : List Value} {h' : Heap} {St : Nat → Heap → Prop} {bs : List Addr} (st : Step K.fr s s1) (N : Nxt K.G.prog K.G.w K.A.in1 i [i, l] vs.toArray St)
    (he : IsEnum h' c i 0 .none) (h0 : St 0 h') (hk : ∀ b o, s1.heap.get? b = some o → h'.get? b = some o) (hi : s1.heap.get? i = none) (hc : s1.heap.get? c = none) (hci : c ≠ i) (hl : ∃ o, s1.heap.get? l = some o ∧ Solid o)
    (hlW : ∀ ws n, h'.get? l = some (listO ws n) → l ∉ W) (off : ∀ a ∈ W, ∃ o, s1.heap.get? a = some o) (sol : ∀ k h, St k h → ∃ o, h.get? i = some o ∧ Solid o) (rd : RdAll W s1.heap vs ds bs) : Iter2 K W s (enumD ds) (.ref c) { s1 with heap := h' } := by
  have hlen : vs.toArray.size = (enumD ds).length := by rw [enumD_len, List.size_toArray]; exact rd.length
  obtain ⟨ol, hl1, hl2⟩ := hl
  have hcl : c ≠ l := fun e => by rw [e, hl1] at hc; cases hc
  refine ⟨st.trans ⟨⟨_, _, rfl⟩, .of_keeps hk⟩, c, _, [c, i], _, _, _, rfl, (hlen ▸ WalksT.enumN N (by simp [hci, hcl])).toU, ⟨⟨_, he⟩, h0⟩, ⟨?_, ?_, ?_, ?_⟩, ?_⟩
  · intro b hb
    simp only [List.mem_cons, List.not_mem_nil, or_false] at hb
    rcases hb with rfl | rfl
    · exact st.kf.fresh hc
    · exact st.kf.fresh hi
  · intro b hb
    simp only [List.mem_cons, List.not_mem_nil, or_false] at hb
    rcases hb with rfl | rfl | rfl
    · exact ⟨_, he, solid_ty rfl rfl (by decide)⟩
    · exact sol 0 _ h0
    · exact ⟨ol, hk _ _ hl1, hl2⟩
  · intro b hb ws n eb
    simp only [List.mem_cons, List.not_mem_nil, or_false] at hb
    rcases hb with rfl | rfl | rfl
    · exact off_fresh off hc
    · exact off_fresh off hi
    · exact hlW ws n eb
  · rintro k h ⟨⟨old, q1⟩, q2⟩ b hb
    simp only [List.mem_cons, List.not_mem_nil, or_false] at hb
    rcases hb with rfl | rfl
    · exact ⟨_, q1, solid_ty rfl rfl (by decide)⟩
    · exact sol _ _ q2
  · rintro k vals hlt ⟨t, x, hx, rfl⟩
    obtain ⟨d, cs, e1, e2, _⟩ := rd.getv k x (by simpa using hx)
    refine ⟨_, _, _, _, [], cs, rfl, enumD_get e1, .int _ _, ?_⟩
    refine (e2.ext (W' := [c, i]) fun a ha => ?_).kf (fr := []) (.of_keeps hk)
    simp only [List.mem_cons, List.not_mem_nil, or_false] at ha
    rcases ha with rfl | rfl
    · exact hc
    · exact hi

theorem enum_name : (Str.ofString "enumerate") ∈ bnames := by decide +kernel
theorem gone {h : Heap} {n : Nat} : h.get? (h.objs.size + n) = none := Heap.get?_none_of_le (Nat.le_add_right _ _)
theorem it2_enum_tuple (hh : K.A.handled = none) (hx : K.sc.names.lookup (Str.ofString "enumerate") = some .globalImplicit) (h : EV K rho e (.tuple ds) f) (hn : noStar e = true) : IT2 K rho (.Call (.Name "enumerate" np) [e] [] pos) (enumD ds) := fun W s R E => by
  rw [eval_Call_plain rfl]
  refine wpAny_bind (load_builtin R hx enum_name PyProof.Rows.Boot.«enumerate» (bname_ok enum_name).1 (bname_ok enum_name).2 ?_)
  refine callWith_flat rfl (by rw [List.all_cons, hn]; rfl) (wpAny_items_cons (h.bind R fun v s1 R1 g1 => wpAny_items_nil ?_) (starEach_cons hn))
  obtain ⟨st, as, q1, _⟩ := g1
  obtain ⟨l, vs, n, rfl, ho, hr, hlW⟩ := q1.tuple_inv
  refine call_enum_tuple ho fun h' he hit hsz hk => ?_
  have N := Nxt.tuple (prog := K.G.prog) (w := K.G.w) (A := K.A.in1) hh s1.heap.objs.size l (Nat.ne_of_lt (Heap.lt_size ho)) vs.toArray
  have i2 := iter2_enum st N he ⟨hit, Heap.IsTuple.at (isTup_of ho) fun o e => hk _ o e⟩ hk (get?_size _) gone (Nat.ne_of_gt (Nat.lt_succ_self _)) ⟨_, ho, .inl ⟨_, _, rfl⟩⟩ (fun _ _ _ => hlW) R1.off (fun k h q => let ⟨o, e, ec, ed⟩ := q.1; ⟨o, e, solid_ty ed ec (by decide)⟩) hr
  have i2' := i2
  obtain ⟨_, I, fp, wr, Pt, St, Mid, eI, Wk, h0, _⟩ := i2'
  cases eI
  exact Wk.self 0 _ _ _ h0 i2

end
end Mine
end

section
set_option autoImplicit false
namespace Mine
open PySem

def relabelS (sc2 sc : Scope) : Scope := { sc2 with names := sc2.names.map fun (n, k) => if (k == .free && sc.names.lookup n == some .cell) then (n, .cell) else (n, k) }
theorem relabel_eq {K : Fm} (k : K.Ok) {sc2 : Scope} : relabel sc2 K.env = relabelS sc2 K.sc := by
  unfold relabel relabelS
  congr 1
  refine List.map_congr_left fun p _ => ?_
  obtain ⟨n, kd⟩ := p
  have e1 : K.env.kindOf n = K.sc.names.lookup n := k.kindOf rfl
  have e2 : (K.env.scope.kind == ScopeKind.function) = true := by rw [k.kindE]; rfl
  show (if (kd == NameKind.free && K.env.scope.kind == .function && K.env.kindOf n == some .cell) = true then _ else _) = _
  rw [e1, e2, Bool.and_true]

theorem lookup_map_kind {x : Str} {F : Str → NameKind → NameKind} : ∀ {l : List (Str × NameKind)}, (l.map fun (n, k) => (n, F n k)).lookup x = (l.lookup x).map (F x)
  | [] => rfl
  | (n, k) :: r => by
    show List.lookup x ((n, F n k) :: _) = _
    rw [List.lookup_cons, List.lookup_cons]
    cases h : x == n with
    | true => rw [beq_iff_eq.mp h]; rfl
    | false => exact lookup_map_kind
theorem relabelS_lookup {sc2 sc : Scope} {x : Str} : (relabelS sc2 sc).names.lookup x = (sc2.names.lookup x).map fun k => if (k == .free && sc.names.lookup x == some .cell) then .cell else k := by
  have := lookup_map_kind (x := x) (F := fun n k => if (k == .free && sc.names.lookup n == some .cell) then NameKind.cell else k) (l := sc2.names)
  rw [← this]
  unfold relabelS
  congr 1
  refine List.map_congr_left fun p _ => ?_
  obtain ⟨n, kd⟩ := p
  dsimp only
  split <;> rfl

def clOf (cells : List (Str × Addr)) (names : List (Str × NameKind)) : List (Str × Addr) := ((names.filter fun p => p.2 == .free).map fun p => (p.1, (cells.lookup p.1).getD 0)).reverse
theorem closure_go {env : Env} : ∀ (names : List (Str × NameKind)) (acc : List (Str × Addr)), (∀ p ∈ names, p.2 = .free → ∃ c, env.cells.lookup p.1 = some c) →
    (forIn names acc (fun (p : Str × NameKind) (r : List (Str × Addr)) => (if (p.2 == NameKind.free) = true then do let c ← cellOf env p.1; pure (ForInStep.yield ((p.1, c) :: r)) else pure (ForInStep.yield r) : Sem _))) = (pure (clOf env.cells names ++ acc) : Sem _)
  | [], acc, _ => rfl
  | (n, k) :: r, acc, h => by
    rw [List.forIn_cons]
    have ih := fun acc => closure_go r acc fun p hp => h p (List.mem_cons_of_mem _ hp)
    by_cases hk : (k == NameKind.free) = true
    · obtain ⟨c, hc⟩ := h (n, k) List.mem_cons_self (beq_iff_eq.mp hk)
      have e1 : cellOf env n = (pure c : Sem _) := by unfold cellOf; rw [hc]
      have e2 : clOf env.cells ((n, k) :: r) = clOf env.cells r ++ [(n, c)] := by
        unfold clOf
        have hf : List.filter (fun p => p.2 == NameKind.free) ((n, k) :: r) = (n, k) :: List.filter (fun p => p.2 == NameKind.free) r := by simp [hk]
        rw [hf, List.map_cons, List.reverse_cons]
        dsimp only at hc ⊢
        rw [hc]; rfl
      simp only [hk, if_true, e1, pure_bind]
      rw [ih, e2, List.append_assoc]; rfl
    · have e2 : clOf env.cells ((n, k) :: r) = clOf env.cells r := by
        unfold clOf
        have hf : List.filter (fun p => p.2 == NameKind.free) ((n, k) :: r) = List.filter (fun p => p.2 == NameKind.free) r := by simp [hk]
        rw [hf]
      simp only [hk, pure_bind]
      rw [e2]
      exact ih acc
theorem closure_eq {env : Env} {scope : Scope} (h : ∀ p ∈ scope.names, p.2 = .free → ∃ c, env.cells.lookup p.1 = some c) : closureFor scope env = pure (clOf env.cells scope.names) := by
  have := closure_go (env := env) scope.names [] h
  rw [List.append_nil] at this
  unfold closureFor
  rw [← this]
  simp only [bind_pure]

theorem cellsFrom_app : ∀ (names : List (Str × NameKind)) (n : Nat) (acc : List (Str × Addr)), cellsFrom n names acc = cellsFrom n names [] ++ acc
  | [], _, _ => rfl
  | (x, k) :: r, n, acc => by
    unfold cellsFrom
    split
    · rw [cellsFrom_app r (n + 1) ((x, n) :: acc), cellsFrom_app r (n + 1) [(x, n)], List.append_assoc]; rfl
    · exact cellsFrom_app r n acc
theorem cellsFrom_names {x : Str} : ∀ (names : List (Str × NameKind)) (n : Nat), (∃ c, (x, c) ∈ cellsFrom n names []) → (x, NameKind.cell) ∈ names
  | [], _, ⟨_, h⟩ => nomatch h
  | (y, k) :: r, n, ⟨c, h⟩ => by
    unfold cellsFrom at h
    split at h
    · rename_i hk
      rw [cellsFrom_app, List.mem_append] at h
      rcases h with h | h
      · exact List.mem_cons_of_mem _ (cellsFrom_names r (n + 1) ⟨c, h⟩)
      · cases h with
        | head => rw [show k = .cell from beq_iff_eq.mp hk]; exact List.mem_cons_self
        | tail _ h => cases h
    · exact List.mem_cons_of_mem _ (cellsFrom_names r n ⟨c, h⟩)

theorem newEnv_comp {M : Model} {A : Around} {E : Value → Shared → Prop} {s : Shared} {scope : Scope} {globals : Addr} {cl : List (Str × Addr)} {qual : Str} {outer : Env} {Q : Env → Shared → Prop}
    (h : Q { scope := scope, locals := s.heap.objs.size, globals := globals, cells := cellsFrom (s.heap.objs.size + 1) scope.names cl, qual := qual, func := none, code := outer.code, frame := outer.frame, builtins := outer.builtins }
      { s with heap := pushCells (s.heap.push { cls := .type "dict", data := .dict #[] }) scope.names }) :
    wpAny M A (newFunctionEnv scope globals cl [] qual none .none (some outer)) Q E s := by
  simp only [newFunctionEnv, Option.isSome_some, if_true]
  refine wpAny_bind (wpAny_alloc ?_)
  refine wpAny_bind (wpAny_layCells _ (fun name kind cells => by cases hkc : kind == NameKind.cell <;> simp [hkc]) _ _ _ _ ?_)
  rw [show ({ s with heap := s.heap.push { cls := .type "dict", data := .dict #[] } } : Shared).heap.objs.size = s.heap.objs.size + 1 from Heap.size_push ..]
  exact wpAny_bind (wpAny_pure (wpAny_pure h))

section
variable {prog : Program} {w : World} {A : Around} {R : Result → Shared → Prop} {s : Shared}
theorem compLoop_gen {elt target iter : Expr} {ifs : List Expr} {scope : Scope} {pos : Pos} {it acc : Value} {env : Env} (I : Nat → Shared → Prop)
    (turn : ∀ n s, I n s → wpAny (model prog w) A (pyNext it) (fun r s₁ => match r with
      | none => R (.ok .next) s₁
      | some v => wpAny (model prog w) A (letOwnedTupleGo target it v) (fun _ s₁' => wpAny (model prog w) A (assign target env v) (fun _ s₂ =>
          wpAny (model prog w) A (forIn ifs true fun c r => if r = true then do let ok ← isTrue c env (eval c env); pure (ForInStep.yield ok) else pure (ForInStep.yield r)) (fun ok s₃ =>
            if ok = true then wpAny (model prog w) A (eval elt env) (fun x s₄ =>
              wpAny (model prog w) A (call (.builtin "list.append") [acc, x]) (fun _ s₅ => ∃ m, m < n ∧ I m s₅) (notedBy (model prog w) A env fun e s' => R (.error e) s') s₄) (notedBy (model prog w) A env fun e s' => R (.error e) s') s₃
            else ∃ m, m < n ∧ I m s₃) (notedBy (model prog w) A env fun e s' => R (.error e) s') s₂) (notedBy (model prog w) A env fun e s' => R (.error e) s') s₁') (notedBy (model prog w) A env fun e s' => R (.error e) s') s₁) (notedBy (model prog w) A env fun e s' => R (.error e) s') s)
    (n : Nat) (h : I n s) : codeAny (model prog w) A (.compLoop (.ListComp elt [⟨target, iter, ifs, 0⟩] scope pos) 0 it acc env) R s := by
  refine codeAny_loop rfl I (fun n s hI => ?_) n h
  show wpAny _ A ((compTurn (.ListComp elt [⟨target, iter, ifs, 0⟩] scope pos) 0 it acc env).onRaise (fun x => do noteFrame x env; theTreesLotGoes x)) _ _ s
  refine wpAny_noted ?_
  rw [compTurn_list]
  refine wpAny_bind (wpAny_standAt (wpAny_bind (wpAny_mono (turn n s hI) (fun r s₁ h₁ => ?_) fun _ _ h' => h')))
  cases r with
  | none => exact wpAny_pure h₁
  | some v =>
    refine wpAny_bind (wpAny_mono h₁ (fun _ s₁' h₁' => ?_) fun _ _ h' => h')
    refine wpAny_bind (wpAny_mono h₁' (fun _ s₂ h₂ => wpAny_bind (wpAny_mono h₂ (fun ok s₃ h₃ => ?_) fun _ _ h' => h')) fun _ _ h' => h')
    cases ok with
    | false => exact wpAny_pure ⟨rfl, h₃⟩
    | true =>
      exact wpAny_bind (wpAny_bind (wpAny_mono h₃ (fun x s₄ h₄ => wpAny_bind (wpAny_mono h₄ (fun _ s₅ h₅ => wpAny_pure (wpAny_pure ⟨rfl, h₅⟩)) fun _ _ h' => h')) fun _ _ h' => h'))
end

def TSs (K : Fm) (rho : List (Str × Option D)) (ifs : List Expr) (b : Bool) : Prop :=
  match ifs with
  | [] => b = true
  | [c] => TS K rho c b
  | _ => False
theorem TSs.wp {K : Fm} {rho : List (Str × Option D)} {ifs : List Expr} {b : Bool} (h : TSs K rho ifs b) {W : List Addr} {s : Shared} (R : Rel K rho W s) {E : Value → Shared → Prop} :
    wpAny K.M K.A (forIn ifs true fun c r => if r = true then do let ok ← isTrue c K.env (eval c K.env); pure (ForInStep.yield ok) else pure (ForInStep.yield r)) (fun ok s' => Step K.fr s s' ∧ ok = b) E s := by
  match ifs, h with
  | [], h => exact wpAny_tests_nil ⟨.refl _ _, h.symm⟩
  | [c], h => exact wpAny_tests_one (h W s R E)

inductive CInv (K : Fm) {α : Type} (l : List α) (p : α → Bool) (ψ : α → D) (f : Bool) (W wr : List Addr) (s4 : Shared) (Da : Addr) (St : Nat → Heap → Prop) (gN : Sg) (gA : α → Sg) (k : Nat) (s' : Shared) : Prop
  | mk (i : Nat) (g : Sg) (vs : List Value) (kk : Nat) (as : List Addr) : k = l.length + 1 - i → i ≤ l.length → (g = gN ∨ ∃ b, g = gA b) → OR K (W ++ ([Da] ++ wr)) [] g s' → St i s'.heap → Fra ([] ++ ([Da] ++ wr)) ([] ++ ([Da] ++ wr)) s4 s' →
      s'.heap.get? Da = some (listO vs kk) → RdAll (W ++ ([Da] ++ wr)) s'.heap vs (((l.take i).filter p).map ψ) as → (f = true → as.Nodup ∧ ∀ a ∈ as, K.s0.heap.get? a = none) → CInv K l p ψ f W wr s4 Da St gN gA k s'
theorem comp_loop {K : Fm} {α : Type} {l : List α} {p : α → Bool} {ψ : α → D} {f : Bool} {W wr : List Addr} {s4 : Shared} {target elt iter : Expr} {ifs : List Expr} {scope : Scope} {pos : Pos} {it : Value} {Da : Addr} {St : Nat → Heap → Prop} {put : Nat → Sg → Sg → Prop}
    {gN : Sg} {gA : α → Sg} {R : Result → Shared → Prop} (tk : Tk K W [] [Da] wr s4 target it l.length St put) (h0 : St 0 s4.heap) (r4 : OR K (W ++ ([Da] ++ wr)) [] gN s4) (hD : ∃ k, s4.heap.get? Da = some (listO [] k)) (hDn : K.s0.heap.get? Da = none)
    (put0 : ∀ i a, l[i]? = some a → put i gN (gA a)) (put1 : ∀ i a b, l[i]? = some a → put i (gA b) (gA a))
    (tests : ∀ a ∈ l, TSs K (fullOf (gA a)) ifs (p a)) (elts : ∀ a ∈ l, p a = true → ∀ W s, Rel K (fullOf (gA a)) W s → wpAny K.M K.A (eval elt K.env) (Got K W s (ψ a) f) (notedBy K.M K.A K.env fun e s' => R (.error e) s') s) (hsz : l.length ≤ sizeLine) (own0 : ∀ a, ∀ q ∈ gA a, ∀ d, q.2 ≠ .ow d)
    (hR : ∀ s5 g vs k as, OR K W [] g s5 → s5.heap.get? Da = some (listO vs k) → RdAll (W ++ [Da]) s5.heap vs ((l.filter p).map ψ) as → (f = true → as.Nodup ∧ ∀ a ∈ as, K.s0.heap.get? a = none) → R (.ok .next) s5) :
    codeAny (model K.G.prog K.G.w) K.A (.compLoop (.ListComp elt [⟨target, iter, ifs, 0⟩] scope pos) 0 it (.ref Da) K.env) R s4 := by
  obtain ⟨k0, hD⟩ := hD
  have hDw : Da ∉ wr := tk.apart Da (by simp)
  have own_nil : ∀ {W2 : List Addr} {a : α} {s : Shared}, OR K (W ++ ([Da] ++ wr)) W2 (gA a) s → W2 = [] := by
    intro W2 a s r
    have : ∀ {g : Sg} {W2 : List Addr}, SegG K.env (W ++ ([Da] ++ wr)) s.heap g W2 → (∀ q ∈ g, ∀ d, q.2 ≠ .ow d) → W2 = [] := by
      intro g W2 q
      induction q with
      | nil => intro _; rfl
      | no _ ih => intro h; exact ih fun q hq => h q (List.mem_cons_of_mem _ hq)
      | fz _ ih => intro h; exact ih fun q hq => h q (List.mem_cons_of_mem _ hq)
      | ow _ _ _ _ => intro h; exact absurd rfl (h _ List.mem_cons_self _)
    exact this r.seg (own0 a)
  refine compLoop_gen (fun k s' => CInv K l p ψ f W wr s4 Da St gN gA k s') ?_ (l.length + 1)
    ⟨0, gN, [], k0, [], rfl, Nat.zero_le _, .inl rfl, r4, h0, .refl _ _, hD, by simpa using RdAll.nil, fun _ => ⟨.nil, fun a ha => nomatch ha⟩⟩
  rintro k s1 ⟨i, g, vs, kk, as, rfl, hi, hg, r1, hst, fa, hD1, rd, fr⟩
  have hX : ∀ b ∈ [Da], ∃ o, s1.heap.get? b = some o ∧ Solid o := fun b hb => by
    obtain rfl := List.mem_singleton.mp hb; exact ⟨_, hD1, .inl ⟨_, _, rfl⟩⟩
  by_cases hlt : i < l.length
  · have ha : l[i]? = some l[i] := List.getElem?_eq_getElem hlt
    have hmem : l[i] ∈ l := List.getElem_mem hlt
    generalize l[i] = a at ha hmem
    have hp : put i g (gA a) := by
      rcases hg with rfl | ⟨b, rfl⟩
      · exact put0 i a ha
      · exact put1 i a b ha
    refine wpAny_mono (tk.item i g (gA a) [] s1 (fun s2 => wpAny K.M K.A (forIn ifs true fun c r => if r = true then do let ok ← isTrue c K.env (eval c K.env); pure (ForInStep.yield ok) else pure (ForInStep.yield r)) (fun ok s₃ =>
            if ok = true then wpAny K.M K.A (eval elt K.env) (fun x s₄ =>
              wpAny K.M K.A (call (.builtin "list.append") [.ref Da, x]) (fun _ s₅ => ∃ m, m < l.length + 1 - i ∧ CInv K l p ψ f W wr s4 Da St gN gA m s₅) (notedBy K.M K.A K.env fun e s' => R (.error e) s') s₄) (notedBy K.M K.A K.env fun e s' => R (.error e) s') s₃
            else ∃ m, m < l.length + 1 - i ∧ CInv K l p ψ f W wr s4 Da St gN gA m s₃) (notedBy K.M K.A K.env fun e s' => R (.error e) s') s2) (notedBy K.M K.A K.env fun e s' => R (.error e) s') hlt hp r1 hst fa hX fun s2 W3 r2 hst2 sub2 fb keepX keepS => ?_) (fun r s2 hq => ?_) fun _ _ q => q
    rotate_left
    · cases r with
      | none => exact hq.elim
      | some v => exact hq
    obtain rfl := own_nil r2
    have hD2 : s2.heap.get? Da = some (listO vs kk) := keepX Da (by simp) _ hD1
    have rd2 : RdAll (W ++ ([Da] ++ wr)) s2.heap vs (((l.take i).filter p).map ψ) as := rd.ks fun b o hb e so => keepS b o (fun hm => hb (List.mem_append_right _ (List.mem_append_right _ hm))) so e
    have f2 := fa.trans fb
    refine wpAny_mono ((tests a hmem).wp r2.full) (fun ok s3 hq => ?_) fun _ _ q => q
    obtain ⟨st3, rfl⟩ := hq
    have r3 := r2.step st3
    have hD3 := st3.kf.solid (.inl ⟨_, _, rfl⟩) hD2
    have rd3 := rd2.kf st3.kf
    have hst3 : St (i + 1) s3.heap := tk.st _ _ _ [] s2 s3 hst2 r2 f2 (.of_step st3)
    have f3 := f2.trans (Fra.of_step (W1 := [] ++ ([Da] ++ wr)) st3)
    have ht := take_succ_filter p l i a ha
    cases hpa : p a with
    | false =>
      simp only [Bool.false_eq_true, if_false]
      refine ⟨l.length + 1 - (i + 1), turn_lt hlt, i + 1, gA a, vs, kk, as, rfl, hlt, .inr ⟨a, rfl⟩, r3, hst3, f3, hD3, ?_, fr⟩
      rw [ht, hpa]; simpa using rd3
    | true =>
      simp only [if_true]
      refine wpAny_mono (elts a hmem hpa (W ++ ([Da] ++ wr)) s3 r3.full) (fun x s5 hq => ?_) fun _ _ q => q
      obtain ⟨st5, bs, rb, fb5⟩ := hq
      have r5 := r3.step st5
      have hD5 := st5.kf.solid (.inl ⟨_, _, rfl⟩) hD3
      have rd5 := rd3.kf st5.kf
      have hst5 : St (i + 1) s5.heap := tk.st _ _ _ [] s3 s5 hst3 r3 f3 (.of_step st5)
      have f5 := f3.trans (Fra.of_step (W1 := [] ++ ([Da] ++ wr)) st5)
      have hvs : vs.toArray.size ≤ sizeLine := by
        rw [List.size_toArray, rd5.length, List.length_map]
        have e1 := List.length_filter_le p (l.take i)
        have e2 : (l.take i).length ≤ l.length := by rw [List.length_take]; lia
        lia
      refine wpAny_list_append_plain (l := Da) (items := vs.toArray) ⟨kk, hD5⟩ (fun h' hpl sb => ?_) hvs
      obtain ⟨k2, e6⟩ := hpl
      have e6' : h'.get? Da = some (listO (vs ++ [x]) k2) := by rw [e6]; simp
      have keep6 : ∀ b o, b ∉ [Da] ++ wr → s5.heap.get? b = some o → h'.get? b = some o := fun b o hb e => (sb.2 b fun q => hb (by rw [q]; simp)).trans e
      have keepD : ∀ b o, b ∉ [Da] → s5.heap.get? b = some o → h'.get? b = some o := fun b o hb e => (sb.2 b fun q => hb (by rw [q]; simp)).trans e
      have offK : OffK K [Da] := offK_of r5.rel fun b hb => by obtain rfl := List.mem_singleton.mp hb; exact ⟨_, hD5, .inl ⟨_, _, rfl⟩⟩
      have ks6 : KS (W ++ ([Da] ++ wr)) s5.heap h' := fun b o hb e _ => keep6 b o (fun hm => hb (List.mem_append_right _ hm)) e
      have r6 : OR K (W ++ ([Da] ++ wr)) [] (gA a) { s5 with heap := h' } := {
        rel := r5.rel.turn (X := [Da]) (fun b hb => by obtain rfl := List.mem_singleton.mp hb; simp) (fun _ h => h) offK (fun b hb => by obtain rfl := List.mem_singleton.mp hb; exact ⟨_, hD5, Solid.noTab (.inl ⟨_, _, rfl⟩)⟩) (fun b hb => by obtain rfl := List.mem_singleton.mp hb; exact hDn) ⟨_, _, rfl⟩ keepD fun b hb _ => by obtain rfl := List.mem_singleton.mp hb; exact ⟨_, e6⟩
        seg := r5.seg.turn (fun y v q => offK.holds keepD q) ks6
        nd := r5.nd
        nw := r5.nw }
      have f6 : Fra ([] ++ ([Da] ++ wr)) ([] ++ ([Da] ++ wr)) s5 { s5 with heap := h' } := ⟨fun b o hb _ e => keep6 b o hb e, fun b o e => by
        by_cases hbD : b = Da
        · subst hbD; exact ⟨_, e6⟩
        · exact ⟨o, (sb.2 b hbD).trans e⟩, fun a ha => .inl ha⟩
      refine ⟨l.length + 1 - (i + 1), turn_lt hlt, i + 1, gA a, vs ++ [x], k2, as ++ bs, rfl, hlt, .inr ⟨a, rfl⟩, r6, tk.stX _ _ _ hst5 keepD, f5.trans f6, e6', ?_, fun e => ?_⟩
      · have e7 : ((l.take (i + 1)).filter p).map ψ = ((l.take i).filter p).map ψ ++ [ψ a] := by rw [ht, hpa]; simp
        rw [e7]
        have : RdAll (W ++ ([Da] ++ wr)) s5.heap [x] [ψ a] bs := by have := RdAll.cons rb (.nil (W := W ++ ([Da] ++ wr)) (h := s5.heap)); simpa using this
        exact (rd5.append this).ks ks6
      · obtain ⟨n1, n2⟩ := fr e
        obtain ⟨n3, n4⟩ := fb5 e
        refine ⟨List.nodup_append.mpr ⟨n1, n3, fun a ha b hb q => ?_⟩, fun a ha => ?_⟩
        · subst q
          obtain ⟨_, _, _, e8⟩ := rd3.there a ha
          rw [n4 a hb] at e8; cases e8
        · exact (List.mem_append.mp ha).elim (n2 a) fun q => r3.rel.kept.fresh (n4 a q)
  · obtain rfl : i = l.length := by lia
    refine wpAny_mono (tk.done g [] s1 (fun s5 => R (.ok .next) s5) _ r1 hst hX fun s5 r5 hk => ?_) (fun r s2 hq => ?_) fun _ _ q => q
    · rw [List.take_length] at rd
      refine hR s5 g vs kk as r5 (hk Da _ hDw hD1) ?_ fr
      exact (rd.ks fun b o hb e _ => hk b o (fun hm => hb (List.mem_append_right _ (List.mem_append_right _ hm))) e).sub fun b hb => by
        simp only [List.mem_append] at hb ⊢; rcases hb with h | h <;> simp [h]
    · cases r with
      | none => exact hq
      | some v => exact hq.elim
end Mine
end

section
set_option autoImplicit false
namespace Mine
open PySem

structure CompOk (sc2 sc : Scope) (tgts caps own : List Str) : Prop where
  kind : sc2.kind = .function
  nodup : (sc2.names.map (·.1)).Nodup
  plain : ∀ x ∈ tgts ++ caps, plainName x = true
  nd : (tgts ++ caps).Nodup
  tgt : ∀ x ∈ tgts, sc2.names.lookup x = some .local ∨ x ∈ own
  cap : ∀ x ∈ caps, sc2.names.lookup x = some .free
  own : ∀ x ∈ own, sc2.names.lookup x = some .cell
  free : ∀ q ∈ sc2.names, q.2 = .free → sc.names.lookup q.1 = some .cell ∨ sc.names.lookup q.1 = some .free
def compOkB (sc2 sc : Scope) (tgts caps own : List Str) : Bool :=
  (match sc2.kind with | .function => true | _ => false) && decide (sc2.names.map (·.1)).Nodup && (tgts ++ caps).all plainName && decide (tgts ++ caps).Nodup && tgts.all (fun x => sc2.names.lookup x == some .local || own.contains x) &&
    caps.all (fun x => sc2.names.lookup x == some .free) && own.all (fun x => sc2.names.lookup x == some .cell) && sc2.names.all (fun q => !(q.2 == .free) || sc.names.lookup q.1 == some .cell || sc.names.lookup q.1 == some .free)
theorem compOk_of {sc2 sc : Scope} {tgts caps own : List Str} (h : compOkB sc2 sc tgts caps own = true) : CompOk sc2 sc tgts caps own := by
  simp only [compOkB, Bool.and_eq_true, List.all_eq_true, decide_eq_true_eq, Bool.or_eq_true, beq_iff_eq, Bool.not_eq_true', List.contains_iff_mem] at h
  obtain ⟨⟨⟨⟨⟨⟨⟨h1, h2⟩, h3⟩, h4⟩, h5⟩, h6⟩, h7⟩, h8⟩ := h
  refine ⟨?_, h2, h3, h4, h5, h6, h7, fun q hq e => ?_⟩
  · revert h1
    cases sc2.kind <;> simp
  · rcases h8 q hq with (h | h) | h
    · rw [e] at h; simp at h
    · exact .inl h
    · exact .inr h

theorem lookup_nodup {β : Type} : ∀ {l : List (Str × β)} {x : Str} {b : β}, (l.map (·.1)).Nodup → (x, b) ∈ l → l.lookup x = some b
  | (y, c) :: r, x, b, hn, hm => by
    simp only [List.map_cons, List.nodup_cons] at hn
    rw [List.lookup_cons]
    rcases List.mem_cons.mp hm with e | hm
    · cases e; simp
    · have : x ≠ y := fun e => hn.1 (e ▸ List.mem_map.mpr ⟨_, hm, rfl⟩)
      rw [beq_false_of_ne this]
      exact lookup_nodup hn.2 hm
theorem lookup_none {β : Type} : ∀ {l : List (Str × β)} {x : Str}, (∀ b, (x, b) ∉ l) → l.lookup x = none
  | [], _, _ => rfl
  | (y, c) :: r, x, h => by
    rw [List.lookup_cons]
    have : x ≠ y := fun e => h c (by rw [e]; exact List.mem_cons_self)
    rw [beq_false_of_ne this]
    exact lookup_none fun b hb => h b (List.mem_cons_of_mem _ hb)
theorem lookup_app {β : Type} {x : Str} : ∀ {l r : List (Str × β)}, (l ++ r).lookup x = (l.lookup x).or (r.lookup x)
  | [], _ => rfl
  | (y, c) :: l, r => by
    rw [List.cons_append, List.lookup_cons, List.lookup_cons]
    cases x == y with
    | true => rfl
    | false => exact lookup_app

def compFm (K : Fm) (s : Shared) (sc2 : Scope) (C : Addr) (own : List Str) : Fm :=
  { G := K.G, A := K.A, envs := K.envs, s0 := s, room := K.room, sc := relabelS sc2 K.sc, own := own,
    env := { scope := relabel sc2 K.env, locals := C, globals := K.env.globals, cells := cellsFrom (C + 1) sc2.names (clOf K.env.cells sc2.names), qual := K.env.qual, func := none, code := K.env.code, frame := K.env.frame, builtins := K.env.builtins } }
def gComp (tgts : List Str) (caps : List (Str × D)) : Sg := tgts.map (fun x => (x, Sl.no)) ++ caps.map fun q => (q.1, Sl.fz q.2)

theorem clOf_mem {cells : List (Str × Addr)} {names : List (Str × NameKind)} {x : Str} {c : Addr} (h : (x, c) ∈ clOf cells names) : (x, NameKind.free) ∈ names ∧ c = (cells.lookup x).getD 0 := by
  unfold clOf at h
  rw [List.mem_reverse] at h
  obtain ⟨p, hp, e⟩ := List.mem_map.mp h
  obtain ⟨h1, h2⟩ := List.mem_filter.mp hp
  cases e
  obtain ⟨n, k⟩ := p
  rw [show k = .free from beq_iff_eq.mp h2] at h1
  exact ⟨h1, rfl⟩
theorem clOf_names {cells : List (Str × Addr)} {names : List (Str × NameKind)} (h : (names.map (·.1)).Nodup) : ((clOf cells names).map (·.1)).Nodup := by
  unfold clOf
  rw [List.map_reverse, List.map_map, (List.reverse_perm _).nodup_iff]
  exact ((List.filter_sublist).map _).nodup h

theorem seg_comp {env : Env} {W0 : List Addr} {h : Heap} {tgts : List Str} {caps : List (Str × D)} : SegG env W0 h (gComp tgts caps) [] := by
  unfold gComp
  induction tgts with
  | nil =>
    simp only [List.map_nil, List.nil_append]
    induction caps with
    | nil => exact .nil
    | cons q r ih => exact .fz ih
  | cons x r ih => exact .no ih
theorem gComp_names {tgts : List Str} {caps : List (Str × D)} : (gComp tgts caps).map (·.1) = tgts ++ caps.map (·.1) := by
  simp [gComp, Function.comp_def]

theorem comp_enter {K : Fm} {rho : List (Str × Option D)} {W wr : List Addr} {s s2 : Shared} {sc2 sc : Scope} {tgts own : List Str} {caps : List (Str × D)} {h4 : Heap} (R : Rel K rho W s) (st : Step K.fr s s2) (new : ∀ a ∈ wr, s.heap.get? a = none) (live : ∀ a ∈ wr, ∃ o, s2.heap.get? a = some o)
    (hsc : K.sc = sc) (ok : CompOk sc2 sc tgts (caps.map (·.1)) own) (hc : ∀ q ∈ caps, (q.1, some q.2) ∈ rho)
    (e4 : h4 = pushCells ((s2.heap.push (listO [] 0)).push { cls := .type "dict", data := .dict #[] }) sc2.names) :
    OR (compFm K s sc2 (s2.heap.objs.size + 1) own) (W ++ ([s2.heap.objs.size] ++ wr)) [] (gComp tgts caps) { s2 with heap := h4 } ∧ h4.get? s2.heap.objs.size = some (listO [] 0) ∧ (∀ b o, s2.heap.get? b = some o → h4.get? b = some o) := by
  have hz1 : (s2.heap.push (listO [] 0)).objs.size = s2.heap.objs.size + 1 := Heap.size_push ..
  have hz2 : ((s2.heap.push (listO [] 0)).push { cls := .type "dict", data := .dict #[] }).objs.size = s2.heap.objs.size + 1 + 1 := by rw [Heap.size_push, hz1]
  have keep : ∀ b o, s2.heap.get? b = some o → h4.get? b = some o := fun b o e => by
    rw [e4]; exact pushCells_keeps _ _ b o (Heap.get?_push_of_some _ (Heap.get?_push_of_some _ e))
  have hD : h4.get? s2.heap.objs.size = some (listO [] 0) := by
    rw [e4]; exact pushCells_keeps _ _ _ _ (Heap.get?_push_of_some _ (Heap.get?_push_size _ rfl))
  have hC : h4.Ns (s2.heap.objs.size + 1) (fun _ => none) := by
    have := Heap.Ns.new (s2.heap.push (listO [] 0)) (.type "dict")
    rw [hz1] at this
    rw [e4]
    exact this.keeps (pushCells_keeps _ _)
  have ck := cellsFrom_ok sc2.names ((s2.heap.push (listO [] 0)).push { cls := .type "dict", data := .dict #[] }) (s2.heap.objs.size + 1 + 1) [] ⟨fun _ _ hm => (nomatch hm), List.Pairwise.nil⟩ (by rw [hz2]; exact Nat.le_refl _)
  rw [hz2, ← e4] at ck
  have st4 : Step K.fr s { s2 with heap := h4 } := st.trans ⟨⟨_, _, rfl⟩, .of_keeps keep⟩
  have freshS : ∀ a, s2.heap.objs.size ≤ a → s.heap.get? a = none := fun a ha => st.kf.fresh (Heap.get?_none_of_le ha)
  have hfree : ∀ q ∈ sc2.names, q.2 = .free → ∃ c, K.env.cells.lookup q.1 = some c := fun q hq e => R.ok.hascell q.1 (by rw [hsc]; exact ok.free q hq e)
  have clc : ∀ x c, (x, c) ∈ clOf K.env.cells sc2.names → K.env.cells.lookup x = some c := fun x c hm => by
    obtain ⟨h1, h2⟩ := clOf_mem hm
    obtain ⟨c', hc'⟩ := hfree _ h1 rfl
    rw [hc'] at h2
    rw [hc', h2]; rfl
  have cellsE : (compFm K s sc2 (s2.heap.objs.size + 1) own).env.cells = cellsFrom (s2.heap.objs.size + 1 + 1) sc2.names [] ++ clOf K.env.cells sc2.names := cellsFrom_app _ _ _
  have cellAt : ∀ x c, (compFm K s sc2 (s2.heap.objs.size + 1) own).env.cells.lookup x = some c → ((x, c) ∈ cellsFrom (s2.heap.objs.size + 1 + 1) sc2.names []) ∨ K.env.cells.lookup x = some c := fun x c e => by
    rw [cellsE] at e
    exact (List.mem_append.mp (mem_of_lookup e)).imp id (clc x c)
  have lookFree : ∀ x, sc2.names.lookup x = some .free → ∃ c, (compFm K s sc2 (s2.heap.objs.size + 1) own).env.cells.lookup x = some c ∧ K.env.cells.lookup x = some c := fun x e => by
    obtain ⟨c, hc'⟩ := hfree _ (mem_of_lookup e) rfl
    refine ⟨c, ?_, hc'⟩
    rw [cellsE, lookup_app, lookup_none fun b hb => ?_]
    · have : (x, c) ∈ clOf K.env.cells sc2.names := by
        unfold clOf
        rw [List.mem_reverse]
        refine List.mem_map.mpr ⟨(x, .free), List.mem_filter.mpr ⟨mem_of_lookup e, rfl⟩, ?_⟩
        dsimp only
        rw [hc']; rfl
      rw [lookup_nodup (clOf_names ok.nodup) this]; rfl
    · have := lookup_nodup ok.nodup (cellsFrom_names sc2.names _ ⟨b, hb⟩)
      rw [e] at this; cases this
  have kok : (compFm K s sc2 (s2.heap.objs.size + 1) own).Ok := {
    scope := relabel_eq R.ok
    kind := ok.kind
    globals := R.ok.globals
    builtins := R.ok.builtins
    frames := R.ok.frames
    apart := by
      rw [cellsE]
      refine List.pairwise_append.mpr ⟨ck.apart, ?_, fun a ha b hb e => ?_⟩
      · have hn := clOf_names (cells := K.env.cells) ok.nodup
        have hp : (clOf K.env.cells sc2.names).Pairwise fun x y => x.1 ≠ y.1 := by
          have := List.pairwise_map.mp hn
          exact this
        refine hp.imp_of_mem fun {a b} ha hb hne e => hne ?_
        exact name_of_addr R.ok.apart (mem_of_lookup (clc a.1 a.2 ha)) (e ▸ mem_of_lookup (clc b.1 b.2 hb))
      · obtain ⟨v, o, ho, _⟩ := R.cells b.1 b.2 (clc b.1 b.2 hb)
        have h1 := (ck.empty a.1 a.2 ha).2
        have h2 := freshS a.2 (Nat.le_trans (Nat.le_succ_of_le (Nat.le_succ _)) h1)
        rw [e, ho] at h2; cases h2
    base0 := R.stays
    tabs0 := R.tabs
    locnew := freshS _ (Nat.le_succ _)
    ownnew := fun x hx => by
      have h1 := ok.own x hx
      refine ⟨by show (relabelS sc2 K.sc).names.lookup x = _; rw [relabelS_lookup, h1]; rfl, ?_⟩
      obtain ⟨c, hc'⟩ := Option.isSome_iff_exists.mp (cells_some sc2.names (s2.heap.objs.size + 1 + 1) [] (.inl h1))
      refine ⟨c, by rw [cellsE, lookup_app, hc']; rfl, ?_⟩
      exact freshS c (Nat.le_trans (Nat.le_succ_of_le (Nat.le_succ _)) (ck.empty x c (mem_of_lookup hc')).2)
    hascell := fun x hx => by
      have hx' : (relabelS sc2 K.sc).names.lookup x = some .cell ∨ (relabelS sc2 K.sc).names.lookup x = some .free := hx
      rw [relabelS_lookup] at hx'
      cases e : sc2.names.lookup x with
      | none => rw [e] at hx'; rcases hx' with q | q <;> cases q
      | some k =>
        rw [e] at hx'
        cases k with
        | free => exact let ⟨c, a, _⟩ := lookFree x e; ⟨c, a⟩
        | cell =>
          obtain ⟨c, hc'⟩ := Option.isSome_iff_exists.mp (cells_some sc2.names (s2.heap.objs.size + 1 + 1) [] (.inl e))
          exact ⟨c, by rw [cellsE, lookup_app, hc']; rfl⟩
        | _ => rcases hx' with q | q <;> simp at q
    gl := R.ok.gl
    depth := R.ok.depth
    units := R.ok.units }
  have R4 := R.step st4
  refine ⟨⟨?_, seg_comp, .nil, fun a ha => nomatch ha⟩, hD, keep⟩
  exact {
    ok := kok
    off := fun a ha => by
      simp only [List.mem_append, List.mem_singleton, List.not_mem_nil, or_false] at ha
      rcases ha with h | h | h
      · exact R4.off a h
      · subst h; exact ⟨_, hD⟩
      · exact let ⟨o, e⟩ := live a h; ⟨o, keep a o e⟩
    same := st4.same
    stays := R4.stays
    kept := st4.kf
    frames := R4.frames
    fdict := R4.fdict
    loc := ⟨_, hC⟩
    cells := fun x c e => by
      rcases cellAt x c e with q | q
      · exact ⟨_, (ck.empty x c q).1⟩
      · exact R4.cells x c q
    nodup := by rw [froz_names, gComp_names]; exact ok.nd
    plain := fun x hx => by rw [froz_names, gComp_names] at hx; exact ok.plain x hx
    vars := fun y d hm => by
      have hm' : (y, d) ∈ caps := by
        have := mem_froz.mp hm
        rcases List.mem_append.mp this with q | q
        · obtain ⟨_, _, e⟩ := List.mem_map.mp q; cases e
        · obtain ⟨q', hq', e⟩ := List.mem_map.mp q
          cases e; exact hq'
      have hyc : y ∈ caps.map (·.1) := List.mem_map.mpr ⟨_, hm', rfl⟩
      have hfr := ok.cap y hyc
      obtain ⟨v, as, q1, q2⟩ := R.vars y d (hc _ hm')
      obtain ⟨c, c1, c2⟩ := lookFree y hfr
      refine ⟨v, as, .inr ⟨?_, c, c1, ?_⟩, ?_⟩
      · have hk : (compFm K s sc2 (s2.heap.objs.size + 1) own).env.kindOf y = (relabelS sc2 K.sc).names.lookup y := kok.kindOf rfl
        rw [hk, relabelS_lookup, hfr]
        cases hq : (K.sc.names.lookup y == some NameKind.cell) <;> simp [hq]
      · rcases q1 with ⟨k, _⟩ | ⟨k, c', e, i⟩
        · have : K.env.kindOf y = K.sc.names.lookup y := R.ok.kindOf rfl
          rw [this, hsc] at k
          rcases ok.free _ (mem_of_lookup hfr) rfl with q | q <;> (dsimp only at q; rw [q] at k; cases k)
        · rw [c2] at e; cases e
          exact st4.kf.cell i
      · have ext := q2.ext (W' := s2.heap.objs.size :: wr) fun a ha => by
          rcases List.mem_cons.mp ha with rfl | ha
          · exact freshS _ (Nat.le_refl _)
          · exact new a ha
        exact (ext.kf st4.kf).sub fun a ha => by simpa using ha }
end Mine
end

section
set_option autoImplicit false
namespace Mine
open PySem

def CompUse (K : Fm) (W : List Addr) (s : Shared) (E : Value → Shared → Prop) (use : Option (Value → Sem Unit)) (Q : Value → Shared → Prop) (res : List D) (f : Bool) : Prop :=
  ∀ s5 C v as m, Step K.fr s s5 → Rd W s5.heap v (.list res) as → (f = true → as.Nodup ∧ ∀ a ∈ as, s.heap.get? a = none) → s.heap.get? C = none → s5.heap.Ns C m →
    match use with
    | none => ∀ h', Heap.SameBut C s5.heap h' → Q v { s5 with heap := h' }
    | some u => wpAny K.M K.A (u v) (fun _ s'' => ∃ m, s''.heap.Ns C m ∧ ∀ h', Heap.SameBut C s''.heap h' → Q .none { s'' with heap := h' }) E s5

def CompErr (K K2 : Fm) (E : Value → Shared → Prop) : Value → Shared → Prop := notedBy K2.M K2.A K2.env fun x s' =>
  ∃ m, s'.heap.Ns K2.env.locals m ∧ ∀ h', Heap.SameBut K2.env.locals s'.heap h' → ∀ cenv : Env, cenv.locals = K2.env.locals → wpAny K.M K.A (passOn "comprehension.variables-let-go" x cenv : Sem Value) (fun _ _ => False) E { s' with heap := h' }
structure Inner (K K2 : Fm) (s : Shared) (sc : Scope) (own : List Str) : Prop where
  G : K2.G = K.G
  sc : K2.sc = sc
  own : K2.own = own
  room : K2.room = K.room
  A : K2.A = K.A
  envs : K2.envs = K.envs
  frame : K2.env.frame = K.env.frame
  s0 : K2.s0 = s
def EltX (K K2 : Fm) (E : Value → Shared → Prop) (rho : List (Str × Option D)) (elt : Expr) (d : D) (f : Bool) : Prop :=
  ∀ W s, Rel K2 rho W s → wpAny K2.M K2.A (eval elt K2.env) (Got K2 W s d f) (CompErr K K2 E) s

section
variable {K : Fm} {rho : List (Str × Option D)} {W : List Addr} {s : Shared} {E : Value → Shared → Prop} {use : Option (Value → Sem Unit)} {Q : Value → Shared → Prop} {sc2 sc : Scope} {own : List Str} {caps : List (Str × D)} {α : Type} {l : List α} {p : α → Bool} {ψ : α → D} {f : Bool}
  {elt iter target : Expr} {ifs : List Expr} {pos pos2 : Pos}

theorem comp_after {s2 : Shared} {tgts : List Str} {fp wr : List Addr} {St : Nat → Heap → Prop} {put : Nat → Sg → Sg → Prop} {gA : α → Sg} {I : Addr} (R : Rel K rho W s) (hsc : K.sc = sc) (ok : CompOk sc2 sc tgts (caps.map (·.1)) own) (hc : ∀ q ∈ caps, (q.1, some q.2) ∈ rho) (hl : l.length ≤ sizeLine)
    (st : Step K.fr s s2) (sr : Src W s s2 fp wr St) (hsub : ∀ b ∈ wr, b ∈ fp) (h0 : St 0 s2.heap) (frame : ∀ i h h', St i h → (∀ b ∈ fp, ∀ o, h.get? b = some o → h'.get? b = some o) → St i h')
    (mk : ∀ s4, Core (compFm K s sc2 (s2.heap.objs.size + 1) own) W [] [s2.heap.objs.size] wr fp s4 St → (∀ v d as, Rd (W ++ wr) s2.heap v d as → Rd (W ++ ([] ++ ([s2.heap.objs.size] ++ wr))) s4.heap v d as) →
      Tk (compFm K s sc2 (s2.heap.objs.size + 1) own) W [] [s2.heap.objs.size] wr s4 target (.ref I) l.length St put)
    (put0 : ∀ i a, l[i]? = some a → put i (gComp tgts caps) (gA a)) (put1 : ∀ i a b, l[i]? = some a → put i (gA b) (gA a)) (own0 : ∀ a, ∀ q ∈ gA a, ∀ d, q.2 ≠ .ow d)
    (body : ∀ K2 : Fm, Inner K K2 s (relabelS sc2 sc) own → ∀ a ∈ l, TSs K2 (fullOf (gA a)) ifs (p a) ∧ (p a = true → EltX K K2 E (fullOf (gA a)) elt (ψ a) f))
    (k : CompUse K W s E use Q ((l.filter p).map ψ) f) :
    wpAny K.M K.A (newList []) (fun acc s₃ => wpAny K.M K.A (newFunctionEnv sc2 K.env.globals (clOf K.env.cells sc2.names) [] K.env.qual none .none (some K.env)) (fun cenv s₄ =>
      codeAny K.M K.A (.compStart (.ListComp elt [⟨target, iter, ifs, 0⟩] sc2 pos) 0 (.ref I) acc { cenv with scope := relabel sc2 K.env }) (compPost K.M K.A E use Q acc cenv.locals) s₄) E s₃) E s2 := by
  refine wpAny_newObj_type (newEnv_comp ?_)
  have hz1 : (s2.heap.push { cls := .type "list", dict := none, data := .seq ([] : List Value).toArray }).objs.size = s2.heap.objs.size + 1 := Heap.size_push ..
  dsimp only
  rw [hz1]
  obtain ⟨r4, hD, keep⟩ := comp_enter (tgts := tgts) R st sr.new (fun a ha => let ⟨o, e, _⟩ := sr.live 0 _ h0 a ha; ⟨o, e⟩) hsc ok hc rfl
  generalize hh4 : pushCells ((s2.heap.push (listO [] 0)).push { cls := .type "dict", data := .dict #[] }) sc2.names = h4 at r4 hD keep
  have freshS : ∀ a, s2.heap.objs.size ≤ a → s.heap.get? a = none := fun a ha => st.kf.fresh (Heap.get?_none_of_le ha)
  have core : Core (compFm K s sc2 (s2.heap.objs.size + 1) own) W [] [s2.heap.objs.size] wr fp { s2 with heap := h4 } St := {
    new := fun a ha => by
      rcases List.mem_append.mp ha with q | q
      · obtain rfl := List.mem_singleton.mp q; exact freshS _ (Nat.le_refl _)
      · exact sr.new a q
    off0 := fun a ha hm => by
      obtain ⟨o, e⟩ := R.off a ha
      rcases List.mem_append.mp hm with q | q
      · obtain rfl := List.mem_singleton.mp q; rw [freshS _ (Nat.le_refl _)] at e; cases e
      · rw [sr.new a q] at e; cases e
    there := fun b hb => let ⟨o, e, so⟩ := sr.there b hb; ⟨o, keep b o e, so⟩
    off1 := fun _ _ h => nomatch h
    offX := fun b hb hm => by
      obtain rfl := List.mem_singleton.mp hm
      obtain ⟨o, e, _⟩ := sr.there _ hb
      rw [get?_size] at e; cases e
    sub := hsub
    live := sr.live }
  have tk := mk { s2 with heap := h4 } core fun v d as rd => ((rd.ext (W' := [s2.heap.objs.size]) fun a ha => by obtain rfl := List.mem_singleton.mp ha; exact get?_size _).kf (fr := []) (.of_keeps keep)).sub fun a ha => by
    simp only [List.mem_append, List.mem_singleton, List.nil_append] at ha ⊢; rcases ha with h | h | h <;> simp [h]
  have h04 : St 0 h4 := frame 0 _ _ h0 fun b hb o e => keep b o e
  have inn : Inner K (compFm K s sc2 (s2.heap.objs.size + 1) own) s (relabelS sc2 sc) own := ⟨rfl, by rw [← hsc]; rfl, rfl, rfl, rfl, rfl, rfl, rfl⟩
  have loop : codeAny K.M K.A (.compLoop (.ListComp elt [⟨target, iter, ifs, 0⟩] sc2 pos) 0 (.ref I) (.ref s2.heap.objs.size) (compFm K s sc2 (s2.heap.objs.size + 1) own).env) (compPost K.M K.A E use Q (.ref s2.heap.objs.size) (s2.heap.objs.size + 1)) { s2 with heap := h4 } := by
    refine comp_loop (K := compFm K s sc2 (s2.heap.objs.size + 1) own) tk h04 r4 ⟨0, hD⟩ (freshS _ (Nat.le_refl _)) put0 put1 (fun a ha => (body _ inn a ha).1) (fun a ha => (body _ inn a ha).2) hl own0 ?_
    intro s5 g vs kk as r5 hD5 rd5 fr5
    obtain ⟨m, hm⟩ := r5.rel.loc
    have st5 : Step K.fr s s5 := ⟨r5.rel.same, r5.rel.kept⟩
    have hDW : s2.heap.objs.size ∉ W := fun hm => by
      obtain ⟨o, e⟩ := R.off _ hm
      rw [freshS _ (Nat.le_refl _)] at e; cases e
    have rd : Rd W s5.heap (.ref s2.heap.objs.size) (.list ((l.filter p).map ψ)) (s2.heap.objs.size :: as) := .list hDW hD5 (rd5.sub fun a ha => List.mem_append_left _ ha)
    have hk := k s5 (s2.heap.objs.size + 1) _ _ m st5 rd (fun e => ⟨List.nodup_cons.mpr ⟨fun hm => (rd5.there _ hm).1 (by simp), (fr5 e).1⟩, fun a ha => by
      rcases List.mem_cons.mp ha with rfl | ha
      · exact freshS _ (Nat.le_refl _)
      · exact (fr5 e).2 a ha⟩) (freshS _ (Nat.le_succ _)) hm
    cases use with
    | none => exact ⟨m, hm, hk⟩
    | some u => exact hk
  exact codeAny_compStart_list loop (tk.self 0 _ _ _ h04 loop)

theorem comp_hnames {tgts capn : List Str} (ok : CompOk sc2 sc tgts capn own) : ∀ x ∈ sc2.names, x.2 = .local → sc2.names.lookup x.1 = some .local := fun x hx e => by
  obtain ⟨n, k⟩ := x
  dsimp only at e ⊢
  subst e
  exact lookup_nodup ok.nodup hx
theorem comp_free {tgts capn : List Str} (R : Rel K rho W s) (hsc : K.sc = sc) (ok : CompOk sc2 sc tgts capn own) : closureFor sc2 K.env = pure (clOf K.env.cells sc2.names) :=
  closure_eq fun q hq e => R.ok.hascell q.1 (by rw [hsc]; exact ok.free q hq e)
theorem comp_stor {K2 : Fm} {x : Str} {tgts capn : List Str} (ok : CompOk sc2 sc tgts capn own) (hs : K2.sc = relabelS sc2 sc) (ho : K2.own = own) (hx : x ∈ tgts) : Storable K2 x := by
  rcases ok.tgt x hx with q | q
  · exact .inl (by rw [hs, relabelS_lookup, q]; rfl)
  · exact .inr (by rw [ho]; exact q)

def gOne (x : Str) (d : D) (caps : List (Str × D)) : Sg := (x, .fz d) :: caps.map fun q => (q.1, Sl.fz q.2)
def gTwo (x y : Str) (d e : D) (caps : List (Str × D)) : Sg := (x, .fz d) :: (y, .fz e) :: caps.map fun q => (q.1, Sl.fz q.2)
theorem comp_run1x {φ : α → D} {x : Str} {px : Pos} (R : Rel K rho W s) (it : IT K rho iter (l.map φ)) (hsc : K.sc = sc) (ok : CompOk sc2 sc [x] (caps.map (·.1)) own) (hc : ∀ q ∈ caps, (q.1, some q.2) ∈ rho) (hl : l.length ≤ sizeLine) (hs : ∀ x, foldedSetIterable iter K.env x = pure x)
    (body : ∀ K2 : Fm, Inner K K2 s (relabelS sc2 sc) own → ∀ a ∈ l, TSs K2 (fullOf (gOne x (φ a) caps)) ifs (p a) ∧ (p a = true → EltX K K2 E (fullOf (gOne x (φ a) caps)) elt (ψ a) f))
    (k : CompUse K W s E use Q ((l.filter p).map ψ) f) : wpAny K.M K.A (comprehension (.ListComp elt [⟨.Name x px, iter, ifs, 0⟩] sc2 pos) sc2 K.env pos2 (newList []) false (eval iter K.env) use) Q E s := by
  refine wpAny_comprehension_free (use := use) rfl hs (comp_free R hsc ok) ok.kind (comp_hnames ok) (wpAny_mono (it W s R E) (fun xv s1 h1 => wpAny_mono h1 (fun it s2 h2 => ?_) fun _ _ q => q) fun _ _ q => q)
  obtain ⟨st, I, fp, wr, Pv, St, rfl, Wk, h0, sr, items⟩ := h2
  refine comp_after (put := fun i g1 g2 => ∃ d, (l.map φ)[i]? = some d ∧ PutS g1 x (.fz d) g2) (gA := fun a => gOne x (φ a) caps) R hsc ok hc hl st sr Wk.sub h0 Wk.frame (fun s4 core items4 => ?_) (fun i a ha => ⟨φ a, by simp [ha], .here⟩) (fun i a b ha => ⟨φ a, by simp [ha], .here⟩) (fun a q hq d e => ?_) body k
  · have t := tk_one (K := compFm K s sc2 (s2.heap.objs.size + 1) own) (px := px) core Wk (comp_stor ok (by rw [← hsc]; rfl) rfl (List.mem_singleton.mpr rfl)) fun i v hi hP => let ⟨d, as, a, b⟩ := items i v hi hP; ⟨d, as, a, items4 v d as b⟩
    rwa [List.length_map] at t
  · unfold gOne at hq
    rcases List.mem_cons.mp hq with rfl | hq
    · cases e
    · obtain ⟨_, _, rfl⟩ := List.mem_map.mp hq; cases e
theorem comp_run1 {φ : α → D} {x : Str} {px : Pos} (R : Rel K rho W s) (it : IT K rho iter (l.map φ)) (hsc : K.sc = sc) (ok : CompOk sc2 sc [x] (caps.map (·.1)) own) (hc : ∀ q ∈ caps, (q.1, some q.2) ∈ rho) (hl : l.length ≤ sizeLine) (hs : ∀ x, foldedSetIterable iter K.env x = pure x)
    (body : ∀ K2 : Fm, K2.G = K.G → K2.sc = relabelS sc2 sc → K2.own = own → K2.room = K.room → K2.A.handled = K.A.handled → ∀ a ∈ l, TSs K2 (fullOf (gOne x (φ a) caps)) ifs (p a) ∧ (p a = true → EV K2 (fullOf (gOne x (φ a) caps)) elt (ψ a) f))
    (k : CompUse K W s E use Q ((l.filter p).map ψ) f) : wpAny K.M K.A (comprehension (.ListComp elt [⟨.Name x px, iter, ifs, 0⟩] sc2 pos) sc2 K.env pos2 (newList []) false (eval iter K.env) use) Q E s :=
  comp_run1x R it hsc ok hc hl hs (fun K2 n a ha => let ⟨b1, b2⟩ := body K2 n.G n.sc n.own n.room (by rw [n.A]) a ha; ⟨b1, fun q W s R => b2 q W s R _⟩) k
theorem use_none (R : Rel K rho W s) {res : List D} : CompUse K W s E none (Got K W s (.list res) f) res f := fun s5 C v as m st rd fr hC hm h' sb => by
  have ks : KS W s5.heap h' := .sameBut sb fun o e so => by
    obtain ⟨o', es, ep, ho, hd, _⟩ := hm
    rw [e] at ho; cases ho
    rcases so with ⟨_, _, q⟩ | ⟨_, q, _⟩ <;> (rw [hd] at q; cases q)
  refine ⟨⟨let ⟨h, tk, e⟩ := st.same; ⟨h', tk, by rw [e]⟩, fun b o e => ?_⟩, as, rd.ks ks, fr⟩
  have hbC : b ≠ C := fun q => by subst q; rw [hC] at e; cases e
  rcases st.kf b o e with q | ⟨q1, q2, sl, q3⟩ | q
  · exact .inl ((sb.2 b hbC).trans q)
  · exact .inr (.inl ⟨q1, q2, sl, (sb.2 b hbC).trans q3⟩)
  · refine .inr (.inr (q.keep fun b' o' e' hv _ => (sb.2 b' fun z => ?_).trans e'))
    subst z
    obtain ⟨o2, es, ep, ho, hd, _⟩ := hm
    obtain ⟨vs, hv⟩ := hv
    rw [e'] at ho; cases ho
    rw [hd] at hv; cases hv

theorem ev_comp1 {φ : α → D} {x : Str} {px : Pos} (it : IT K rho iter (l.map φ)) (hsc : K.sc = sc) (ok : CompOk sc2 sc [x] (caps.map (·.1)) own) (hc : ∀ q ∈ caps, (q.1, some q.2) ∈ rho) (hl : l.length ≤ sizeLine) (hs : ∀ x, foldedSetIterable iter K.env x = pure x)
    (body : ∀ K2 : Fm, K2.G = K.G → K2.sc = relabelS sc2 sc → K2.own = own → K2.room = K.room → K2.A.handled = K.A.handled → ∀ a ∈ l, TSs K2 (fullOf (gOne x (φ a) caps)) ifs (p a) ∧ (p a = true → EV K2 (fullOf (gOne x (φ a) caps)) elt (ψ a) f)) :
    EV K rho (.ListComp elt [⟨.Name x px, iter, ifs, 0⟩] sc2 pos) (.list ((l.filter p).map ψ)) f := fun W s R E => by
  rw [eval_ListComp]
  exact comp_run1 R it hsc ok hc hl hs body (use_none R)
end
end Mine
end

section
set_option autoImplicit false
namespace Mine
open PySem

theorem Holds.inj {env : Env} {h : Heap} {x : Str} {v w : Value} (a : Holds env h x v) (b : Holds env h x w) : v = w := by
  rcases a with ⟨k, m, n, e⟩ | ⟨k, c, e, o, ho, hd⟩ <;> rcases b with ⟨k', m', n', e'⟩ | ⟨k', c', e', o', ho', hd'⟩
  · obtain ⟨o1, es1, ep1, ho1, hd1, _, f1⟩ := n
    obtain ⟨o2, es2, ep2, ho2, hd2, _, f2⟩ := n'
    rw [ho1] at ho2; cases ho2
    rw [hd1] at hd2; cases hd2
    rw [← f1 x] at e; rw [← f2 x] at e'
    rw [e] at e'; cases e'; rfl
  · rw [k] at k'; rcases k' with q | q <;> cases q
  · rw [k'] at k; rcases k with q | q <;> cases q
  · rw [e] at e'; cases e'
    rw [ho] at ho'; cases ho'
    rw [hd] at hd'; cases hd'; rfl

section
variable {K : Fm} {W0 W1 : List Addr} {g g' : Sg} {s : Shared}
theorem OR.other (r : OR K W0 W1 g s) {C : Addr} {h' : Heap} (hC : ∃ m, s.heap.Ns C m) (hW : C ∉ W0) (hl : C ≠ K.env.locals) (hc : ∀ y c, K.env.cells.lookup y = some c → C ≠ c) (hf : C ∉ K.fr) (new : K.s0.heap.get? C = none) (sb : Heap.SameBut C s.heap h') : OR K W0 W1 g { s with heap := h' } := by
  have off : OffK K [C] := fun a ha => by obtain rfl := List.mem_singleton.mp ha; exact ⟨hl, hc, hf⟩
  have keep : ∀ b o, b ∉ [C] → s.heap.get? b = some o → h'.get? b = some o := fun b o hb e => (sb.2 b fun q => hb (by rw [q]; simp)).trans e
  have nseq : ∀ b o, s.heap.get? b = some o → Solid o → b ∉ [C] := fun b o e so hm => by
    obtain rfl := List.mem_singleton.mp hm
    obtain ⟨m, o', es, ep, ho, hd, _⟩ := hC
    rw [e] at ho; cases ho
    rcases so with ⟨_, _, q⟩ | ⟨_, q, _⟩ <;> (rw [hd] at q; cases q)
  have R : Rel K (frozOf g) ((W0 ++ W1) ++ [C]) s := { r.rel with
    off := fun a ha => (List.mem_append.mp ha).elim (r.rel.off a) fun q => by obtain rfl := List.mem_singleton.mp q; obtain ⟨m, o', es, ep, ho, _⟩ := hC; exact ⟨o', ho⟩
    vars := fun y d hm => let ⟨v, as, q1, q2⟩ := r.rel.vars y d hm; ⟨v, as, q1, q2.off fun b o hb e q hm => (List.mem_append.mp hm).elim hb (nseq b o e q)⟩ }
  exact {
    rel := R.turn (X := [C]) (fun a ha => List.mem_append_right _ ha) (fun a ha => List.mem_append_left _ ha) off (fun a ha => by obtain rfl := List.mem_singleton.mp ha; obtain ⟨m, o', es, ep, ho, hd, _⟩ := hC; exact ⟨o', ho, noTab_dict hd⟩) (fun a ha => by obtain rfl := List.mem_singleton.mp ha; exact new) ⟨_, _, rfl⟩ keep fun a ha hm => by
      obtain rfl := List.mem_singleton.mp ha
      rcases List.mem_append.mp hm with q | q
      · exact absurd q hW
      · obtain ⟨_, vs, n, e⟩ := r.seg.lists a q
        exact absurd (List.mem_singleton.mpr rfl) (nseq a _ e (.inl ⟨_, _, rfl⟩))
    seg := r.seg.turn (fun y v q => off.holds keep q) fun b o hb e q => keep b o (nseq b o e q) e
    nd := r.nd
    nw := r.nw }

theorem slot_live {rho : List (Str × Option D)} {W : List Addr} (R : Rel K rho W s) {a : Addr} (h : Slot K a) : ∃ o, s.heap.get? a = some o := by
  rcases h with rfl | ⟨x, _, e⟩
  · obtain ⟨m, o, _, _, ho, _⟩ := R.loc; exact ⟨o, ho⟩
  · obtain ⟨v, o, ho, _⟩ := R.cells x a e; exact ⟨o, ho⟩
theorem none_ne {h : Heap} {a b : Addr} {o : Obj} (ha : h.get? a = none) (hb : h.get? b = some o) : a ≠ b := fun e => by rw [e, hb] at ha; cases ha

variable {e : Expr} {x t : Str} {pt pos pos2 : Pos} {rest : List Stmt} {P : Out → Prop} {elt : Expr} {gens : List Comprehension} {sc2 : Scope} {E : Value → Shared → Prop}
theorem exec_comp {Q : Flow → Shared → Prop} (h1 : wpAny K.M K.A (eval (.ListComp elt gens sc2 pos2) K.env) (fun v s1 => wpAny K.M K.A (storeName K.env t v) (fun _ s2 => Q .next s2) E s1) E s)
    (h2 : wpAny K.M K.A (comprehension (.ListComp elt gens sc2 pos2) sc2 K.env (firstIterPos gens pos2) (newList []) (firstAsync gens) (firstIter gens K.env) (some (assign (.Name t pt) K.env))) (fun _ s' => Q .next s') E s) :
    wpAny K.M K.A (exec (.Assign [.Name t pt] (.ListComp elt gens sc2 pos2) pos) K.env) Q E s := by
  have hsw : ∃ b : Bool, swapsWith (.ListComp elt gens sc2 pos2) (some (.Name t pt)) pos.line K.env = pure b := ⟨_, rfl⟩
  obtain ⟨b, hsw⟩ := hsw
  cases b with
  | false =>
    rw [exec_Assign_Name _ _ _ _ _ hsw]
    refine wpAny_bind (wpAny_standAt (wpAny_bind (wpAny_mono h1 (fun v s1 h1 => wpAny_bind (wpAny_standAt (wpAny_bind (wpAny_bindName ?_)))) fun _ _ q => q)))
    exact wpAny_mono h1 (fun _ s2 h2 => wpAny_pure h2) fun _ _ q => q
  | true =>
    rw [exec_Assign_Name_used _ _ _ _ hsw, arm_evalThenUse_ListComp]
    refine wpAny_bind (wpAny_standAt (wpAny_bind ?_))
    refine wpAny_bind (wpAny_mono h2 (fun _ s' q => wpAny_pure (wpAny_pure q)) fun _ _ q => q)
theorem use_some {rho : List (Str × Option D)} {W : List Addr} (R : Rel K rho W s) {res : List D} {f : Bool} {Q : Value → Shared → Prop}
    (k : ∀ s1 v as, Step K.fr s s1 → Rd W s1.heap v (.list res) as → (f = true → as.Nodup ∧ ∀ a ∈ as, s.heap.get? a = none) → wpAny K.M K.A (storeName K.env t v) (fun _ s2 => (∃ a, Slot K a ∧ Heap.SameBut a s1.heap s2.heap) ∧
      ∀ C h', s.heap.get? C = none → (∃ m, s2.heap.Ns C m) → Heap.SameBut C s2.heap h' → Q .none { s2 with heap := h' }) E s1) :
    CompUse K W s E (some (assign (.Name t pt) K.env)) Q res f := fun s5 C v as m st rd fr hC hm => by
  show wpAny K.M K.A (assign (.Name t pt) K.env v) _ E s5
  refine wpAny_assign_Name (wpAny_mono (k s5 v as st rd fr) (fun _ s2 q => ?_) fun _ _ q => q)
  obtain ⟨⟨a, ha, sb⟩, q⟩ := q
  have hCa : C ≠ a := by
    obtain ⟨o, e⟩ := slot_live R ha
    exact none_ne hC e
  have hm2 := hm.sameBut sb hCa
  exact ⟨m, hm2, fun h' sb' => q C h' hC ⟨m, hm2⟩ sb'⟩
end

section
variable {K : Fm} {g g' : Sg} {t : Str} {pt pos pos2 : Pos} {rest : List Stmt} {P : Out → Prop} {elt iter : Expr} {ifs : List Expr} {sc2 sc : Scope} {own : List Str} {caps : List (Str × D)} {α : Type} {l : List α} {p : α → Bool} {ψ : α → D} {f : Bool}
theorem sx_comp {target : Expr} {rho : List (Str × Option D)} {sl : Sl} {res : List D}
    (run : ∀ W s E use Q, Rel K rho W s → CompUse K W s E use Q res f → wpAny K.M K.A (comprehension (.ListComp elt [⟨target, iter, ifs, 0⟩] sc2 pos2) sc2 K.env (firstIterPos [⟨target, iter, ifs, 0⟩] pos2) (newList []) false (eval iter K.env) use) Q E s)
    (how : (rho = fullOf g ∧ f = true ∧ (sl = .fz (.list res) ∨ sl = .ow (.list res))) ∨ (rho = frozOf g ∧ sl = .fz (.list res)))
    (pu : PutS g t sl g') (hs : Storable K t) (k : SX K g' rest P) : SX K g (.Assign [.Name t pt] (.ListComp elt [⟨target, iter, ifs, 0⟩] sc2 pos2) pos :: rest) P := sx_cons fun W0 W1 s r E => by
  /- the store, from wherever the list comes -/
  have store : ∀ (W : List Addr) s1 v as, ((W = W0 ∧ f = true ∧ (sl = .fz (.list res) ∨ sl = .ow (.list res))) ∨ (W = W0 ++ W1 ∧ sl = .fz (.list res))) → Step K.fr s s1 → Rd W s1.heap v (.list res) as → (f = true → as.Nodup ∧ ∀ a ∈ as, s.heap.get? a = none) →
      ∀ Q : Unit → Shared → Prop, (∀ s2 W2, OR K W0 W2 g' s2 → Fra W1 W2 s s2 → (∃ a, Slot K a ∧ Heap.SameBut a s1.heap s2.heap) → Q () s2) → wpAny K.M K.A (storeName K.env t v) Q E s1 := by
    intro W s1 v as hw st rd fr Q kk
    obtain ⟨R, sg, nd, nw⟩ := r
    have sg1 := sg.step st.kf
    have live : ∀ a ∈ as, a ∈ W1 → f = true → False := fun a ha hm e => by
      obtain ⟨_, _, _, e'⟩ := sg.lists a hm
      rw [(fr e).2 a ha] at e'; cases e'
    rcases hw with ⟨rfl, rfl, rfl | rfl⟩ | ⟨rfl, rfl⟩
    · exact store_sg (R.step st) sg1 nd nw pu hs as (rd.widen (fun a ha => (sg1.lists a ha).2) fun a ha hm => live a ha hm rfl) fun s2 W2 r2 sol liv n2 but => kk s2 W2 r2 (.store st sol liv n2 fun q => nomatch q) but
    · exact store_sg (R.step st) sg1 nd nw pu hs as ⟨rd, (fr rfl).1, fun a ha => R.kept.fresh ((fr rfl).2 a ha), fun a ha hm => live a ha hm rfl, R.ext st (fr rfl).2 fun a ha => let ⟨_, vs, n, e⟩ := rd.there a ha; ⟨_, e⟩⟩ fun s2 W2 r2 sol liv n2 but => kk s2 W2 r2 (.store st sol liv n2 fun _ => (fr rfl).2) but
    · exact store_sg (R.step st) sg1 nd nw pu hs as rd fun s2 W2 r2 sol liv n2 but => kk s2 W2 r2 (.store st sol liv n2 fun q => nomatch q) but
  have main : ∀ (W : List Addr), Rel K rho W s → ((W = W0 ∧ f = true ∧ (sl = .fz (.list res) ∨ sl = .ow (.list res))) ∨ (W = W0 ++ W1 ∧ sl = .fz (.list res))) → wpAny K.M K.A (exec (.Assign [.Name t pt] (.ListComp elt [⟨target, iter, ifs, 0⟩] sc2 pos2) pos) K.env) (Ends K W0 W1 s (Seq K rest P)) E s := by
    intro W R hw
    refine exec_comp ?_ ?_
    · rw [eval_ListComp]
      refine run W s E none _ R ?_
      intro s5 C v as m st rd fr hC hm h' sb
      obtain ⟨st', bs, rd', fr'⟩ := use_none (E := E) R s5 C v as m st rd fr hC hm h' sb
      exact store W _ v bs hw st' rd' fr' _ fun s2 W2 r2 fa _ => ⟨.next g', k, W2, r2, fa⟩
    · refine run W s E (some (assign (.Name t pt) K.env)) _ R (use_some R fun s1 v as st rd fr => store W s1 v as hw st rd fr _ fun s2 W2 r2 fa but => ⟨but, fun C h' hC hm sb => ?_⟩)
      refine ⟨.next g', k, W2, r2.other hm (fun hW => ?_) ?_ ?_ ?_ ?_ sb, ?_⟩
      · obtain ⟨o, e⟩ := r.rel.off C (List.mem_append_left _ hW)
        rw [hC] at e; cases e
      · obtain ⟨m, o, _, _, ho, _⟩ := r.rel.loc
        exact none_ne hC ho
      · intro y c hc
        obtain ⟨v, o, ho, _⟩ := r.rel.cells y c hc
        exact none_ne hC ho
      · intro hf
        obtain ⟨m, o, _, _, ho, _⟩ := r.rel.fdict C hf
        rw [hC] at ho; cases ho
      · exact r.rel.kept.fresh hC
      · exact ⟨fun b o hb so e => (sb.2 b (Ne.symm (none_ne hC e))).trans (fa.keep b o hb so e), fun b o e => let ⟨o', e'⟩ := fa.live b o e; ⟨o', (sb.2 b (Ne.symm (none_ne hC e))).trans e'⟩, fa.new⟩
  rcases how with ⟨rfl, hf, hsl⟩ | ⟨rfl, hsl⟩
  · exact main W0 r.full (.inl ⟨rfl, hf, hsl⟩)
  · exact main (W0 ++ W1) r.rel (.inr ⟨rfl, hsl⟩)
end
end Mine
end

section
set_option autoImplicit false
namespace Mine
open PySem

theorem seq_inj {xs ys : List Value} {n m : Nat} {c c' : Value} (e : ({ cls := c, data := .seq xs.toArray n } : Obj) = { cls := c', data := .seq ys.toArray m }) : xs = ys := by
  have := congrArg Obj.data e
  simp only [Data.seq.injEq] at this
  simpa using this.1
theorem rdc_det {W W' : List Addr} {h : Heap} : RdC W h (fun v d as => ∀ bs, Rd W' h v d bs → as = bs) (fun vs ds as => ∀ bs, RdAll W' h vs ds bs → as = bs) where
  none := fun _ r => by cases r; rfl
  bool := fun _ _ r => by cases r; rfl
  int := fun _ _ _ r => by cases r; rfl
  str := fun _ _ _ _ r => by cases r; rfl
  list := fun _ h1 ih _ r => by
    obtain ⟨a', vs, n, cs, e, rfl, ho, hr, _⟩ := r.list_inv
    cases e
    rw [h1] at ho
    obtain rfl := seq_inj (Option.some.inj ho)
    rw [ih _ hr]
  tuple := fun _ h1 ih _ r => by
    obtain ⟨a', vs, n, e, ho, hr, _⟩ := r.tuple_inv
    cases e
    rw [h1] at ho
    obtain rfl := seq_inj (Option.some.inj ho)
    exact ih _ hr
  exc := fun _ _ _ _ _ r => by cases r; rfl
  nil := fun _ r => by cases r; rfl
  cons := fun i1 i2 _ r => by cases r with | cons h3 h4 => rw [i1 _ h3, i2 _ h4]
theorem rd_det {W W' : List Addr} {h : Heap} {v : Value} {d : D} {as bs : List Addr} (r : Rd W h v d as) (r' : Rd W' h v d bs) : as = bs := rdc_det.rd r _ r'
theorem rd_keep {W0 : List Addr} {h h' : Heap} {a : Addr} (hl : ∃ vs n, h.get? a = some (listO vs n)) (keep : ∀ b o, b ≠ a → h.get? b = some o → h'.get? b = some o) {v : Value} {d : D} {as : List Addr} (r : Rd W0 h v d as) (ha : a ∉ as) : Rd W0 h' v d as := by
  have r1 := r.widen (W1 := [a]) (fun b hb => by obtain rfl := List.mem_singleton.mp hb; exact hl) fun b hb hm => ha (by obtain rfl := List.mem_singleton.mp hm; exact hb)
  exact (r1.ks fun b o hb e _ => keep b o (fun q => hb (by rw [q]; simp)) e).sub fun b hb => List.mem_append_left _ hb
theorem rdAll_keep {W0 : List Addr} {h h' : Heap} {a : Addr} (hl : ∃ vs n, h.get? a = some (listO vs n)) (keep : ∀ b o, b ≠ a → h.get? b = some o → h'.get? b = some o) {v : List Value} {d : List D} {as : List Addr} (r : RdAll W0 h v d as) (ha : a ∉ as) : RdAll W0 h' v d as := by
  have r1 := r.widen (W1 := [a]) (fun b hb => by obtain rfl := List.mem_singleton.mp hb; exact hl) fun b hb hm => ha (by obtain rfl := List.mem_singleton.mp hm; exact hb)
  exact (r1.ks fun b o hb e _ => keep b o (fun q => hb (by rw [q]; simp)) e).sub fun b hb => List.mem_append_left _ hb

theorem SegG.keep {env : Env} {W0 : List Addr} {h h' : Heap} {a : Addr} (hl : ∃ vs n, h.get? a = some (listO vs n)) (keep : ∀ b o, b ≠ a → h.get? b = some o → h'.get? b = some o) (hh : ∀ y v, Holds env h y v → Holds env h' y v) {g : Sg} {W : List Addr} (q : SegG env W0 h g W) : a ∉ W → SegG env W0 h' g W := by
  induction q with
  | nil => intro _; exact .nil
  | no _ ih => intro ha; exact .no (ih ha)
  | fz _ ih => intro ha; exact .fz (ih ha)
  | ow hv rd _ ih => intro ha; exact .ow (hh _ _ hv) (rd_keep hl keep rd fun q => ha (List.mem_append_left _ q)) (ih fun q => ha (List.mem_append_right _ q))
theorem SegG.mut {env : Env} {W0 nw : List Addr} {h h' : Heap} {a : Addr} {x : Str} {ds : List D} {d' : D} (hl : ∃ vs n, h.get? a = some (listO vs n)) (keep : ∀ b o, b ≠ a → h.get? b = some o → h'.get? b = some o) (hh : ∀ y v, Holds env h y v → Holds env h' y v)
    (hx : Holds env h x (.ref a)) (upd : ∀ bs, Rd W0 h (.ref a) (.list ds) (a :: bs) → (a :: bs).Nodup → ∃ as', Rd W0 h' (.ref a) d' as' ∧ as'.Nodup ∧ ∀ b ∈ as', b ∈ a :: bs ∨ b ∈ nw) {g g' : Sg} (p : PutS g x (.ow d') g') :
    ∀ {W : List Addr}, SegG env W0 h g W → (g.map (·.1)).Nodup → W.Nodup → (x, Sl.ow (.list ds)) ∈ g → (∀ b ∈ nw, b ∉ W) → ∃ W', SegG env W0 h' g' W' ∧ W'.Nodup ∧ ∀ b ∈ W', b ∈ W ∨ b ∈ nw := by
  generalize hsl : Sl.ow d' = sl at p
  induction p with
  | @here x o d r =>
    subst hsl
    intro W q hn nd hm hw
    simp only [List.map_cons, List.nodup_cons] at hn
    rcases List.mem_cons.mp hm with e | hm
    · cases e
      cases q with
      | @ow _ _ v as _ W' hv rd q =>
        obtain rfl := hv.inj hx
        obtain ⟨a', vs, n, bs, e1, rfl, ho, hr, hW⟩ := id rd.list_inv
        cases e1
        obtain ⟨n1, n2, n3⟩ := List.nodup_append.mp nd
        obtain ⟨as', r', nd', sub⟩ := upd bs rd n1
        have haW : a ∉ W' := fun q => n3 a List.mem_cons_self a q rfl
        refine ⟨as' ++ W', .ow (hh _ _ hv) r' (q.keep hl keep hh haW), List.nodup_append.mpr ⟨nd', n2, fun b hb c hc e => ?_⟩, fun b hb => ?_⟩
        · subst e
          rcases sub b hb with q | q
          · exact n3 b q b hc rfl
          · exact hw b q (List.mem_append_right _ hc)
        · rcases List.mem_append.mp hb with q | q
          · exact (sub b q).imp (List.mem_append_left _) id
          · exact .inl (List.mem_append_right _ q)
    · exact absurd (List.mem_map.mpr ⟨_, hm, rfl⟩) hn.1
  | @there x y o d r r' p ih =>
    intro W q hn nd hm hw
    simp only [List.map_cons, List.nodup_cons] at hn
    have hyx : y ≠ x := fun e => hn.1 (e ▸ p.mem_name)
    have hm' : (x, Sl.ow (.list ds)) ∈ r := by
      rcases List.mem_cons.mp hm with e | hm
      · cases e; exact absurd rfl hyx
      · exact hm
    cases q with
    | no q => exact let ⟨W', a, b, c⟩ := ih hx hsl q hn.2 nd hm' hw; ⟨W', .no a, b, c⟩
    | fz q => exact let ⟨W', a, b, c⟩ := ih hx hsl q hn.2 nd hm' hw; ⟨W', .fz a, b, c⟩
    | @ow _ _ v as _ W' hv rd q =>
      obtain ⟨n1, n2, n3⟩ := List.nodup_append.mp nd
      obtain ⟨W2, q1, q2, q3⟩ := ih hx hsl q hn.2 n2 hm' fun b hb hm => hw b hb (List.mem_append_right _ hm)
      obtain ⟨v', as', hv', rd', _, sub'⟩ := q.get2 hm' n2
      have haS : a ∈ W' := by
        obtain rfl := hv'.inj hx
        obtain ⟨a', vs, n, bs, e1, rfl, ho, hr, hW⟩ := rd'.list_inv
        cases e1
        exact sub' a List.mem_cons_self
      refine ⟨as ++ W2, .ow (hh _ _ hv) (rd_keep hl keep rd fun q => n3 a q a haS rfl) q1, List.nodup_append.mpr ⟨n1, q2, fun b hb c hc e => ?_⟩, fun b hb => ?_⟩
      · subst e
        rcases q3 b hc with q | q
        · exact n3 b hb b q rfl
        · exact hw b q (List.mem_append_left _ hb)
      · rcases List.mem_append.mp hb with q | q
        · exact .inl (List.mem_append_left _ q)
        · exact (q3 b q).imp (List.mem_append_right _) id

section
variable {K : Fm} {g g' : Sg} {x : Str} {px pos apos cpos : Pos} {rest : List Stmt} {P : Out → Prop} {e i : Expr} {ds es : List D} {d d' : D} {f fi : Bool}
theorem put_froz {sl sl' : Sl} (h : sl.froz = none) (h' : sl'.froz = none) (p : PutS g x sl' g') (hn : (g.map (·.1)).Nodup) (hm : (x, sl) ∈ g) : frozOf g' = frozOf g := by
  induction p with
  | @here x o d r =>
    simp only [List.map_cons, List.nodup_cons] at hn
    rcases List.mem_cons.mp hm with e | hm
    · cases e
      show (x, Sl.froz _) :: _ = (x, Sl.froz _) :: _
      rw [h, h']
    · exact absurd (List.mem_map.mpr ⟨_, hm, rfl⟩) hn.1
  | @there x y o d r r' p ih =>
    simp only [List.map_cons, List.nodup_cons] at hn
    rcases List.mem_cons.mp hm with e | hm
    · cases e; exact absurd p.mem_name hn.1
    · show (y, Sl.froz _) :: frozOf r' = (y, Sl.froz _) :: frozOf r
      rw [ih h' hn.2 hm]
theorem OR.mut {W0 W1 nw : List Addr} {s s' : Shared} {a : Addr} (r : OR K W0 W1 g s) (hm : (x, Sl.ow (.list ds)) ∈ g) (hx : Holds K.env s.heap x (.ref a)) (p : PutS g x (.ow d') g') (same : ∃ h' tk, s' = { s with heap := h', toks := tk }) (sb : ∀ b o, b ≠ a → s.heap.get? b = some o → s'.heap.get? b = some o)
    (hnew : ∀ b ∈ nw, b ∉ W0 ++ W1 ∧ K.s0.heap.get? b = none ∧ ∃ vs n, s.heap.get? b = some (listO vs n)) (rnew : Rel K (frozOf g) ((W0 ++ W1) ++ nw) s) (live : ∃ o, s'.heap.get? a = some o)
    (upd : ∀ bs, Rd W0 s.heap (.ref a) (.list ds) (a :: bs) → (a :: bs).Nodup → ∃ as', Rd W0 s'.heap (.ref a) d' as' ∧ as'.Nodup ∧ ∀ b ∈ as', b ∈ a :: bs ∨ b ∈ nw) :
    ∃ W1', OR K W0 W1' g' s' ∧ (∀ b ∈ W1', b ∈ W1 ∨ b ∈ nw) ∧ a ∈ W1 := by
  have hn := r.nodup
  obtain ⟨v, as, hv, rd, nd, sub⟩ := r.seg.get2 hm r.nd
  obtain rfl := hv.inj hx
  obtain ⟨a', vs, n, bs, e1, rfl, ho, hr, hW⟩ := rd.list_inv
  cases e1
  have haW1 : a ∈ W1 := sub a List.mem_cons_self
  have hl : ∃ vs n, s.heap.get? a = some (listO vs n) := ⟨vs, n, ho⟩
  have off : OffK K [a] := offK_of r.rel fun b hb => by obtain rfl := List.mem_singleton.mp hb; exact ⟨_, ho, .inl ⟨_, _, rfl⟩⟩
  have keep' : ∀ b o, b ∉ [a] → s.heap.get? b = some o → s'.heap.get? b = some o := fun b o hb e => sb b o (fun q => hb (by rw [q]; simp)) e
  obtain ⟨W', q1, q2, q3⟩ := SegG.mut (nw := nw) hl sb (fun y v q => off.holds keep' q) hx upd p r.seg hn r.nd hm fun b hb hm => (hnew b hb).1 (List.mem_append_right _ hm)
  refine ⟨W', ⟨?_, q1, q2, fun b hb => (q3 b hb).elim (r.nw b) fun q => (hnew b q).2.1⟩, q3, haW1⟩
  rw [put_froz rfl rfl p hn hm]
  refine rnew.turn (X := [a]) (fun b hb => by obtain rfl := List.mem_singleton.mp hb; exact List.mem_append_left _ (List.mem_append_right _ haW1)) (fun b hb => ?_) off (fun b hb => by obtain rfl := List.mem_singleton.mp hb; exact ⟨_, ho, Solid.noTab (.inl ⟨_, _, rfl⟩)⟩) (fun b hb => by obtain rfl := List.mem_singleton.mp hb; exact r.nw _ haW1) same keep' fun b hb _ => by
    obtain rfl := List.mem_singleton.mp hb; exact live
  rcases List.mem_append.mp hb with q | q
  · exact List.mem_append_left _ (List.mem_append_left _ q)
  · exact (q3 b q).elim (fun q => List.mem_append_left _ (List.mem_append_right _ q)) (List.mem_append_right _)

theorem not_interactive {K : Fm} (k : K.Ok) : interactive K.env = false := by
  unfold interactive
  rw [k.kindE]; rfl
theorem app_end {W0 W1 cs : List Addr} {s s1 : Shared} {h' : Heap} {a : Addr} {vs ws : List Value} {n k2 : Nat} {bs : List Addr} (r : OR K W0 W1 g s) (hm : (x, Sl.ow (.list ds)) ∈ g) (hv : Holds K.env s.heap x (.ref a)) (rd : Rd W0 s.heap (.ref a) (.list ds) (a :: bs))
    (ho : s.heap.get? a = some (listO vs n)) (hr : RdAll W0 s.heap vs ds bs) (st : Step K.fr s s1) (rw' : RdAll W0 s1.heap ws es cs) (ny : cs.Nodup) (newy : ∀ b ∈ cs, s.heap.get? b = none) (p : PutS g x (.ow (.list (ds ++ es))) g')
    (e2' : h'.get? a = some (listO (vs ++ ws) k2)) (sb : Heap.SameBut a s1.heap h') (k : SX K g' rest P) : Ends K W0 W1 s (Seq K rest P) .next { s1 with heap := h' } := by
  have r1 := r.step st
  have ho1 := st.kf.solid (.inl ⟨_, _, rfl⟩) ho
  have keep : ∀ b o, b ≠ a → s1.heap.get? b = some o → h'.get? b = some o := fun b o hb e => (sb.2 b hb).trans e
  have notold : ∀ b ∈ cs, ∀ o, s.heap.get? b ≠ some o := fun b hb o e => by rw [newy b hb] at e; cases e
  have hl1 : ∃ vs n, s1.heap.get? a = some (listO vs n) := ⟨vs, n, ho1⟩
  have hcs : a ∉ cs := fun q => notold a q _ ho
  have hnew : ∀ b ∈ cs, b ∉ W0 ++ W1 ∧ K.s0.heap.get? b = none ∧ ∃ vs n, s1.heap.get? b = some (listO vs n) := fun b hb => ⟨fun q => by obtain ⟨o, e⟩ := r.rel.off b q; exact notold b hb o e, r.rel.kept.fresh (newy b hb), (rw'.there b hb).2⟩
  obtain ⟨W1', r2, n2, ha⟩ := OR.mut (nw := cs) (s' := { s1 with heap := h' }) r1 hm (st.kf.holds hv) p ⟨_, _, rfl⟩ keep hnew (r.rel.ext st newy fun b hb => let ⟨vs, n, e⟩ := (rw'.there b hb).2; ⟨_, e⟩) ⟨_, e2'⟩ fun bs' rd' nd' => by
    obtain ⟨a2, vs2, n2, bs2, e3, e4, ho2, hr2, hW2⟩ := rd'.list_inv
    cases e3; cases e4
    rw [ho1] at ho2
    obtain rfl := seq_inj (Option.some.inj ho2)
    obtain ⟨n1, n2⟩ := List.nodup_cons.mp nd'
    have rA := rdAll_keep hl1 keep hr2 n1
    have rB := rdAll_keep hl1 keep rw' hcs
    have ebs : bs' = bs := by
      have := rd_det rd' (rd.kf st.kf)
      exact (List.cons.inj this).2
    have dis : ∀ b ∈ bs', b ∉ cs := fun b hb hc => by
      rw [ebs] at hb
      obtain ⟨_, vs6, n6, e7⟩ := hr.there b hb
      exact notold b hc _ e7
    refine ⟨a :: (bs' ++ cs), .list hW2 e2' (rA.append rB), ?_, fun b hb => ?_⟩
    · refine List.nodup_cons.mpr ⟨fun q => (List.mem_append.mp q).elim n1 hcs, List.nodup_append.mpr ⟨n2, ny, fun b hb c hc e => dis b hb (e ▸ hc)⟩⟩
    · rcases List.mem_cons.mp hb with rfl | q
      · exact .inl List.mem_cons_self
      · exact (List.mem_append.mp q).imp (List.mem_cons_of_mem _) id
  refine ⟨.next g', k, W1', r2, ?_⟩
  exact ⟨fun b o hb so e => keep b o (fun q => hb (q ▸ ha)) (st.kf.solid so e), fun b o e => by
    by_cases hba : b = a
    · subst hba; exact ⟨_, e2'⟩
    · obtain ⟨o', e'⟩ := st.kf.live e; exact ⟨o', keep b o' hba e'⟩, fun b hb => (n2 b hb).imp id (newy b)⟩
theorem sx_append (hm : (x, Sl.ow (.list ds)) ∈ g) (h : EV K (fullOf g) e d true) (p : PutS g x (.ow (.list (ds ++ [d]))) g') (hn : noStar e = true) (hl : ds.length ≤ sizeLine) (hline : (apos.endLine == cpos.line) = true) (k : SX K g' rest P) :
    SX K g (.Expr (.Call (.Attribute (.Name x px) "append" apos) [e] [] cpos) pos :: rest) P := sx_cons fun W0 W1 s r E => by
  refine wpAny_Expr_any ?_ (not_interactive r.ok) rfl
  have tr : backTo cpos (starEach [e] K.env) = [(false, eval e K.env)] := by rw [starEach_cons hn]; rfl
  refine wpAny_Call_append rfl (by rw [tr]; rfl) hline tr ?_
  have R0 := r.full
  obtain ⟨v, as, hv, rd, nd, sub⟩ := r.seg.get2 hm r.nd
  obtain ⟨a, vs, n, bs, rfl, rfl, ho, hr, hW⟩ := id rd.list_inv
  have hnm := R0.plain x (List.mem_map.mpr ⟨_, mem_full.mpr (.inr hm), rfl⟩)
  simp only [plainName, Bool.and_eq_true, Bool.not_eq_true'] at hnm
  refine wpAny_Name (load_holds R0.ok.kindE hv ⟨a, vs.toArray, rfl, ⟨_, n, ho, rfl, rfl, rfl⟩, ?_⟩ hnm.1) hnm.2
  refine wpAny_mono (h W0 s R0 E) (fun y s1 q => ?_) fun _ _ q => q
  obtain ⟨st, cs, ry, fy⟩ := q
  obtain ⟨ny, newy⟩ := fy rfl
  have ho1 := st.kf.solid (.inl ⟨_, _, rfl⟩) ho
  refine wpAny_list_append_plain (l := a) (items := vs.toArray) ⟨n, ho1⟩ (fun h' hpl sb => ?_) (by rw [List.size_toArray, hr.length]; exact hl)
  obtain ⟨k2, e2⟩ := hpl
  have e2' : h'.get? a = some (listO (vs ++ [y]) k2) := by rw [e2]; simp
  have rB' : RdAll W0 s1.heap [y] [d] cs := by have := RdAll.cons ry (.nil (W := W0) (h := s1.heap)); simpa using this
  exact app_end r hm hv rd ho hr st rB' ny newy p e2' sb k

theorem mapSeq_plain {T : String} (its : Array Value) (n : Nat) (f : Array Value → Array Value) :
    ∃ m, Obj.mapSeq f { cls := .type T, data := .seq its n } = { cls := .type T, data := .seq (f its) m } := by
  unfold Obj.mapSeq
  exact ⟨_, rfl⟩
theorem meth_list {T name : String} {o : Expr} {apos cpos : Pos} {id : String} {E : Value → Shared → Prop} {s : Shared} {Q : Value → Shared → Prop} (hn : noStar e = true) (hbase : attributeBase o (Str.ofString name) K.env (eval o K.env) = eval o K.env) (hline : (apos.endLine == cpos.line) = true)
    (slot : PySem.Slot "list" (Str.ofString name) id) (hty : typeOf (.builtin id) = pure (.type "method_descriptor"))
    (h : wpAny K.M K.A (eval o K.env) (fun ov s₁ => ∃ a vs n, ov = .ref a ∧ s₁.heap.get? a = some (listO vs n) ∧ wpAny K.M K.A (eval e K.env) (fun y s2 => wpAny K.M K.A (call (.builtin id) [.ref a, y]) Q E s2) E s₁) E s) :
    wpAny K.M K.A (eval (.Call (.Attribute o (Str.ofString name) apos) [e] [] cpos) K.env) Q E s := by
  have tr : backTo cpos (starEach [e] K.env) = [(false, eval e K.env)] := by rw [starEach_cons hn]; rfl
  refine wpAny_Call_method hbase (by rw [tr]; rfl) hline PySem.F.plainAttrs_list slot hty (wpAny_mono h (fun ov s₁ q => ?_) fun _ _ q => q)
  obtain ⟨a, vs, n, rfl, ho, q⟩ := q
  refine ⟨⟨_, ho, rfl⟩, fun b eb => by cases eb; exact ⟨_, ho, rfl⟩, ?_⟩
  rw [tr]
  exact Calls.callWith_builtin rfl (Calls.evalArgs_plain (Calls.spliced_cons (wpAny_mono q (fun y s₂ h₂ => Calls.spliced_nil h₂) fun _ _ e => e)))
theorem setItem_plain0 {prog : Program} {w : World} {A : Around} {E : Value → Shared → Prop} {s : Shared} {l : Addr} {vs : List Value} {n : Nat} {k : Int} {t : Tok} {v : Value} {Q : Unit → Shared → Prop} (ho : s.heap.get? l = some (listO vs n)) (h0 : 0 ≤ k) (hfit : k < 2 ^ 63) (hn : k < vs.toArray.size)
    (hQ : ∀ h' m, h'.get? l = some (listO (vs.set k.toNat v) m) → Heap.SameBut l s.heap h' → Q () { s with heap := h' }) : wpAny (model prog w) A (setItem (.ref l) (.int k t) v) Q E s := by
  have hl := isList_of ho
  unfold setItem
  refine wpAny_holding ?_
  refine wpAny_bind (wpAny_sequenceKey hl.typeIs (by decide) ?_)
  refine wpAny_bind (wpAny_callSpecial?_slot (name := Str.ofString "__setitem__") hl.typeIs slot_list_setitem
    (wpAny_call_entry slot_list_setitem hl.typeIs entry_list_setitem ?_ (args_list_setitem _ _ _)))
  show wpAny _ _ (Builtin.List.listSubscript? (.int k t) >>= _) _ _ s
  refine wpAny_bind (wpAny_listSubscript_int (fitsIndex_of h0 hfit) ?_)
  clear hfit
  obtain ⟨j, rfl⟩ := Int.eq_ofNat_of_zero_le h0
  have hj' : j < vs.toArray.size := by lia
  have hx' : vs.toArray[j]? = some vs.toArray[j] := Array.getElem?_eq_getElem hj'
  show wpAny _ _ ((seqItemAt l j >>= fun r => pure (r.map (j, ·))) >>= _) _ _ s
  refine wpAny_bind (wpAny_bind (wpAny_seqItemAt ho rfl (wpAny_pure ?_)))
  rw [hx']
  show wpAny _ _ (setSeqItemAt l j v >>= _) _ _ s
  obtain ⟨m, em⟩ := mapSeq_plain (T := "list") vs.toArray n (·.setIfInBounds j v)
  have hfin : (s.heap.update l (Obj.mapSeq (·.setIfInBounds j v))).get? l = some (listO (vs.set j v) m) := by
    rw [Heap.get?_update_self _ ho (by rw [em]; rfl), em]; simp
  refine wpAny_bind (wpAny_setSeqItemAt ho rfl ?_)
  first
    | exact wpAny_bind (wpAny_pure (wpAny_pure ⟨.none, rfl, wpAny_pure (hQ _ m hfin (Heap.SameBut.update ..))⟩))
    | exact wpAny_pure ⟨.none, rfl, wpAny_pure (hQ _ m hfin (Heap.SameBut.update ..))⟩
theorem setItem_plain {prog : Program} {w : World} {A : Around} {E : Value → Shared → Prop} {s : Shared} {l : Addr} {vs : List Value} {n j : Nat} {t : Tok} {v : Value} {Q : Unit → Shared → Prop} (ho : s.heap.get? l = some (listO vs n)) (hfit : (j : Int) < 2 ^ 63) (hj : j < vs.length)
    (hQ : ∀ h' m, h'.get? l = some (listO (vs.set j v) m) → Heap.SameBut l s.heap h' → Q () { s with heap := h' }) : wpAny (model prog w) A (setItem (.ref l) (.int j t) v) Q E s :=
  setItem_plain0 ho (Int.natCast_nonneg _) hfit (by simpa using hj) hQ
def SetAt (q : Int) (j n : Nat) : Prop := ∀ (prog : Program) (w : World) (A : Around) (E : Value → Shared → Prop) (s : Shared) (l : Addr) (vs : List Value) (m : Nat) (t : Tok) (v : Value) (Q : Unit → Shared → Prop), s.heap.get? l = some (listO vs m) → vs.length = n →
    (∀ h' m, h'.get? l = some (listO (vs.set j v) m) → Heap.SameBut l s.heap h' → Q () { s with heap := h' }) → wpAny (model prog w) A (setItem (.ref l) (.int q t) v) Q E s
theorem setAt_pos {j n : Nat} (hfit : (j : Int) < 2 ^ 63) (hj : j < n) : SetAt j j n := fun prog w A E s l vs m t v Q ho hl hQ => setItem_plain ho hfit (hl ▸ hj) hQ
theorem sx_setitem {j : Nat} {q : Int} (hm : (x, Sl.ow (.list ds)) ∈ g) (h : EV K (fullOf g) e d f) (h2 : EV K (fullOf g) i (.int q) fi) (fl : ∀ d ∈ ds, Flat d) (fd : Flat d) (hj : j < ds.length) (hs : SetAt q j ds.length) (p : PutS g x (.ow (.list (ds.set j d))) g') (hc : noComp e = true) (k : SX K g' rest P) :
    SX K g (.Assign [.Subscript (.Name x px) i apos] e pos :: rest) P := sx_cons fun W0 W1 s r E => by
  refine wpAny_Assign_Subscript (wpAny_mono (h W0 s r.full E) (fun y s1 q => ?_) fun _ _ q => q) (swaps_no hc)
  obtain ⟨st, cs, ry, _⟩ := q
  obtain rfl := Flat.rd ry fd
  have r1 := r.step st
  have R0 := r1.full
  obtain ⟨v, as, hv, rd, nd, sub⟩ := r1.seg.get2 hm r1.nd
  obtain ⟨a, vs, n, bs, rfl, rfl, ho, hr, hW⟩ := id rd.list_inv
  obtain rfl := Flat.rdAll hr fl
  have hnm := R0.plain x (List.mem_map.mpr ⟨_, mem_full.mpr (.inr hm), rfl⟩)
  simp only [plainName, Bool.and_eq_true, Bool.not_eq_true'] at hnm
  refine wpAny_Name (load_holds R0.ok.kindE hv ?_ hnm.1) hnm.2
  refine wpAny_mono (h2 W0 s1 R0 E) (fun iv s2 q => ?_) fun _ _ q => q
  obtain ⟨st2, _, ri, _⟩ := q
  obtain ⟨t, rfl, _⟩ := ri.int_inv
  have ho2 := st2.kf.solid (.inl ⟨_, _, rfl⟩) ho
  refine hs _ _ _ _ _ _ _ _ _ _ _ ho2 hr.length fun h' m e2 sb => ?_
  have r2 := r1.step st2
  have keep : ∀ b o, b ≠ a → s2.heap.get? b = some o → h'.get? b = some o := fun b o hb e => (sb.2 b hb).trans e
  have hl2 : ∃ vs n, s2.heap.get? a = some (listO vs n) := ⟨vs, n, ho2⟩
  obtain ⟨W1', r3, n3, ha⟩ := OR.mut (nw := []) (s' := { s2 with heap := h' }) r2 hm (st2.kf.holds hv) p ⟨_, _, rfl⟩ keep (fun b hb => nomatch hb) (by rw [List.append_nil]; exact r2.rel) ⟨_, e2⟩ fun bs' rd' nd' => by
    obtain ⟨a2, vs2, n2, bs2, e3, e4, ho3, hr2, hW2⟩ := rd'.list_inv
    cases e3; cases e4
    rw [ho2] at ho3
    obtain rfl := seq_inj (Option.some.inj ho3)
    obtain rfl := Flat.rdAll hr2 fl
    have rA := rdAll_keep hl2 keep hr2 (fun q => nomatch q)
    have rB := rd_keep hl2 keep (ry.kf st2.kf) (fun q => nomatch q)
    have rS : RdAll W0 h' (vs.set j y) (ds.set j d) [] := by
      obtain ⟨as, q⟩ := RdAll.of (W := W0) (h := h') (vs := vs.set j y) (ds := ds.set j d) (by simp [hr.length]) fun i v d' e5 e6 => by
        by_cases hij : j = i
        · subst hij
          have hlt : j < vs.length := by rw [hr.length]; exact hj
          rw [List.getElem?_set_self hlt] at e5
          rw [List.getElem?_set_self hj] at e6
          cases e5; cases e6
          exact ⟨[], rB⟩
        · rw [List.getElem?_set_ne hij] at e5 e6
          obtain ⟨v', bs, e7, e8, _⟩ := rA.get i d' e6
          rw [e5] at e7; cases e7
          exact ⟨bs, e8⟩
      have := Flat.rdAll q fun d0 hd0 => by
        rcases List.mem_or_eq_of_mem_set hd0 with q | rfl
        · exact fl _ q
        · exact fd
      rwa [this] at q
    exact ⟨[a], .list hW2 e2 rS, by simp, fun b hb => .inl hb⟩
  refine ⟨.next g', k, W1', r3, ?_⟩
  exact ⟨fun b o hb so e => keep b o (fun q => hb (q ▸ ha)) (st2.kf.solid so (st.kf.solid so e)), fun b o e => by
    by_cases hba : b = a
    · subst hba; exact ⟨_, e2⟩
    · obtain ⟨o', e'⟩ := (st.trans st2).kf.live e; exact ⟨o', keep b o' hba e'⟩, fun b hb => (n3 b hb).imp id fun q => nomatch q⟩
end
end Mine
end

section
set_option autoImplicit false
namespace Mine
open PySem PyProof.Rows

def clipAt (v : Option Int) (dflt n : Nat) : Nat :=
  match v with
  | none => dflt
  | some i => if i < 0 then (i + n).toNat else min i.toNat n
def slc {α : Type} (lo hi : Option Int) (xs : List α) : List α := (xs.drop (clipAt lo 0 xs.length)).take (clipAt hi xs.length xs.length - clipAt lo 0 xs.length)

theorem clip_min {m n : Nat} : min (m : Int) (n : Int) = ((min m n : Nat) : Int) := by
  rcases Nat.le_total m n with h | h
  · rw [Nat.min_eq_left h, Int.min_eq_left (Int.ofNat_le.mpr h)]
  · rw [Nat.min_eq_right h, Int.min_eq_right (Int.ofNat_le.mpr h)]
theorem clip_bound (v : Option Int) (dflt n : Nat) : (match v with | none => (dflt : Int) | some i => max 0 (min (if i < 0 then i + n else i) n)) = (clipAt v dflt n : Int) := by
  cases v with
  | none => rfl
  | some i =>
    simp only [clipAt]
    split
    · rename_i h
      rw [Int.min_eq_left (by lia), Int.max_comm, ← Int.toNat_eq_max]
    · rename_i h
      obtain ⟨m, rfl⟩ := Int.eq_ofNat_of_zero_le (Int.not_lt.mp h)
      rw [Int.toNat_natCast, clip_min, Int.max_eq_right (Int.natCast_nonneg _)]
theorem bounds_one (lo hi : Option Int) (n : Nat) : sliceBounds lo hi none n = ((clipAt lo 0 n : Int), (clipAt hi n n : Int), 1) := by
  have h1 : (1 : Int) > 0 := by decide
  have e1 := clip_bound lo 0 n
  have e2 := clip_bound hi n n
  simp only [sliceBounds, Option.getD_none, h1, if_true]
  rw [← e1, ← e2]
  congr 1
theorem slicePick_slc (vs : List Value) (lo hi : Option Int) : slicePick vs.toArray lo hi none = (slc lo hi vs).toArray := by
  unfold slicePick
  rw [bounds_one]
  simp only [sliceRange_one, pick_run]
  simp [slc]

theorem adj_some {i : Int} {n : Nat} : (if i < 0 then max (i + n) 0 else min i n) = ((if i < 0 then (i + n).toNat else min i.toNat n : Nat) : Int) := by
  split
  · exact (Int.toNat_eq_max _).symm
  · rename_i h
    obtain ⟨m, rfl⟩ := Int.eq_ofNat_of_zero_le (Int.not_lt.mp h)
    exact clip_min
theorem adjust_one (lo hi : Option Int) (n : Nat) : Builtin.Slice.sliceAdjust lo hi 1 (n : Int) = ((clipAt lo 0 n : Int), (clipAt hi n n : Int)) := by
  unfold Builtin.Slice.sliceAdjust
  have h1 : ¬ ((1 : Int) < 0) := by decide
  simp only [h1, if_false]
  congr 1
  · cases lo with
    | none => rfl
    | some i => exact adj_some
  · cases hi with
    | none => rfl
    | some i => exact adj_some
theorem places_one (a b : Nat) : Builtin.Slice.slicePlaces (a : Int) (b : Int) 1 = b - a := by
  unfold Builtin.Slice.slicePlaces
  have h1 : (1 : Int) > 0 := by decide
  simp only [h1, if_true, Int.ediv_one]
  split <;> lia
theorem pick_slc (vs : List Value) (a k : Nat) : (List.range k).filterMap (fun (k : Nat) => vs.toArray[((a : Int) + (k : Int) * 1).toNat]?) = (vs.drop a).take k := by
  have e : (fun (k : Nat) => vs.toArray[((a : Int) + (k : Int) * 1).toNat]?) = fun k => vs.toArray[a + k]? := by
    funext k
    have : ((a : Int) + (k : Int) * 1).toNat = a + k := by lia
    rw [this]
  rw [e]
  have := pick_run vs.toArray a k
  rw [List.filterMap_map] at this
  have e2 : ((fun x => vs.toArray[x]?) ∘ fun x => a + x) = fun k => vs.toArray[a + k]? := rfl
  rw [e2] at this
  rw [this]
theorem slc_len {α : Type} (lo hi : Option Int) (xs : List α) : (slc lo hi xs).length ≤ xs.length := by
  simp only [slc, List.length_take, List.length_drop]; exact Nat.le_trans (Nat.min_le_right _ _) (Nat.sub_le _ _)

section
variable {prog : Program} {w : World} {A : Around} {E : Value → Shared → Prop} {s : Shared}
theorem slicePart_any {v : Value} {k : Option Int} {Q : Option Int → Shared → Prop} (p : IsPart v k) (h : Q k s) : wpAny (model prog w) A (Builtin.Slice.slicePartIndex v) Q E s := by
  cases p with
  | none => exact slicePart_none h
  | int i t => exact slicePart_int h
theorem sliceApplied_any {sl : Addr} {vl vu : Value} {lo hi : Option Int} {n : Nat} {Q : Int × Int × Nat → Shared → Prop} (hs : s.heap.IsSliceOf sl vl vu .none) (pl : IsPart vl lo) (pu : IsPart vu hi)
    (h : Q ((clipAt lo 0 n : Int), 1, clipAt hi n n - clipAt lo 0 n) s) : wpAny (model prog w) A (Builtin.Slice.sliceApplied (.ref sl) (pure (n : Int))) Q E s := by
  obtain ⟨os, hos, hcs, hds⟩ := id hs
  unfold Builtin.Slice.sliceApplied Builtin.Slice.sliceFields
  refine wpAny_bind (wpAny_bind (wpAny_field hos hds (x := vl) rfl (wpAny_bind (wpAny_field hos hds (x := vu) rfl (wpAny_bind (wpAny_field hos hds (x := .none) rfl (wpAny_pure ?_)))))))
  refine wpAny_bind (slicePart_none ?_)
  show wpAny _ _ (if ((1 : Int) == 0) = true then _ else _) _ _ s
  rw [if_neg (by decide)]
  refine wpAny_bind (slicePart_any pl (wpAny_bind (slicePart_any pu (wpAny_bind (wpAny_pure ?_)))))
  show wpAny _ _ (match Builtin.Slice.sliceAdjust lo hi 1 (n : Int) with | (lo, hi) => pure (lo, (1 : Int), Builtin.Slice.slicePlaces lo hi 1)) _ _ s
  rw [adjust_one]
  show wpAny _ _ (pure (_, (1 : Int), Builtin.Slice.slicePlaces _ _ 1)) _ _ s
  rw [places_one]
  exact wpAny_pure h

theorem getItem_tuple_slc {t sl : Addr} {vs : List Value} {vl vu : Value} {lo hi : Option Int} {Q : Value → Shared → Prop} (ht : IsTup s.heap t vs.toArray) (hs : s.heap.IsSliceOf sl vl vu .none) (pl : IsPart vl lo) (pu : IsPart vu hi)
    (h1 : slc lo hi vs = vs → Q (.ref t) s) (h : Q (.ref s.heap.objs.size) { s with heap := s.heap.push { cls := .type "tuple", data := .seq (slc lo hi vs).toArray } })
    (hsz : vs.length ≤ sizeLine) : wpAny (model prog w) A (getItem (.ref t) (.ref sl)) Q E s := by
  have hdrop : sizeOk (.seq (slc lo hi vs).toArray) := by
    show (slc lo hi vs).toArray.size ≤ sizeLine
    rw [List.size_toArray]
    exact Nat.le_trans (slc_len lo hi vs) hsz
  obtain ⟨os, hos, hcs, hds⟩ := id hs
  have hTs : s.TypeIs (.ref sl) "slice" := ⟨os, hos, hcs⟩
  unfold getItem
  try with_reducible refine wpAny_holding ?_
  first | refine wpAny_bind (wpAny_pure ?_) | skip
  refine wpAny_bind (wpAny_sequenceKey ht.typeIs (by decide) ?_)
  refine wpAny_bind (wpAny_callSpecial?_slot (name := Str.ofString "__getitem__") ht.typeIs slot_tuple_getitem
    (wpAny_call_entry slot_tuple_getitem ht.typeIs entry_tuple_getitem ?_ (args_tuple_getitem _ _)))
  show wpAny _ _ (Builtin.Tuple.tupleItemsOf (.ref t) >>= _) _ _ s
  refine wpAny_bind (tupleItemsOf_ ht ?_)
  refine wpAny_bind (wpAny_typeOf hTs ?_)
  rw [if_pos (by decide)]
  refine wpAny_bind (sliceApplied_any hs pl pu ?_)
  simp only [List.size_toArray]
  have e : (slc lo hi vs).toArray = ((List.range (clipAt hi vs.length vs.length - clipAt lo 0 vs.length)).filterMap fun (k : Nat) => vs.toArray[((clipAt lo 0 vs.length : Int) + (k : Int) * 1).toNat]?).toArray := by
    rw [pick_slc]; rfl
  split
  · rename_i hc
    simp only [Bool.and_eq_true, beq_iff_eq] at hc
    obtain ⟨⟨c1, _⟩, c2⟩ := hc
    have hw : slc lo hi vs = vs := by
      have c1' : clipAt lo 0 vs.length = 0 := by lia
      unfold slc
      rw [c1', Nat.sub_zero, List.drop_zero, List.take_of_length_le (by lia)]
    refine wpAny_bind (m := Builtin.Tuple.tupleIsExact (.ref t)) (wpAny_bind (wpAny_typeOf ht.typeIs (wpAny_pure ?_)))
    rw [if_pos (by decide)]
    first
      | exact wpAny_bind (wpAny_rule (wpAny_bind (wpAny_pure ⟨_, rfl, wpAny_pure (h1 hw)⟩)))
      | exact wpAny_bind (wpAny_rule (wpAny_pure ⟨_, rfl, wpAny_pure (h1 hw)⟩))
      | exact wpAny_bind (wpAny_rule (wpAny_bind (wpAny_pure (wpAny_pure ⟨_, rfl, wpAny_pure (h1 hw)⟩))))
  · rw [← e]
    first
      | exact wpAny_bind (m := Builtin.Tuple.tupleExact _) (wpAny_newObj_type (wpAny_pure ⟨_, rfl, wpAny_pure h⟩) hdrop)
      | exact wpAny_bind (m := Builtin.Tuple.tupleExact _) (wpAny_newObj_type (wpAny_bind (wpAny_pure (wpAny_pure ⟨_, rfl, wpAny_pure h⟩))) hdrop)
      | exact wpAny_bind (wpAny_bind (m := Builtin.Tuple.tupleExact _) (wpAny_newObj_type (wpAny_pure (wpAny_pure ⟨_, rfl, wpAny_pure h⟩)) hdrop))
      | exact wpAny_bind (wpAny_bind (m := Builtin.Tuple.tupleExact _) (wpAny_newObj_type (wpAny_pure ⟨_, rfl, wpAny_pure h⟩) hdrop))
end

theorem RdAll.drop {W : List Addr} {h : Heap} : ∀ {vs : List Value} {ds : List D} {as : List Addr} (k : Nat), RdAll W h vs ds as → ∃ bs, RdAll W h (vs.drop k) (ds.drop k) bs
  | _, _, _, 0, r => ⟨_, r⟩
  | _, _, _, _ + 1, .nil => ⟨[], .nil⟩
  | _, _, _, k + 1, .cons _ h2 => RdAll.drop k h2
theorem RdAll.take {W : List Addr} {h : Heap} : ∀ {vs : List Value} {ds : List D} {as : List Addr} (k : Nat), RdAll W h vs ds as → ∃ bs, RdAll W h (vs.take k) (ds.take k) bs
  | _, _, _, 0, r => ⟨_, by simpa using RdAll.nil⟩
  | _, _, _, _ + 1, .nil => ⟨[], .nil⟩
  | _, _, _, k + 1, .cons h1 h2 => let ⟨_, q⟩ := RdAll.take k h2; ⟨_, .cons h1 q⟩
theorem RdAll.slc {W : List Addr} {h : Heap} {vs : List Value} {ds : List D} {as : List Addr} (lo hi : Option Int) (r : RdAll W h vs ds as) : ∃ bs, RdAll W h (slc lo hi vs) (slc lo hi ds) bs := by
  unfold Mine.slc
  rw [r.length]
  obtain ⟨_, q⟩ := r.drop (clipAt lo 0 ds.length)
  exact q.take _

section
variable {K : Fm} {rho : List (Str × Option D)} {e : Expr} {ds es : List D} {f g : Bool} {p pos np : Pos} {lower upper : Option Expr} {lo hi : Option Int}
def EVP (K : Fm) (rho : List (Str × Option D)) (x : Option Expr) (k : Option Int) : Prop :=
  ∀ W s, Rel K rho W s → ∀ E, wpAny K.M K.A (evalPart x K.env) (fun v s' => Step K.fr s s' ∧ IsPart v k) E s
theorem evp_none : EVP K rho none none := fun _ s _ _ => wpAny_pure ⟨.refl _ s, .none⟩
theorem evp_some {i : Int} (h : EV K rho e (.int i) f) : EVP K rho (some e) (some i) := fun W s R E =>
  h.bind R fun v s1 R1 g => by
    obtain ⟨st, _, q, _⟩ := g
    obtain ⟨t, rfl, _⟩ := q.int_inv
    exact ⟨st, .int i t⟩
theorem subscripted_slice {l u : Option Expr} {o i : Value} : subscripted (.Slice l u none p) false o i = operate [i, o] (getItem o i) := rfl

theorem flat_slc (fl : ∀ d ∈ ds, Flat d) : ∀ d ∈ slc lo hi ds, Flat d := fun d hd => fl d (List.mem_of_mem_drop (List.mem_of_mem_take hd))
theorem ev_slice_list (h : EV K rho e (.list ds) f) (h1 : EVP K rho lower lo) (h2 : EVP K rho upper hi) (hl : ds.length ≤ sizeLine) (fl : ∀ d ∈ ds, Flat d) :
    EV K rho (.Subscript e (.Slice lower upper none p) pos) (.list (slc lo hi ds)) true := fun W s R E =>
  Subscript_ (h.bind R fun v s1 R1 g1 => wpAny_Slice (wpAny_mono (h1 W s1 R1 E) (fun vl s2 q2 => wpAny_mono (h2 W s2 (R1.step q2.1) E) (fun vu s3 q3 => by
    obtain ⟨st2, pl⟩ := q2
    obtain ⟨st3, pu⟩ := q3
    obtain ⟨st1, as, rd, _⟩ := g1
    rw [evalPart_none]
    refine wpAny_pure ?_
    obtain ⟨a, vs, n, bs, rfl, rfl, ho, hr, haW⟩ := ((rd.kf st2.kf).kf st3.kf).list_inv
    have sp := step_push (fr := K.fr) s3 { cls := .type "slice", data := .fields #[vl, vu, .none] }
    have ho' := sp.kf.solid (.inl ⟨_, _, rfl⟩) ho
    have hL := isList_of ho'
    refine tail_any hL.typeIs slot_list_getitem.lookup (wpAny_getItem_list_slice hL (Heap.IsSliceOf.new ..) pl pu .none (by simp) ?_ (by rw [List.size_toArray, hr.length]; exact hl)) subscripted_slice
    rw [slicePick_slc]
    obtain ⟨cs, hc⟩ := hr.slc lo hi
    obtain rfl := Flat.rdAll hc (flat_slc fl)
    have R4 := ((R1.step st2).step st3).step sp
    refine Got.newList (s1 := { s3 with heap := s3.heap.push { cls := .type "slice", data := .fields #[vl, vu, .none] } }) R4.off ⟨((st1.trans st2).trans st3).trans sp, [], hc.kf sp.kf, fun _ => ⟨.nil, fun a ha => nomatch ha⟩⟩) fun _ _ q => q) fun _ _ q => q))
theorem ev_slice_tuple (h : EV K rho e (.tuple ds) f) (h1 : EVP K rho lower lo) (h2 : EVP K rho upper hi) (hl : ds.length ≤ sizeLine) :
    EV K rho (.Subscript e (.Slice lower upper none p) pos) (.tuple (slc lo hi ds)) false := fun W s R E =>
  Subscript_ (h.bind R fun v s1 R1 g1 => wpAny_Slice (wpAny_mono (h1 W s1 R1 E) (fun vl s2 q2 => wpAny_mono (h2 W s2 (R1.step q2.1) E) (fun vu s3 q3 => by
    obtain ⟨st2, pl⟩ := q2
    obtain ⟨st3, pu⟩ := q3
    obtain ⟨st1, as, rd, _⟩ := g1
    rw [evalPart_none]
    refine wpAny_pure ?_
    have rd3 := (rd.kf st2.kf).kf st3.kf
    obtain ⟨a, vs, n, rfl, ho, hr, haW⟩ := id rd3.tuple_inv
    have sp := step_push (fr := K.fr) s3 { cls := .type "slice", data := .fields #[vl, vu, .none] }
    have ho' := sp.kf.solid (.inl ⟨_, _, rfl⟩) ho
    have hL := isTup_of ho'
    have stA := ((st1.trans st2).trans st3).trans sp
    have R4 := ((R1.step st2).step st3).step sp
    obtain ⟨cs, hc⟩ := hr.slc lo hi
    refine tail_any hL.typeIs slot_tuple_getitem.lookup (getItem_tuple_slc hL (Heap.IsSliceOf.new ..) pl pu (fun hw => ?_) ?_ (by rw [hr.length]; exact hl)) subscripted_slice
    · have hw' : slc lo hi ds = ds := by
        have hlen := hr.length
        have e2 : (slc lo hi vs).length = vs.length := by rw [hw]
        have e3 : min (clipAt hi ds.length ds.length - clipAt lo 0 ds.length) (ds.length - clipAt lo 0 ds.length) = ds.length := by
          simp only [slc, List.length_take, List.length_drop, hlen] at e2; exact e2
        have e5 := Nat.le_trans (Nat.le_of_eq e3.symm) (Nat.min_le_right _ _)
        have e6 := Nat.le_trans (Nat.le_of_eq e3.symm) (Nat.min_le_left _ _)
        have e4 : clipAt lo 0 ds.length = 0 ∨ ds.length = 0 := by
          clear e3 e6 e2; lia
        rcases e4 with e4 | e4
        · unfold slc
          rw [e4, List.drop_zero, Nat.sub_zero]
          exact List.take_of_length_le (Nat.le_trans e6 (Nat.sub_le _ _))
        · obtain rfl := List.eq_nil_of_length_eq_zero e4
          simp [slc]
      rw [hw']
      exact ⟨stA, _, rd3.kf sp.kf, fun e => nomatch e⟩
    · exact (Got.newTuple (K := K) (s1 := { s3 with heap := s3.heap.push { cls := .type "slice", data := .fields #[vl, vu, .none] } }) R4.off ⟨stA, cs, hc.kf sp.kf, fun e => nomatch e⟩)) fun _ _ q => q) fun _ _ q => q))

variable {l r : Expr}
theorem ev_add_list (h1 : EV K rho l (.list ds) f) (h2 : EV K rho r (.list es) g) (hl : ds.length + es.length ≤ sizeLine) (fl : ∀ d ∈ ds, Flat d) (fl2 : ∀ d ∈ es, Flat d) : EV K rho (.BinOp l .Add r pos) (.list (ds ++ es)) true :=
  ev_bin h1 h2 fun W s s2 v1 v2 E R R2 g1 g2 => by
    obtain ⟨st, as, q1, _⟩ := g1
    obtain ⟨_, bs, q2, _⟩ := g2
    obtain ⟨a, vs, n, as', rfl, rfl, ho, hr, haW⟩ := q1.list_inv
    obtain ⟨b, ws, n2, bs', rfl, rfl, ho2, hr2, hbW⟩ := q2.list_inv
    refine PySem.P.add_list ho ho2 ?_ (by simp only [List.size_toArray, hr.length, hr2.length]; exact hl)
    obtain rfl := Flat.rdAll hr fl
    obtain rfl := Flat.rdAll hr2 fl2
    have e : vs.toArray ++ ws.toArray = (vs ++ ws).toArray := by simp
    rw [e]
    exact Got.newList R2.off ⟨st, [], hr.append hr2, fun _ => ⟨.nil, fun a ha => nomatch ha⟩⟩
theorem ev_add_tuple (h1 : EV K rho l (.tuple ds) f) (h2 : EV K rho r (.tuple es) g) (hl : ds.length + es.length ≤ sizeLine) : EV K rho (.BinOp l .Add r pos) (.tuple (ds ++ es)) false :=
  ev_bin h1 h2 fun W s s2 v1 v2 E R R2 g1 g2 => by
    obtain ⟨st, as, q1, _⟩ := g1
    obtain ⟨_, bs, q2, _⟩ := g2
    obtain ⟨a, vs, n, rfl, ho, hr, haW⟩ := id q1.tuple_inv
    obtain ⟨b, ws, n2, rfl, ho2, hr2, hbW⟩ := id q2.tuple_inv
    by_cases c1 : vs.toArray.isEmpty = true
    · have : ds = [] := List.eq_nil_of_length_eq_zero (by rw [← hr.length]; simpa using c1)
      subst this
      exact concat_meets ⟨_, ho, rfl⟩ ⟨_, ho2, rfl⟩ noFill_tuple_add seq_tuple_add F.slot_tuple_add F.entry_tuple_add (F.args_tuple_add_2 _ _) (tuple_addW0 a b vs.toArray ws.toArray n n2 none none #[] #[] c1) ⟨ho, ho2, ⟨st, _, q2, fun e => nomatch e⟩⟩
    by_cases c2 : ws.toArray.isEmpty = true
    · have : es = [] := List.eq_nil_of_length_eq_zero (by rw [← hr2.length]; simpa using c2)
      subst this
      rw [List.append_nil]
      exact concat_meets ⟨_, ho, rfl⟩ ⟨_, ho2, rfl⟩ noFill_tuple_add seq_tuple_add F.slot_tuple_add F.entry_tuple_add (F.args_tuple_add_2 _ _) (tuple_addW1 a b vs.toArray ws.toArray n n2 none none #[] #[] c1 c2) ⟨ho, ho2, ⟨st, _, q1, fun e => nomatch e⟩⟩
    refine PySem.P.add_tuple ho ho2 c1 c2 ?_ (by simp only [List.size_toArray, hr.length, hr2.length]; exact hl)
    have e : vs.toArray ++ ws.toArray = (vs ++ ws).toArray := by simp
    rw [e]
    exact Got.newTuple R2.off ⟨st, _, hr.append hr2, fun e => nomatch e⟩

theorem in1_handled (hh : K.A.handled = none) : K.A.in1.handled = none := hh
theorem bc_all (hh : K.A.handled = none) {B : List Bool} : BC K (.builtin "all") [.list (B.map .bool)] (.bool (B.all id)) true := fun W s vs as E kk _ hW r => by
  obtain ⟨v, rfl, r1⟩ := rd1 r
  obtain ⟨l, ws, n, bs, rfl, _, ho, hr, hlW⟩ := r1.list_inv
  have hlen : ws.toArray.size = B.length := by rw [List.size_toArray, hr.length, List.length_map]
  refine call_all_walk (wpAny_pyIter_list (isList_of ho) ⟨s.heap.objs.size, [s.heap.objs.size, l], [s.heap.objs.size], B.length, _, _, (fun i => B.getD i false), rfl, hlen ▸ Walks.list (in1_handled hh) s.heap.objs.size l (Nat.ne_of_lt (Heap.lt_size ho)) ws.toArray, ?_, ?_, ?_⟩)
  · exact ⟨⟨_, Heap.get?_push_size _ rfl, rfl, rfl⟩, (isList_of ho).push _⟩
  · intro i v s1 Q E1 hv q
    obtain ⟨d, cs, e1, e2, _⟩ := hr.getv i v (by simpa using hv)
    rw [List.getElem?_map] at e1
    obtain ⟨x, hx, rfl⟩ := Option.map_eq_some_iff.mp e1
    obtain ⟨rfl, _⟩ := e2.bool_inv
    have : B.getD i false = x := by simp [List.getD, hx]
    have q' : Q (B.getD i false) s1 := q
    rw [this] at q'
    exact wpAny_truthy_bool q'
  · intro h' tk hk
    have e : (List.range B.length).all (fun i => B.getD i false) = B.all id := by
      rw [Bool.eq_iff_iff, List.all_eq_true, List.all_eq_true]
      constructor
      · intro h b hb
        obtain ⟨i, hi, rfl⟩ := List.getElem_of_mem hb
        have := h i (List.mem_range.mpr hi)
        simpa [List.getD, hi] using this
      · intro h i hi
        have hi := List.mem_range.mp hi
        have := h B[i] (List.getElem_mem hi)
        simpa [List.getD, hi] using this
    rw [e]
    refine .intro_bool ⟨⟨_, _, rfl⟩, fun b o e => .inl (hk b o (fun hm => ?_) (Heap.get?_push_of_some _ e))⟩ _
    obtain rfl := List.mem_singleton.mp hm
    rw [get?_size] at e; cases e
theorem ev_all (hx : GN K "all") (hh : K.A.handled = none) {B : List Bool} (h : EV K rho e (.list (B.map .bool)) f) (n1 : noStar e = true) : EV K rho (.Call (.Name "all" np) [e] [] pos) (.bool (B.all id)) true :=
  ev_bcall hx (by decide +kernel) PyProof.Rows.Boot.«all» rfl (evs_cons h evs_nil n1) (by simp [n1]) (bc_all hh)
theorem ev_int_bool (hx : GN K "int") {b : Bool} (h : EV K rho e (.bool b) f) (n1 : noStar e = true) : EV K rho (.Call (.Name "int" np) [e] [] pos) (.int (if b then 1 else 0)) true :=
  ev_bcall hx (by decide +kernel) PyProof.Rows.Boot.«int» rfl (evs_cons h evs_nil n1) (by simp [n1]) bc_int_bool

theorem ev_const {x : Str} {i : Int} (hx : GN K x) (hxd : gnameOk x = true) (hc : ∃ t, K.G.mg x = some (.int i t)) : EV K rho (.Name x np) (.int i) true := fun W s R E => by
  obtain ⟨t, ht⟩ := hc
  refine Calls.Name_function_global R.ok.kindE (R.ok.kindOf hx) ?_ (by simpa [gnameOk] using hxd)
  exact Calls.loadGlobal_global (mg := K.G.mg) (by rw [R.ok.globals]; exact R.ok.gl.g.keeps R.stays) ht (.intro_int (.refl _ s) _)
end
end Mine
end

section
set_option autoImplicit false
namespace Mine
open PySem

abbrev tI (r : List Int) : D := .tuple (r.map .int)
abbrev natD (i : Nat) : D := .int (i : Int)
theorem flat_tI (r : List Int) : Flat (tI r) := .tuple V.flat_int
structure FlatK {α : Type} (T : α → D) : Prop where
  out : ∀ a, Flat (T a)
  cl : ∀ a, clean (T a) = true
theorem clean_map {α : Type} {T : α → D} (h : ∀ a, clean (T a) = true) : ∀ l : List α, cleanAll (l.map T) = true
  | [] => rfl
  | a :: l => by rw [List.map_cons, cleanAll, h a, clean_map h l]; rfl
theorem clean_ints (L : List Int) : cleanAll (L.map .int) = true := clean_map (fun _ => rfl) L
theorem clean_tI (r : List Int) : clean (tI r) = true := clean_ints r
theorem clean_rows (R : List (List Int)) : cleanAll (R.map tI) = true := clean_map clean_tI R
theorem FlatK.map {α : Type} {T : α → D} (h : FlatK T) {l : List α} : ∀ d ∈ l.map T, Flat d := by
  intro d hd
  obtain ⟨r, _, rfl⟩ := List.mem_map.mp hd
  exact h.out r

structure XIt (K : Fm) (rho : List (Str × Option D)) (e : Expr) (ds : List D) : Prop where
  out : IT K rho e ds
structure XIa (K : Fm) (rho : List (Str × Option D)) (e : Expr) (ds : List D) : Prop where
  out : ITany K rho e ds
structure XIw (K : Fm) (rho : List (Str × Option D)) (e : Expr) (ps : List (D × D)) : Prop where
  out : IT2 K rho e ps
structure XCp (rho : List (Str × Option D)) (cn : List Str) (caps : List (Str × D)) : Prop where
  out : ∀ q ∈ caps, (q.1, some q.2) ∈ rho
  nm : caps.map (·.1) = cn
def capG : List (Str × D) → Sg
  | [] => []
  | (x, d) :: r => (x, .fz d) :: capG r
theorem capG_eq : ∀ caps : List (Str × D), caps.map (fun q => (q.1, Sl.fz q.2)) = capG caps
  | [] => rfl
  | (x, d) :: r => by rw [List.map_cons, capG_eq r]; rfl
structure XMo (g : Sg) (x : Str) (d : D) : Prop where
  out : (x, Sl.ow d) ∈ g
structure XEP (K : Fm) (rho : List (Str × Option D)) (x : Option Expr) (k : Option Int) : Prop where
  out : EVP K rho x k
structure XF (K : Fm) (e : Expr) : Prop where
  out : ∀ x, foldedSetIterable e K.env x = pure x
structure XN (G : Gx) (x : Str) (i : Int) : Prop where
  out : ∃ t, G.mg x = some (.int i t)

namespace V
theorem fk_int : FlatK PyData.int := ⟨fun a => .int a, fun _ => rfl⟩
theorem fk_bool : FlatK PyData.bool := ⟨fun a => .bool a, fun _ => rfl⟩
theorem fk_tI : FlatK tI := ⟨flat_tI, clean_tI⟩
theorem o_hd {x : Str} {d : D} {g : Sg} : XMo ((x, .ow d) :: g) x d := ⟨.head _⟩
theorem o_tl {x y : Str} {d : D} {o : Sl} {g : Sg} (h : XMo g x d) : XMo ((y, o) :: g) x d := ⟨.tail _ h.out⟩
theorem cp_nil {rho : List (Str × Option D)} : XCp rho [] [] := ⟨fun _ h => (nomatch h), rfl⟩
theorem cp_cons {rho : List (Str × Option D)} {x : Str} {d : D} {cn : List Str} {caps : List (Str × D)} (h : XM rho x d) (t : XCp rho cn caps) : XCp rho (x :: cn) ((x, d) :: caps) :=
  ⟨fun q hq => by rcases List.mem_cons.mp hq with rfl | hq; exact h.out; exact t.out q hq, by rw [List.map_cons, t.nm]⟩

section
variable {K : Fm} {rho : List (Str × Option D)} {e e2 l r i : Expr} {pos np p : Pos} {f g fr : Bool} {a b k : Int} {ds es : List D} {d d1 d2 : D} {x : Str} {α β γ : Type} {T : α → D} {L M : List α}
theorem hold {elt : Expr} {gens : List Comprehension} {sc : Scope} (h : XE K rho (.ListComp elt gens sc pos) d f) : XE K rho (.ListComp elt gens sc pos) d f := h
theorem cast {d' : D} (h : XE K rho e d f) (q : Side (d = d')) : XE K rho e d' f := q.out ▸ h
theorem up {f' : Bool} (h : XE K rho e d f) (fl : Flat d) : XE K rho e d f' := ⟨h.out.up fl⟩
theorem name_tI {R : List Int} (h : XM rho x (.tuple (R.map .int))) : XE K rho (.Name x pos) (.tuple (R.map .int)) true := ⟨(ev_name h.out).up (flat_tI R)⟩
theorem const (hx : XG K x) (hn : XN K.G x a) (hd : Look (gnameOk x)) : XE K rho (.Name x np) (.int a) true := ⟨ev_const hx.out hd.out hn.out⟩
theorem item_k {L : List α} (h : XE K rho e (.list (L.map T)) f) (h2 : XE K rho i (.int k) g) (ft : FlatK T) (z : α) (hk : Side (0 ≤ k ∧ k < L.length)) (hl : Side (L.length < 1000000000)) (hn : Look (noSlice i)) : XE K rho (.Subscript e i pos) (T (L.getD k.toNat z)) true := by
  have h0 := hk.out
  have hl := hl.out
  have hk : k.toNat < L.length := by omega
  exact ⟨(ev_item_list h.out h2.out (j := k.toNat) (ixOf_pos h0.1 (by simpa using h0.2)) (d := T (L.getD k.toNat z)) (by simp [List.getD, hk]) hn.out (by omega)).up (ft.out _)⟩
theorem item_row {R : List (List Int)} (h : XE K rho e (.list (R.map tI)) f) (h2 : XE K rho i (.int k) g) (hk : Side (0 ≤ k ∧ k < R.length)) (hl : Side (R.length < 1000000000)) (hn : Look (noSlice i)) : XE K rho (.Subscript e i pos) (.tuple ((R.getD k.toNat []).map .int)) true :=
  item_k h h2 fk_tI [] hk hl hn
theorem slc_map (lo hi : Option Int) : slc lo hi (L.map T) = (slc lo hi L).map T := by simp [slc]
theorem slc_to {n : Int} (h : 0 ≤ n) : slc none (some n) L = L.take n.toNat := by
  have : ¬ n < 0 := by lia
  simp only [slc, clipAt, this, if_false, List.drop_zero, Nat.sub_zero]
  by_cases c : n.toNat ≤ L.length
  · rw [Nat.min_eq_left c]
  · rw [Nat.min_eq_right (by lia), List.take_of_length_le (Nat.le_refl _), List.take_of_length_le (by lia)]
theorem slc_from {n : Int} (h : 0 ≤ n) : slc (some n) none L = L.drop n.toNat := by
  have : ¬ n < 0 := by lia
  simp only [slc, clipAt, this, if_false]
  by_cases c : n.toNat ≤ L.length
  · rw [Nat.min_eq_left c, List.take_of_length_le (by simp)]
  · rw [Nat.min_eq_right (by lia), List.drop_of_length_le (Nat.le_refl _), List.drop_of_length_le (by lia)]; simp
theorem slc_last : slc none (some (-1)) L = L.dropLast := by
  have : (-1 : Int) < 0 := by decide
  simp only [slc, clipAt, this, if_true, List.drop_zero, Nat.sub_zero]
  rw [List.dropLast_eq_take]
  congr 1
  lia
theorem slice_to (h : XE K rho e (.list (L.map T)) f) (h2 : XE K rho i (.int k) g) (ft : FlatK T) (hk : Side (0 ≤ k)) (hl : Side (L.length ≤ sizeLine)) : XE K rho (.Subscript e (.Slice none (some i) none p) pos) (.list ((L.take k.toNat).map T)) true := by
  have := ev_slice_list (p := p) (pos := pos) h.out evp_none (evp_some h2.out) (by simpa using hl.out) ft.map
  rw [slc_map, slc_to hk.out] at this
  exact ⟨this⟩
theorem slice_from (h : XE K rho e (.list (L.map T)) f) (h2 : XE K rho i (.int k) g) (ft : FlatK T) (hk : Side (0 ≤ k)) (hl : Side (L.length ≤ sizeLine)) : XE K rho (.Subscript e (.Slice (some i) none none p) pos) (.list ((L.drop k.toNat).map T)) true := by
  have := ev_slice_list (p := p) (pos := pos) h.out (evp_some h2.out) evp_none (by simpa using hl.out) ft.map
  rw [slc_map, slc_from hk.out] at this
  exact ⟨this⟩
theorem slice_last (h : XE K rho e (.list (L.map T)) f) (h2 : XE K rho i (.int k) g) (ft : FlatK T) (hk : Side (k = -1)) (hl : Side (L.length ≤ sizeLine)) : XE K rho (.Subscript e (.Slice none (some i) none p) pos) (.list (L.dropLast.map T)) true := by
  obtain rfl := hk.out
  have := ev_slice_list (p := p) (pos := pos) h.out evp_none (evp_some h2.out) (by simpa using hl.out) ft.map
  rw [slc_map, slc_last] at this
  exact ⟨this⟩
theorem flat_tup (ft : FlatK T) : Flat (.tuple (L.map T)) := .tuple ft.map
theorem slice_toT (h : XE K rho e (.tuple (L.map T)) f) (h2 : XE K rho i (.int k) g) (ft : FlatK T) (hk : Side (0 ≤ k)) (hl : Side (L.length ≤ sizeLine)) : XE K rho (.Subscript e (.Slice none (some i) none p) pos) (.tuple ((L.take k.toNat).map T)) true := by
  have := ev_slice_tuple (p := p) (pos := pos) h.out evp_none (evp_some h2.out) (by simpa using hl.out)
  rw [slc_map, slc_to hk.out] at this
  exact ⟨this.up (flat_tup ft)⟩
theorem slice_fromT (h : XE K rho e (.tuple (L.map T)) f) (h2 : XE K rho i (.int k) g) (ft : FlatK T) (hk : Side (0 ≤ k)) (hl : Side (L.length ≤ sizeLine)) : XE K rho (.Subscript e (.Slice (some i) none none p) pos) (.tuple ((L.drop k.toNat).map T)) true := by
  have := ev_slice_tuple (p := p) (pos := pos) h.out (evp_some h2.out) evp_none (by simpa using hl.out)
  rw [slc_map, slc_from hk.out] at this
  exact ⟨this.up (flat_tup ft)⟩
theorem addl (h1 : XE K rho l (.list (L.map T)) f) (h2 : XE K rho r (.list (M.map T)) g) (ft : FlatK T) (hl : Side (L.length + M.length ≤ sizeLine)) : XE K rho (.BinOp l .Add r pos) (.list ((L ++ M).map T)) true := by
  have := ev_add_list (pos := pos) h1.out h2.out (by simpa using hl.out) ft.map ft.map
  rw [← List.map_append] at this
  exact ⟨this⟩
theorem addt (h1 : XE K rho l (.tuple (L.map T)) f) (h2 : XE K rho r (.tuple (M.map T)) g) (ft : FlatK T) (hl : Side (L.length + M.length ≤ sizeLine)) : XE K rho (.BinOp l .Add r pos) (.tuple ((L ++ M).map T)) true := by
  have := ev_add_tuple (pos := pos) h1.out h2.out (by simpa using hl.out)
  rw [← List.map_append] at this
  exact ⟨this.up (flat_tup ft)⟩
theorem all {L : List Bool} (hx : XG K "all") (h : XE K rho e (.list (L.map .bool)) f) (hh : XH K) (n1 : Look (noStar e)) : XE K rho (.Call (.Name "all" np) [e] [] pos) (.bool (L.all id)) true := ⟨ev_all hx.out hh.out h.out n1.out⟩
theorem int_bool {bb : Bool} (hx : XG K "int") (h : XE K rho e (.bool bb) f) (n1 : Look (noStar e)) : XE K rho (.Call (.Name "int" np) [e] [] pos) (.int (if bb then 1 else 0)) true := ⟨ev_int_bool hx.out h.out n1.out⟩
theorem list_copy (hx : XG K "list") (h1 : XE K rho e (.list (L.map T)) f) (ft : FlatK T) (hl : Side (L.length ≤ sizeLine)) (n1 : Look (noStar e)) : XE K rho (.Call (.Name "list" np) [e] [] pos) (.list (L.map T)) true := ⟨ev_list_list hx.out h1.out (by simpa using hl.out) ft.map n1.out⟩
theorem tuple_k (hx : XG K "tuple") (h1 : XE K rho e (.list (L.map T)) f) (ft : FlatK T) (hl : Side (L.length ≤ sizeLine)) (n1 : Look (noStar e)) : XE K rho (.Call (.Name "tuple" np) [e] [] pos) (.tuple (L.map T)) true :=
  ⟨ev_tuple_list' hx.out h1.out (by simpa using hl.out) ft.map n1.out⟩
theorem len_k (hx : XG K "len") (h1 : XE K rho e (.list (L.map T)) f) (hl : Side (L.length ≤ sizeLine)) (n1 : Look (noStar e)) : XE K rho (.Call (.Name "len" np) [e] [] pos) (.int L.length) true := by
  have := ev_len_list (np := np) (pos := pos) hx.out h1.out (by simpa using hl.out) n1.out
  rw [List.length_map] at this
  exact ⟨this⟩
theorem len_kT (hx : XG K "len") (h1 : XE K rho e (.tuple (L.map T)) f) (hl : Side (L.length ≤ sizeLine)) (n1 : Look (noStar e)) : XE K rho (.Call (.Name "len" np) [e] [] pos) (.int L.length) true := by
  have := ev_len_tuple (np := np) (pos := pos) hx.out h1.out (by simpa using hl.out) n1.out
  rw [List.length_map] at this
  exact ⟨this⟩
theorem k_nil : XL K rho [] (([] : List α).map T) true := ⟨evs_nil⟩
theorem k_cons {es : List Expr} {a : α} (h : XE K rho e (T a) true) (k : XL K rho es (L.map T) true) (hn : Look (noStar e)) : XL K rho (e :: es) ((a :: L).map T) true := ⟨evs_cons h.out k.out hn.out⟩
theorem it_list (h : XE K rho e (.list ds) f) (hh : XH K) : XIt K rho e ds := ⟨Mine.it_list hh.out h.out⟩
theorem it_tuple (h : XE K rho e (.tuple ds) f) (hh : XH K) : XIt K rho e ds := ⟨Mine.it_tuple hh.out h.out⟩
theorem rangeD0 : rangeD 0 b = (List.range b.toNat).map natD := by simp [rangeD]
theorem ia_range1 (hx : XG K "range") (h : XE K rho e (.int b) f) (hh : XH K) (hn : Look (noStar e)) (hb : Side (-(2 ^ 62) ≤ b ∧ b < 2 ^ 62)) : XIa K rho (.Call (.Name "range" np) [e] [] pos) ((List.range b.toNat).map natD) := by
  have := it_range1 (np := np) (pos := pos) hh.out hx.out h.out hn.out hb.out
  rw [rangeD0] at this
  exact ⟨this⟩
theorem it_any (h : XIa K rho e ds) : XIt K rho e ds := ⟨h.out.it⟩
theorem enum_typed {S : α → D} {A : List α} : enumD (A.map S) = A.zipIdx.map fun q => (natD q.2, S q.1) := by
  apply List.ext_getElem
  · simp [enumD_len]
  · intro i h1 h2
    simp [enumD]
theorem iw_enumT {S : α → D} {A : List α} (hx : XG K "enumerate") (h : XE K rho e (.tuple (A.map S)) f) (hh : XH K) (hn : Look (noStar e)) : XIw K rho (.Call (.Name "enumerate" np) [e] [] pos) (A.zipIdx.map fun q => (natD q.2, S q.1)) := by
  have := it2_enum_tuple (np := np) (pos := pos) hh.out hx.out h.out hn.out
  rw [enum_typed] at this
  exact ⟨this⟩

variable {elt iter : Expr} {sc2 sc : Scope} {y : Str} {px py tp : Pos} {kt : Nat}
theorem filter_tt {xs : List α} : xs.filter (fun _ => true) = xs := by simp
theorem comp {S : α → D} {T : β → D} {xs : List α} (F : α → β) (cn own : List Str) {caps : List (Str × D)} {G : Gx} {mr : Nat} (it : XIt K rho iter (xs.map S)) (hsc : K.sc = sc) (ok : Look (compOkB sc2 sc [x] cn own)) (hc : XCp rho cn caps) (hl : Side (xs.length ≤ sizeLine)) (hs : XF K iter) (hh : XH K) (hG : K.G = G) (hR : K.room = mr)
    (body : ∀ K2 : Fm, K2.G = G → K2.sc = relabelS sc2 sc → K2.own = own → K2.room = mr → K2.A.handled = none → ∀ a ∈ xs, XE K2 (fullOf ((x, .fz (S a)) :: capG caps)) elt (T (F a)) fr) :
    XE K rho (.ListComp elt [⟨.Name x px, iter, [], 0⟩] sc2 pos) (.list ((xs.map F).map T)) fr := by
  simp only [← capG_eq] at body
  have := ev_comp1 (pos := pos) (px := px) (elt := elt) (ifs := []) (p := fun _ => true) (ψ := fun a => T (F a)) (f := fr) it.out hsc (compOk_of (hc.nm ▸ ok.out)) hc.out hl.out hs.out fun K2 a b c d e v hv => ⟨rfl, fun _ => (body K2 (a.trans hG) b c (d.trans hR) (e.trans hh.out) v hv).out⟩
  rw [filter_tt] at this
  rw [List.map_map]
  exact ⟨this⟩
theorem compf {S : α → D} {T : β → D} {xs : List α} {t : Expr} (P : α → Bool) (F : α → β) (cn own : List Str) {caps : List (Str × D)} {G : Gx} {mr : Nat} (it : XIt K rho iter (xs.map S)) (hsc : K.sc = sc) (ok : Look (compOkB sc2 sc [x] cn own)) (hc : XCp rho cn caps) (hl : Side (xs.length ≤ sizeLine)) (hs : XF K iter) (hh : XH K) (hG : K.G = G) (hR : K.room = mr)
    (body : ∀ K2 : Fm, K2.G = G → K2.sc = relabelS sc2 sc → K2.own = own → K2.room = mr → K2.A.handled = none → ∀ a ∈ xs, XT K2 (fullOf ((x, .fz (S a)) :: capG caps)) t (P a) ∧ (P a = true → XE K2 (fullOf ((x, .fz (S a)) :: capG caps)) elt (T (F a)) fr)) :
    XE K rho (.ListComp elt [⟨.Name x px, iter, [t], 0⟩] sc2 pos) (.list (((xs.filter P).map F).map T)) fr := by
  simp only [← capG_eq] at body
  have := ev_comp1 (pos := pos) (px := px) (elt := elt) (ifs := [t]) (p := P) (ψ := fun a => T (F a)) (f := fr) it.out hsc (compOk_of (hc.nm ▸ ok.out)) hc.out hl.out hs.out fun K2 a b c d e v hv => ⟨(body K2 (a.trans hG) b c (d.trans hR) (e.trans hh.out) v hv).1.out, fun q => ((body K2 (a.trans hG) b c (d.trans hR) (e.trans hh.out) v hv).2 q).out⟩
  rw [List.map_map]
  exact ⟨this⟩
end

theorem depth_ints {L : List Int} : PyData.depthAll (L.map .int) ≤ 0 := by
  induction L with
  | nil => simp [PyData.depthAll]
  | cons a L ih => simp [PyData.depthAll, PyData.depth] at ih ⊢; exact ih
theorem depth_rows {R : List (List Int)} : PyData.depthAll (R.map tI) ≤ 1 := by
  induction R with
  | nil => simp [PyData.depthAll]
  | cons a L ih =>
    have := depth_ints (L := a)
    simp only [List.map_cons, PyData.depthAll, PyData.depth]; lia
theorem eqv_ints : ∀ {A B : List Int}, PyData.eqvAll (A.map .int) (B.map .int) = decide (A = B)
  | [], [] => rfl
  | [], _ :: _ => rfl
  | _ :: _, [] => rfl
  | a :: A, b :: B => by
    simp only [List.map_cons, PyData.eqvAll, PyData.eqv, eqv_ints, List.cons.injEq, Bool.decide_and]
    congr 1
theorem eqv_rows : ∀ {A B : List (List Int)}, PyData.eqvAll (A.map tI) (B.map tI) = decide (A = B)
  | [], [] => rfl
  | [], _ :: _ => rfl
  | _ :: _, [] => rfl
  | a :: A, b :: B => by
    simp only [List.map_cons, PyData.eqvAll, PyData.eqv, eqv_rows, eqv_ints, List.cons.injEq, Bool.decide_and]
section
variable {K : Fm} {A B : List Int} {R Q : List (List Int)} {ds : List D}
theorem cmp_eqR {d1 d2 : D} (hd : d2.depth ≤ 64) (c1 : clean d1 = true) (c2 : clean d2 = true) : CMP K .Eq d1 d2 (PyData.eqv d1 d2) := fun W s v1 v2 as bs Q E k r1 r2 q =>
  SeqAt.eqOverData K.G.prog K.G.w K.A E s v1 v2 d1 d2 as bs Q (r1.reads c1) (r2.reads c2) (r1.lay c1) (r2.lay c2) (Nat.lt_of_le_of_lt (Nat.add_le_add_left (Nat.min_le_right _ _) _) (units_line k hd)) (q s.toks)
theorem cmp_neR {d1 d2 : D} (hd : d2.depth ≤ 64) (c1 : clean d1 = true) (c2 : clean d2 = true) : CMP K .NotEq d1 d2 (!PyData.eqv d1 d2) := fun W s v1 v2 as bs Q E k r1 r2 q =>
  SeqAt.neOverData K.G.prog K.G.w K.A E s v1 v2 d1 d2 as bs Q (r1.reads c1) (r2.reads c2) (r1.lay c1) (r2.lay c2) (Nat.lt_of_le_of_lt (Nat.add_le_add_left (Nat.min_le_right _ _) _) (units_line k hd)) (q s.toks)
theorem eqv_nil : PyData.eqv (.list ds) (.list []) = ds.isEmpty := by cases ds <;> rfl
theorem ceq_nil {α : Type} {T : α → D} {L : List α} (ft : FlatK T) : XC K .Eq (.list (L.map T)) (.list []) L.isEmpty := by
  have := cmp_eqR (K := K) (d1 := .list (L.map T)) (d2 := .list []) (by decide) (clean_map ft.cl L) rfl
  rw [eqv_nil, List.isEmpty_map] at this
  exact ⟨this⟩
theorem cne_nil {α : Type} {T : α → D} {L : List α} (ft : FlatK T) : XC K .NotEq (.list (L.map T)) (.list []) (!L.isEmpty) := by
  have := cmp_neR (K := K) (d1 := .list (L.map T)) (d2 := .list []) (by decide) (clean_map ft.cl L) rfl
  rw [eqv_nil, List.isEmpty_map] at this
  exact ⟨this⟩
theorem ceq_rows : XC K .Eq (.list (R.map tI)) (.list (Q.map tI)) (decide (R = Q)) := by
  have := cmp_eq (K := K) (d1 := .list (R.map tI)) (d2 := .list (Q.map tI)) (by have := depth_rows (R := R); simp only [PyData.depth]; lia) (clean_rows R) (clean_rows Q)
  rw [PyData.eqv, eqv_rows] at this
  exact ⟨this⟩
theorem cne_rows : XC K .NotEq (.list (R.map tI)) (.list (Q.map tI)) (!decide (R = Q)) := by
  have := cmp_ne (K := K) (d1 := .list (R.map tI)) (d2 := .list (Q.map tI)) (by have := depth_rows (R := R); simp only [PyData.depth]; lia) (clean_rows R) (clean_rows Q)
  rw [PyData.eqv, eqv_rows] at this
  exact ⟨this⟩
end

section
variable {K : Fm} {g g' : Sg} {rest body : List Stmt} {P : Out → Prop} {pos pos' px py tp apos cpos pt pos2 : Pos} {x y t : Str} {e i : Expr} {d : D} {f fi fr b : Bool} {α β : Type} {k kt : Nat}
theorem turnF {o : Out} {I : Sg → Prop} (h : Turn K rest P I o) : TurnF K rest P I o := by cases o <;> first | exact h.out | exact h
theorem for1 {S : α → D} {xs : List α} (J : Nat → Sg → Prop) (it : XIt K (frozOf g) e (xs.map S)) (hx : XO K x) (hs : XF K e) (h0 : J 0 g)
    (step : ∀ (i : Nat) (hi : i < xs.length) g1, J i g1 → ∃ g2, XP g1 x (.fz (S xs[i])) g2 ∧ XS K g2 body (Turn K rest P (J (i + 1)))) (fin : ∀ g', J xs.length g' → XS K g' rest P) :
    XS K g (.For (.Name x px) e body [] pos :: rest) P := by
  have src := src_it (px := px) it.out hx.out
  rw [List.length_map] at src
  refine ⟨sx_for src hs.out J h0 (fun i g1 hi hJ => ?_) fun g' hJ => (fin g' hJ).out⟩
  obtain ⟨g2, p, b⟩ := step i hi g1 hJ
  exact ⟨g2, ⟨S xs[i], by simp [hi], p.out⟩, b.out.mono fun o h => turnF h⟩
theorem forr {n : Nat} (J : Nat → Sg → Prop) (it : XIa K (fullOf g) e ((List.range n).map natD)) (hx : XO K x) (hs : XF K e) (h0 : J 0 g)
    (step : ∀ (i : Nat) (hi : i < n) g1, J i g1 → ∃ g2, XP g1 x (.fz (.int (i : Int))) g2 ∧ XS K g2 body (Turn K rest P (J (i + 1)))) (fin : ∀ g', J n g' → XS K g' rest P) :
    XS K g (.For (.Name x px) e body [] pos :: rest) P := by
  have src := src_any (px := px) it.out hx.out
  rw [List.length_map, List.length_range] at src
  refine ⟨sx_for src hs.out J h0 (fun i g1 hi hJ => ?_) fun g' hJ => (fin g' hJ).out⟩
  obtain ⟨g2, p, b⟩ := step i hi g1 hJ
  exact ⟨g2, ⟨natD i, by simp [hi], p.out⟩, b.out.mono fun o h => turnF h⟩
theorem forw {S S2 : α → D} {xs : List α} (J : Nat → Sg → Prop) (it : XIw K (frozOf g) e (xs.map fun a => (S a, S2 a))) (hh : XH K) (hx : XO K x) (hy : XO K y) (hs : XF K e) (h0 : J 0 g)
    (step : ∀ (i : Nat) (hi : i < xs.length) g1, J i g1 → ∃ gm g2, XP g1 x (.fz (S xs[i])) gm ∧ XP gm y (.fz (S2 xs[i])) g2 ∧ XS K g2 body (Turn K rest P (J (i + 1)))) (fin : ∀ g', J xs.length g' → XS K g' rest P) :
    XS K g (.For (.Tuple [.Name x px, .Name y py] kt tp) e body [] pos :: rest) P := by
  have src := src_it2 (px := px) (py := py) (tp := tp) (k := kt) hh.out it.out hx.out hy.out
  rw [List.length_map] at src
  refine ⟨sx_for src hs.out J h0 (fun i g1 hi hJ => ?_) fun g' hJ => (fin g' hJ).out⟩
  obtain ⟨gm, g2, p, q, b⟩ := step i hi g1 hJ
  exact ⟨g2, ⟨S xs[i], S2 xs[i], gm, by simp [hi], p.out, q.out⟩, b.out.mono fun o h => turnF h⟩
theorem append {T : α → D} {L : List α} {a : α} (hm : XMo g x (.list (L.map T))) (h : XE K (fullOf g) e (T a) true) (p : XP g x (.ow (.list ((L ++ [a]).map T))) g') (hl : Side (L.length ≤ sizeLine)) (hn : Look (noStar e)) (hline : Look (apos.endLine == cpos.line)) (k : XS K g' rest P) :
    XS K g (.Expr (.Call (.Attribute (.Name x px) "append" apos) [e] [] cpos) pos :: rest) P :=
  ⟨sx_append hm.out h.out (by have := p.out; rwa [List.map_append] at this) hn.out (by simpa using hl.out) hline.out k.out⟩
theorem setitem {T : α → D} {L : List α} {a : α} {j : Int} (hm : XMo g x (.list (L.map T))) (h : XE K (fullOf g) e (T a) f) (h2 : XE K (fullOf g) i (.int j) fi) (ft : FlatK T) (hj : Side (0 ≤ j ∧ j < L.length)) (hl : Side (L.length ≤ sizeLine)) (p : XP g x (.ow (.list ((L.set j.toNat a).map T))) g') (hc : Look (noComp e)) (k : XS K g' rest P) :
    XS K g (.Assign [.Subscript (.Name x px) i apos] e pos :: rest) P := by
  obtain ⟨j0, j1⟩ := hj.out
  have e1 : j = ((j.toNat : Nat) : Int) := by lia
  have h2' : EV K (fullOf g) i (.int ((j.toNat : Nat) : Int)) fi := e1 ▸ h2.out
  refine ⟨sx_setitem (j := j.toNat) hm.out h.out h2' ft.map (ft.out a) (by simp; lia) (setAt_pos ?_ (by simp; lia)) (by have := p.out; rwa [List.map_set] at this) hc.out k.out⟩
  have := line_lt hl.out
  lia
variable {elt iter : Expr} {sc2 sc : Scope}
theorem setc {S : α → D} {T : β → D} {xs : List α} {sl : Sl} (F : α → β) (cn own : List Str) {caps : List (Str × D)} {G : Gx} {mr : Nat} (hsl : sl = .fz (.list ((xs.map F).map T)) ∨ sl = .ow (.list ((xs.map F).map T)))
    (it : XIt K (fullOf g) iter (xs.map S)) (hsc : K.sc = sc) (ok : Look (compOkB sc2 sc [x] cn own)) (hc : XCp (fullOf g) cn caps) (hl : Side (xs.length ≤ sizeLine)) (hs : XF K iter) (hh : XH K) (hG : K.G = G) (hR : K.room = mr)
    (body : ∀ K2 : Fm, K2.G = G → K2.sc = relabelS sc2 sc → K2.own = own → K2.room = mr → K2.A.handled = none → ∀ a ∈ xs, XE K2 (fullOf ((x, .fz (S a)) :: capG caps)) elt (T (F a)) true)
    (p : XP g t sl g') (ht : XO K t) (k : XS K g' rest P) : XS K g (.Assign [.Name t pt] (.ListComp elt [⟨.Name x px, iter, [], 0⟩] sc2 pos2) pos :: rest) P := by
  simp only [← capG_eq] at body
  refine ⟨sx_comp (rho := fullOf g) (f := true) (res := (xs.map F).map T) (fun W s E use Q R ku => ?_) (.inl ⟨rfl, rfl, hsl⟩) p.out ht.out k.out⟩
  refine comp_run1 (f := true) (l := xs) (p := fun _ => true) (ψ := fun a => T (F a)) R it.out hsc (compOk_of (hc.nm ▸ ok.out)) hc.out hl.out hs.out (fun K2 a b c d e v hv => ⟨rfl, fun _ => (body K2 (a.trans hG) b c (d.trans hR) (e.trans hh.out) v hv).out⟩) ?_
  rw [filter_tt]
  rw [List.map_map] at ku
  exact ku
end
end V
end Mine
end

section
set_option autoImplicit false
namespace Mine
open PySem

theorem sx_expr {K : Fm} {g : Sg} {e : Expr} {pos : Pos} {rest : List Stmt} {P : Out → Prop} {d : D} {f : Bool} (h : EV K (fullOf g) e d f) (hc : noComp e = true) (k : SX K g rest P) : SX K g (.Expr e pos :: rest) P := sx_cons fun W0 W1 s r E => by
  refine wpAny_Expr_any (wpAny_mono (h W0 s r.full E) (fun v s' q => ?_) fun _ _ q => q) (not_interactive r.ok) (swaps_no hc)
  exact ⟨.next g, k, W1, r.step q.1, .of_step q.1⟩
theorem V.sexpr {K : Fm} {g : Sg} {e : Expr} {pos : Pos} {rest : List Stmt} {P : Out → Prop} {d : D} {f : Bool} (h : XE K (fullOf g) e d f) (hc : Look (noComp e)) (k : XS K g rest P) : XS K g (.Expr e pos :: rest) P := ⟨sx_expr h.out hc.out k.out⟩
theorem V.sreto {K : Fm} {g : Sg} {x : Str} {pos pos' : Pos} {rest : List Stmt} {P : Out → Prop} {d : D} (h : XMo g x d) (k : Side (P (.ret d true))) : XS K g (.Return (some (.Name x pos')) pos :: rest) P := ⟨sx_return_own h.out k.out⟩
theorem V.ia_rangeN {K : Fm} {rho : List (Str × Option D)} {e : Expr} {np pos : Pos} {f : Bool} {n : Nat} (hx : XG K "range") (h : XE K rho e (.int (n : Int)) f) (hh : XH K) (hn : Look (noStar e)) (hb : Side (n < 1000000000)) : XIa K rho (.Call (.Name "range" np) [e] [] pos) ((List.range n).map natD) :=
  V.ia_range1 hx h hh hn ⟨by have := hb.out; lia⟩
theorem rets_ok {d : D} {fr : Bool} : Side (Rets d fr (.ret d true)) := ⟨⟨rfl, fun _ => rfl⟩⟩
theorem XK.of {K : Fm} {G : Gx} {n : Nat} {x : Str} {ds : List D} {d : D} {f : Bool} (e : K.G = G) (h : Calls G n x ds d f) : XK K.G n x ds d f := ⟨e ▸ h⟩
theorem XN.of {K : Fm} {G : Gx} {x : Str} {i : Int} (e : K.G = G) (h : XN G x i) : XN K.G x i := e ▸ h
theorem holdk {G : Gx} {n : Nat} {x : Str} {ds : List D} {d : D} {f : Bool} (h : XK G n x ds d f) : XK G n x ds d f := h
theorem V.call4 {K : Fm} {rho : List (Str × Option D)} {x : Str} {np pos : Pos} {e1 e2 e3 e4 : Expr} {d1 d2 d3 d4 d : D} {f1 f2 f3 f4 fr : Bool} {n : Nat} (hx : XG K x) (h1 : XE K rho e1 d1 f1) (h2 : XE K rho e2 d2 f2) (h3 : XE K rho e3 d3 f3) (h4 : XE K rho e4 d4 f4) (c : XK K.G n x [d1, d2, d3, d4] d fr) (hh : XH K) (hxd : Look (gnameOk x))
    (n1 : Look (noStar e1)) (n2 : Look (noStar e2)) (n3 : Look (noStar e3)) (n4 : Look (noStar e4)) (hr : Side (n ≤ K.room)) : XE K rho (.Call (.Name x np) [e1, e2, e3, e4] [] pos) d fr :=
  ⟨ev_call hh.out hx.out hxd.out (evs_cons h1.out (evs_cons h2.out (evs_cons h3.out (evs_cons h4.out evs_nil n4.out) n3.out) n2.out) n1.out) n1.out c.out hr.out⟩
theorem room_ok {K : Fm} {k m : Nat} (e : K.room = m) (h : k ≤ m) : k ≤ K.room := e ▸ h
theorem len_line {l n : Nat} (e : l = n) (h : n ≤ 3) : l ≤ sizeLine := e ▸ Nat.le_trans h (by decide)
theorem len_bil {l n : Nat} (e : l = n) (h : n ≤ 3) : l < 1000000000 := e ▸ Nat.lt_of_le_of_lt h (by decide)
theorem three_bil {n : Nat} (h : n ≤ 3) : n < 1000000000 := Nat.lt_of_le_of_lt h (by decide)
theorem ix_lt {k l : Nat} (h : k < l) : 0 ≤ (k : Int) ∧ (k : Int) < (l : Int) := ⟨Int.natCast_nonneg _, Int.ofNat_lt.mpr h⟩
theorem ix_eq {k l n : Nat} (h : k < n) (e : l = n) : 0 ≤ (k : Int) ∧ (k : Int) < (l : Int) := ix_lt (e ▸ h)
theorem h_bil {l : Nat} (h : l ≤ 100) : l < 1000000000 := Nat.lt_of_le_of_lt h (by decide)
theorem h_bil2 {l n : Nat} (e : l = n) (h : n ≤ 100) : l < 1000000000 := h_bil (e ▸ h)
theorem td_line {α : Type} {r : List α} {a b c : Nat} (h : r.length ≤ c) (hc : c + c ≤ sizeLine) : (r.take a).length + (r.drop b).length ≤ sizeLine :=
  Nat.le_trans (Nat.add_le_add (Nat.le_trans (List.length_take_le' ..) h) (by rw [List.length_drop]; exact Nat.le_trans (Nat.sub_le _ _) h)) hc
theorem cast_nn {k : Nat} : 0 ≤ (k : Int) := Int.natCast_nonneg _
theorem bd1 {P : List Value → Prop} (h : ∀ a, P [a]) (vals : List Value) (e : vals.length = 1) : P vals := by
  obtain ⟨a, rfl⟩ := List.length_eq_one_iff.mp e
  exact h a
theorem bd2 {P : List Value → Prop} (h : ∀ a b, P [a, b]) (vals : List Value) (e : vals.length = 2) : P vals := by
  cases vals with
  | nil => cases e
  | cons a t => exact bd1 (P := fun l => P (a :: l)) (h a) t (Nat.succ.inj e)
theorem bd3 {P : List Value → Prop} (h : ∀ a b c, P [a, b, c]) (vals : List Value) (e : vals.length = 3) : P vals := by
  cases vals with
  | nil => cases e
  | cons a t => exact bd2 (P := fun l => P (a :: l)) (h a) t (Nat.succ.inj e)
theorem bd4 {P : List Value → Prop} (h : ∀ a b c d, P [a, b, c, d]) (vals : List Value) (e : vals.length = 4) : P vals := by
  cases vals with
  | nil => cases e
  | cons a t => exact bd3 (P := fun l => P (a :: l)) (h a) t (Nat.succ.inj e)
def gRest : List Str → Sg
  | [] => []
  | x :: r => (x, .no) :: gRest r
theorem gRest_eq : ∀ r : List Str, r.map (fun x => (x, Sl.no)) = gRest r
  | [] => rfl
  | x :: r => by rw [List.map_cons, gRest_eq r]; rfl
theorem gStart_nil {rest : List Str} : gStart [] [] rest = gRest rest := by simp [gStart, gRest_eq]
theorem gStart_cons {p : Str} {d : D} {ps : List Str} {ds : List D} {rest : List Str} : gStart (p :: ps) (d :: ds) rest = (p, .fz d) :: gStart ps ds rest := by simp [gStart]
def numIs (p : Program) (x : Str) (i : Int) : Bool := match PyProof.Rows.valOf p x with
  | some (.int j) => j == i
  | _ => false
theorem numIs_ok {p : Program} {x : Str} {i : Int} (h : numIs p x i = true) : PyProof.Rows.valOf p x = some (.int i) := by
  unfold numIs at h
  split at h
  · rename_i e; rw [e]; simp at h; rw [h]
  · cases h
theorem num_top {prog view : Program} {w : World} {loose : List Str} {mean : ExcName → Option Value} {mg mb : Str → Option Value} {h : Heap} (T : PyProof.Rows.Top view loose mean mg mb h) (x : Str) (i : Int) (e : numIs view x i = true) : XN ⟨prog, w, h, mg⟩ x i := by
  obtain ⟨v, h1, h2⟩ := T.const x (.int i) (numIs_ok e)
  have := h2 h
  cases this with
  | int _ t => exact ⟨t, h1⟩
structure Nums (G : Gx) : Prop where
  rows : XN G "MOST_ROWS" 3
  great : XN G "GREATEST" 1000000
abbrev Far (G : Gx) : Prop := XN G "FARTHEST" 1000000000000
end Mine
end

section
set_option autoImplicit false
namespace Mine
open PySem PyProof.Rows

def chained : Addr := 85
inductive Trc (h base : Heap) (e : Addr) : Value → Prop
  | none : Trc h base e .none
  | at {T : Addr} {oT : Obj} {ts : Array Value} {fl : Value} : base.get? T = none → T ≠ e → h.get? T = some oT → oT.data = .fields ts → ts[3]? = some fl → Trc h base e (.ref T)
inductive Exc (h base : Heap) (e C : Addr) (v : Value) : Prop
  | mk {oe : Obj} {vs : Array Value} : h.get? e = some oe → oe.cls = .ref C → oe.data = .fields vs → vs[1]? = some v → Trc h base e v → (C ≠ chained → vs[2]? = some .none) → Exc h base e C v
structure Fly (base : Heap) (l : List Env) (e C : Addr) (v : Value) (h : Heap) : Prop where
  stays : base.StaysIn h
  new : base.get? e = none
  frames : h.FunFrames base l
  exc : Exc h base e C v

section
variable {M : Model} {A : Around} {E : Value → Shared → Prop} {s : Shared} {base : Heap} {env : Env} {outer l : List Env} {L e C : Addr} {v : Value} {Q : Unit → Shared → Prop}
theorem nrec {h : Heap} {a b : Addr} {o oa : Obj} {ts : Array Value} (ha : h.get? a = some oa) (hd : oa.data = .fields ts) (hb : h.get? b = some o) (hn : ∀ vs, o.data ≠ .fields vs) : a ≠ b := fun q => by
  rw [q, hb] at ha; cases ha; exact hn ts hd
theorem fly_set {T : Addr} {fl : Value} {l' : List Env} (f : Fly base l e C (.ref T) s.heap) (hl' : s.heap.FunFrames base l → s.heap.FunFrames base l')
    (hQ : ∀ h', Fly base l' e C (.ref T) h' → s.heap.UpToSlots h' → Q () { s with heap := h' }) : wpAny M A (setField (.ref T) 3 fl) Q E s := by
  obtain ⟨f1, f2, f3, ⟨he, hc, hd, h1, ht, h2⟩⟩ := f
  cases ht with
  | @«at» _ oT ts fl0 t1 t2 t3 t4 t5 =>
    have hsz : 3 < ts.size := (Array.getElem?_eq_some_iff.mp t5).1
    have ot : ∀ b, T ≠ b → (s.heap.update T (Obj.mapFields (·.setIfInBounds 3 fl))).get? b = s.heap.get? b := fun b hb => Heap.get?_update_other _ _ hb
    have k : ∀ b o, s.heap.get? b = some o → (∀ vs, o.data ≠ .fields vs) → (s.heap.update T (Obj.mapFields (·.setIfInBounds 3 fl))).get? b = some o := fun b o hb hn => (ot b (nrec t3 t4 hb hn)).trans hb
    refine wpAny_setField t3 t4 hsz (hQ _ ⟨fun b o hb => (ot b fun q => ?_).trans (f1 b o hb), f2, (hl' f3).of_keeps fun b o hb hn => ⟨o, k b o hb hn, rfl⟩, ⟨(ot e t2).trans he, hc, hd, h1, .at (fl := fl) t1 t2 (Heap.get?_update_self _ t3 (Obj.isFreed_of_fields (Obj.data_mapFields t4 _))) (Obj.data_mapFields t4 _) (by simp [hsz]), h2⟩⟩ fun b o hb hn => ⟨o.slots, k b o hb hn⟩)
    rw [← q, t1] at hb; cases hb
theorem fly_land (f : Fly base l e C v s.heap) {l' : List Env} (hl' : s.heap.FunFrames base l → s.heap.FunFrames base l') (hQ : ∀ h', Fly base l' e C v h' → s.heap.UpToSlots h' → Q () { s with heap := h' }) : wpAny M A (setFlight (.ref e) none) Q E s := by
  obtain ⟨f1, f2, f3, ⟨he, hc, hd, h1, ht, h2⟩⟩ := id f
  unfold setFlight
  refine wpAny_bind (wpAny_field he hd h1 ?_)
  cases ht with
  | none => exact wpAny_pure (hQ _ ⟨f1, f2, hl' f3, ⟨he, hc, hd, h1, .none, h2⟩⟩ (.refl _))
  | «at» t1 t2 t3 t4 t5 =>
    rw [if_pos (by simp)]
    exact fly_set f hl' hQ
theorem fly_back {T : Addr} {fr : Option Addr} (f : Fly base l e C (.ref T) s.heap) (hQ : ∀ h', Fly base l e C (.ref T) h' → s.heap.UpToSlots h' → Q () { s with heap := h' }) : wpAny M A (setFlight (.ref e) fr) Q E s := by
  obtain ⟨f1, f2, f3, ⟨he, hc, hd, h1, ht, h2⟩⟩ := id f
  unfold setFlight
  refine wpAny_bind (wpAny_field he hd h1 ?_)
  rw [if_pos (by simp)]
  exact fly_set f id hQ
theorem note_env {env env0 : Env} (h : env.frame = env0.frame) {x : Value} : noteFrame x env = noteFrame x env0 := by
  unfold noteFrame frameOf
  rw [h]
theorem fly_entry {head : Value} {hadNext : Bool} (hfr : A.frames = some (env :: outer)) (hf : env.frame = some L) (f : Fly base (env :: outer) e C v s.heap)
    (hQ : ∀ h' T, Fly base (env :: outer) e C (.ref T) h' → s.heap.UpToSlots h' → Q () { s with heap := h' }) :
    wpAny M A (do let a ← frameOf env; let pl ← entryPlaceOf L hadNext; let b ← EntryCells.newEntry head a .none (rawInt L) .none pl; setField (.ref e) 1 b) Q E s := by
  obtain ⟨f1, f2, f3, ⟨he, hc, hd, h1, _, h2⟩⟩ := f
  have hsz := (Array.getElem?_eq_some_iff.mp h1).1
  refine wpAny_bind (wpAny_frameOf_fun hfr f3 hf fun h₁ sl => wpAny_bind (wpAny_entryPlaceOf fun pl hpl => ?_))
  unfold EntryCells.newEntry newFields
  refine wpAny_bind (wpAny_newObj_type ?_ (hpl.sizeOk5 _ _ _ _ _))
  have e1 : h₁.get? e = some _ := (sl.2.1 e fun hm => by
    obtain ⟨_, o, ho, hn⟩ := f3.mem hm
    exact nrec he hd ho hn rfl).trans he
  have kb : base.StaysIn h₁ := fun b o hb => (sl.2.1 b fun hm => by rw [(f3.mem hm).1] at hb; cases hb).trans (f1 b o hb)
  generalize hob : ({ cls := .type "traceback", dict := none, data := .fields ([head, .ref L, .none, rawInt L, .none] ++ (if pl.isEmpty then List.replicate 6 Value.none else pl)).toArray } : Obj) = ob
  have e2 := Heap.get?_push_of_some ob e1
  have ne : e ≠ h₁.objs.size := Nat.ne_of_lt (Heap.lt_size e1)
  have d3 := Obj.data_mapFields hd (·.setIfInBounds 1 (Value.ref h₁.objs.size))
  have ot : ∀ b o, e ≠ b → h₁.get? b = some o → ((h₁.push ob).update e (Obj.mapFields (·.setIfInBounds 1 (Value.ref h₁.objs.size)))).get? b = some o := fun b o hb q => (Heap.get?_update_other _ _ hb).trans (Heap.get?_push_of_some _ q)
  have k : ∀ b o, s.heap.get? b = some o → (∀ vs, o.data ≠ .fields vs) → ∃ sl', ((h₁.push ob).update e (Obj.mapFields (·.setIfInBounds 1 (Value.ref h₁.objs.size)))).get? b = some { o with slots := sl' } := fun b o hb hn => by
    obtain ⟨sl', q⟩ := sl.2.2 b o hb
    exact ⟨sl', ot b _ (nrec he hd hb hn) q⟩
  refine wpAny_setField e2 hd hsz (hQ _ h₁.objs.size ⟨fun b o hb => ot b o (fun q => ?_) (kb b o hb), f2, f3.of_keeps fun b o hb hn => ?_, ⟨Heap.get?_update_self _ e2 (Obj.isFreed_of_fields d3), (Obj.cls_mapFields _ _).trans hc, d3, by simp [hsz], .at (T := h₁.objs.size) (oT := ob) (ts := ([head, .ref L, .none, rawInt L, .none] ++ (if pl.isEmpty then List.replicate 6 Value.none else pl)).toArray) (fl := rawInt L) kb.fresh (Ne.symm ne) ((Heap.get?_update_other _ _ ne).trans (Heap.get?_push_size h₁ (by rw [← hob]; rfl))) (by rw [← hob]) (by simp), fun q => by rw [Array.getElem?_setIfInBounds_ne (by decide)]; exact h2 q⟩⟩ k)
  · rw [← q, f2] at hb; cases hb
  · obtain ⟨sl', q⟩ := k b o hb hn
    exact ⟨_, q, rfl⟩
theorem fly_note (hfr : A.frames = some (env :: outer)) (hf : env.frame = some L) (f : Fly base (env :: outer) e C v s.heap)
    (hQ : ∀ h' T, Fly base (env :: outer) e C (.ref T) h' → s.heap.UpToSlots h' → Q () { s with heap := h' }) : wpAny M A (noteFrame (.ref e) env) Q E s := by
  obtain ⟨f1, f2, f3, ⟨he, hc, hd, h1, ht, h2⟩⟩ := id f
  unfold noteFrame
  simp only [hf]
  refine wpAny_bind (wpAny_field he hd h1 ?_)
  cases ht with
  | none =>
    rw [if_neg (by decide)]
    exact fly_entry hfr hf f hQ
  | @«at» T oT ts fl t1 t2 t3 t4 t5 =>
    rw [if_pos (show (Value.ref T != Value.none) = true from by simp)]
    refine wpAny_bind (wpAny_field t3 t4 t5 ?_)
    by_cases q : (fl == rawInt L) = true
    · rw [if_pos q]
      exact wpAny_pure (hQ _ T f (.refl _))
    · rw [if_neg q]
      refine wpAny_bind (fly_set f id fun h' f' up => ?_)
      exact fly_entry (s := { s with heap := h' }) hfr hf f' fun h2 T2 f2 up2 => hQ h2 T2 f2 (up.trans up2)
theorem fly_leave (hfr : A.frames = some (env :: outer)) (hf : env.frame = some L) (f : Fly base (env :: outer) e C v s.heap)
    (hQ : ∀ h' T, Fly base outer e C (.ref T) h' → s.heap.UpToSlots h' → Q () { s with heap := h' }) : wpAny M A (leaving env (.ref e)) Q E s := by
  unfold leaving
  refine wpAny_bind (fly_note hfr hf f fun h' T f' up => ?_)
  exact fly_land (s := { s with heap := h' }) f' (fun x => x.2.2) fun h2 f2 up2 => hQ h2 T f2 (up.trans up2)
end
end Mine
end

section
set_option autoImplicit false
namespace Mine
open PySem PyProof.Rows

def mask (h : Heap) (fr : List Addr) : Heap := { h with objs := h.objs.mapIdx fun i o => if i ∈ fr then { o with data := .freed } else o }
theorem mask_in {h : Heap} {fr : List Addr} {a : Addr} (ha : a ∈ fr) : (mask h fr).get? a = none := by
  unfold Heap.get? mask
  simp only [Array.getElem?_mapIdx]
  cases h.objs[a]? with
  | none => rfl
  | some o => simp [ha]
theorem mask_out {h : Heap} {fr : List Addr} {a : Addr} (ha : a ∉ fr) : (mask h fr).get? a = h.get? a := by
  unfold Heap.get? mask
  simp only [Array.getElem?_mapIdx]
  cases h.objs[a]? with
  | none => rfl
  | some o => simp [ha]
theorem mask_some {h : Heap} {fr : List Addr} {a : Addr} {o : Obj} (e : (mask h fr).get? a = some o) : a ∉ fr ∧ h.get? a = some o := by
  by_cases ha : a ∈ fr
  · rw [mask_in ha] at e; cases e
  · exact ⟨ha, (mask_out ha).symm.trans e⟩

def Cover (fr : List Addr) (h base : Heap) : Prop := ∀ b o, h.get? b = some o → b ∉ fr → base.get? b = some o ∨ TabTurn base b o
theorem Cover.gone {fr : List Addr} {h base : Heap} (c : Cover fr h base) {b : Addr} (e : base.get? b = none) (hb : b ∉ fr) : h.get? b = none := by
  cases q : h.get? b with
  | none => rfl
  | some o =>
    rcases c b o q hb with z | ⟨_, _, _, _, _, z, _⟩ <;> (rw [e] at z; cases z)
theorem Cover.turn {fr : List Addr} {h base : Heap} (c : Cover fr h base) (hd : ∀ b ∈ fr, ∃ m, h.Ns b m) {b : Addr} {o : Obj} (t : TabTurn h b o) : TabTurn base b o := by
  have off : ∀ b' o', h.get? b' = some o' → (∃ vs, o'.data = .fields vs) → o' ≠ emptyTab → base.get? b' = some o' := fun b' o' e' hv hn => by
    have hb : b' ∉ fr := fun hm => by
      obtain ⟨m, o2, es, ep, ho, hdd, _⟩ := hd b' hm
      obtain ⟨vs, hv⟩ := hv
      rw [e'] at ho; cases ho
      rw [hdd] at hv; cases hv
    rcases c b' o' e' hb with z | ⟨_, _, _, z, _⟩
    · exact z
    · exact absurd z hn
  obtain ⟨q, hq, hb, ho, c2, h1, ⟨oc, vs, tq, hoc, hcl, hdc, hx⟩⟩ := t
  exact ⟨q, hq, hb, ho, c2, off _ _ h1 ⟨_, rfl⟩ (fun z => by have := congrArg Obj.data z; simp at this), oc, vs, tq, off _ _ hoc ⟨_, hdc⟩ (fun z => by rw [z] at hcl; cases hcl), hcl, hdc, hx⟩
structure Flies (envs : List Env) (s s' : Shared) (e C : Addr) : Prop where
  same : ∃ h' tk, s' = { s with heap := h', toks := tk }
  fly : ∃ base v, Fly base envs e C v s'.heap ∧ Cover (frs envs) s.heap base
  slots : ∀ b ∈ frs envs, ∀ o, s.heap.get? b = some o → (∃ es ep, o.data = .dict es ep) → ∃ sl, s'.heap.get? b = some { o with slots := sl }
theorem Flies.step {envs : List Env} {s s' : Shared} {e C : Addr} (f : Flies envs s s' e C) (hd : ∀ b ∈ frs envs, ∃ m, s.heap.Ns b m) : Step (frs envs) s s' := by
  refine ⟨f.same, fun b o eb => ?_⟩
  by_cases hb : b ∈ frs envs
  · obtain ⟨m, o', es, ep, ho, hdd, _⟩ := hd b hb
    rw [eb] at ho; cases ho
    exact .inr (.inl ⟨hb, ⟨es, ep, hdd⟩, f.slots b hb o eb ⟨es, ep, hdd⟩⟩)
  · obtain ⟨base, a0, ⟨f1, _⟩, c⟩ := f.fly
    exact (c b o eb hb).imp (f1 b o) fun t => .inr (t.keep fun b' o' e' _ _ => f1 b' o' e')

def Raises (G : Gx) (n : Nat) (x : Str) (ds : List D) (C : Addr) : Prop :=
  ∃ a o fd, G.mg x = some (.ref a) ∧ G.base.get? a = some o ∧ o.data = .func fd ∧ ∀ A envs W s vs as (Q E : Value → Shared → Prop), Site G A envs n s → A.handled = none → (∀ b ∈ W, ∃ o, s.heap.get? b = some o) → RdAll W s.heap vs ds as →
    (∀ e s', Flies envs s s' e C → E (.ref e) s') → wpAny G.M A (call (.ref a) vs) Q E s

structure Fct (K : Fm) (s : Shared) : Prop where
  same : ∃ h' tk, s = { K.s0 with heap := h', toks := tk }
  stays : K.G.base.StaysIn s.heap
  kept : KF K.fr K.s0.heap s.heap
  frames : s.heap.FunFrames K.G.base K.envs
  fdict : ∀ b ∈ K.fr, ∃ m, s.heap.Ns b m
  loc : ∃ m, s.heap.Ns K.env.locals m
theorem Rel.fct {K : Fm} {rho : List (Str × Option D)} {W : List Addr} {s : Shared} (R : Rel K rho W s) : Fct K s := ⟨R.same, R.stays, R.kept, R.frames, R.fdict, R.loc⟩
inductive Up (K : Fm) (s' : Shared) (e C : Addr) : Prop
  | fly (s1 : Shared) : Fct K s1 → Flies K.envs s1 s' e C → Up K s' e C

theorem funFrames_base {h base base' : Heap} : ∀ {l : List Env}, (∀ L ∈ frs l, base'.get? L = none) → h.FunFrames base l → h.FunFrames base' l
  | [], _, _ => trivial
  | env :: l, hb, ⟨hk, ⟨L, o, hf, hn, ho, hd⟩, hr⟩ => ⟨hk, ⟨L, o, hf, hb L (by simp [frs, hf]), ho, hd⟩, funFrames_base (fun L hL => hb L (by
      unfold frs at hL ⊢
      rw [List.filterMap_cons]
      split
      · exact hL
      · exact .tail _ hL)) hr⟩

theorem new_flies {K : Fm} {s1 : Shared} {h' : Heap} {e C : Addr} {oe : Obj} {vs : Array Value} (f : Fct K s1) (keeps : ∀ b o, s1.heap.get? b = some o → h'.get? b = some o) (new : s1.heap.get? e = none)
    (he : h'.get? e = some oe) (hc : oe.cls = .ref C) (hd : oe.data = .fields vs) (h1 : vs[1]? = some .none) (h2 : C ≠ chained → vs[2]? = some .none) : Flies K.envs s1 { s1 with heap := h' } e C := by
  refine ⟨⟨h', s1.toks, rfl⟩, ⟨mask s1.heap K.fr, .none, ⟨fun b o eb => keeps b o (mask_some eb).2, ?_, (funFrames_base (fun L hL => mask_in hL) f.frames).of_keeps fun b o hb _ => ⟨o, keeps b o hb, rfl⟩, ⟨he, hc, hd, h1, .none, h2⟩⟩, fun b o e hb => .inl ((mask_out hb).trans e)⟩, fun b hb o eb hd => ⟨o.slots, keeps b o eb⟩⟩
  cases q : (mask s1.heap K.fr).get? e with
  | none => rfl
  | some o =>
    have := (mask_some q).2
    rw [new] at this; cases this
theorem made_flies {K : Fm} {s1 : Shared} {h' : Heap} {e C : Addr} {args : List Value} (f : Fct K s1) (m : Heap.MadeExcOf s1.heap h' e (.ref C) args) : Flies K.envs s1 { s1 with heap := h' } e C := by
  obtain ⟨t, he, _, _⟩ := m.there
  exact new_flies f m.keeps m.new he rfl rfl rfl fun _ => rfl
theorem leave_up {K : Fm} {envs : List Env} {s' : Shared} {e C : Addr} {E : Value → Shared → Prop} {Q : Unit → Shared → Prop} (u : Up K s' e C) (frames : K.A.frames = some K.envs) (frE : K.fr = K.env.locals :: frs envs) (eV : K.envs = K.env :: envs) (eF : K.env.frame = some K.env.locals) (new : K.s0.heap.get? K.env.locals = none)
    (hQ : ∀ s'', Flies envs K.s0 s'' e C → Q () s'') : wpAny K.M K.A (leaving K.env (.ref e)) Q E s' := by
  rw [eV] at frames
  obtain ⟨s1, f, ⟨⟨h1, tk1, e1⟩, ⟨base, a0, fly, c⟩, f5⟩⟩ := u
  rw [eV] at fly
  refine fly_leave frames eF fly fun h'' T fl'' up => ?_
  refine hQ _ ⟨?_, ⟨_, _, fl'', fun b o e0 hb => ?_⟩, fun b hb' o eb hd => ?_⟩
  · obtain ⟨h2, tk2, rfl⟩ := f.same
    subst e1
    exact ⟨h'', tk1, rfl⟩
  · have hfr : b ∉ K.fr := fun hm => by
      rw [frE] at hm
      rcases List.mem_cons.mp hm with rfl | hm
      · rw [new] at e0; cases e0
      · exact hb hm
    rcases f.kept b o e0 with q | ⟨q, _⟩ | q
    · exact c b o q hfr
    · exact absurd q hfr
    · exact .inr (c.turn f.fdict q)
  · obtain ⟨es, ep, hd⟩ := hd
    have ⟨sl, q⟩ : ∃ sl, s1.heap.get? b = some { o with slots := sl } := by
      rcases f.kept b o eb with q | ⟨_, _, sl, q⟩ | ⟨_, _, _, q, _⟩
      · exact ⟨o.slots, q⟩
      · exact ⟨sl, q⟩
      · rw [q] at hd; cases hd
    obtain ⟨sl2, q2⟩ := f5 b (by show b ∈ K.fr; rw [frE]; exact .tail _ hb') _ q ⟨es, ep, hd⟩
    obtain ⟨sl3, q3⟩ := up b _ q2 (fun vs z => by simp only at z; rw [hd] at z; cases z)
    exact ⟨sl3, q3⟩
end Mine
end

section
set_option autoImplicit false
namespace Mine
open PySem PyProof.Rows

abbrev vmro : List Value := [.type "ValueError", .type "Exception", .type "BaseException", .type "object"]
def qn : List Str := ["__init__", "__getattribute__", "__getattr__", "__class__"]
inductive TailN (h : Heap) : List Value → Prop
  | base : TailN h vmro
  | own {A : Addr} {c0 : Value} {dd : Option Addr} {cd : ClassData} {sl : Array (Option Value)} {mA : Str → Option Value} {tl : List Value} :
      h.get? A = some { cls := c0, dict := dd, data := .cls cd, slots := sl } → h.Ns cd.ns mA → (∀ n ∈ qn, mA n = none) → TailN h tl → TailN h (.ref A :: tl)
theorem TailN.tail {h : Heap} {tl : List Value} (T : TailN h tl) : OwnTail h vmro tl := by
  induction T with
  | base => exact .base
  | own hA hN hq _ ih => exact .own hA hN (hq _ (.head _)) ih
theorem TailN.keeps {h h' : Heap} {tl : List Value} (T : TailN h tl) (hk : ∀ b o, h.get? b = some o → h'.get? b = some o) : TailN h' tl := by
  induction T with
  | base => exact .base
  | own hA hN hq _ ih => exact .own (hk _ _ hA) (hN.keeps hk) hq ih
inductive ClsObj (h : Heap) (C : Addr) (bm : List Value) : Prop
  | mk (nm q : Str) (N : Addr) (bs : List Value) (hdct : Bool) (sn : List Str) (sub : List Value) (ab : Bool) (col : Option Bool) (dd : Option Addr) (k0 k1 k2 k3 k5 : Option Value) (mN : Str → Option Value) :
    h.get? C = some (excClassObj nm q C N bs bm hdct sn sub ab col dd k0 k1 k2 k3 k5 "ValueError.__new__") → h.Ns N mN → (∀ n ∈ qn, mN n = none) → TailN h bm → ClsObj h C bm
theorem ClsObj.keeps {h h' : Heap} {C : Addr} {bm : List Value} (c : ClsObj h C bm) (hk : ∀ b o, h.get? b = some o → h'.get? b = some o) : ClsObj h' C bm := by
  obtain ⟨nm, q, N, bs, hdct, sn, sub, ab, col, dd, k0, k1, k2, k3, k5, mN, h1, h2, h3, h4⟩ := c
  exact ⟨nm, q, N, bs, hdct, sn, sub, ab, col, dd, k0, k1, k2, k3, k5, mN, hk _ _ h1, h2.keeps hk, h3, h4.keeps hk⟩

theorem lk_ve_class : typeLookup (.type "ValueError") "__class__" = pure (some (.builtin "object.__class__")) := by rw [typeLookup_type, builtinLookup_eq_fast]; kernel_rfl
section
variable {M : Model} {A : Around} {E : Value → Shared → Prop} {h : Heap} {g : Array GenState} {d : Drawn} {t : Nat} {os : OsState}
theorem lookupAlong_N {tl : List Value} {n : Str} {y : Option Value} {Q : Option Value → Shared → Prop} (hn : n ∈ qn) (T : TailN h tl) (hrest : lookupAlong vmro n = pure y) (hq : Q y ⟨h, g, d, t, os⟩) :
    wpAny M A (lookupAlong tl n) Q E ⟨h, g, d, t, os⟩ := by
  induction T with
  | base => rw [hrest]; exact wpAny_pure hq
  | own hA hN hni _ ih =>
    rw [lookupAlong_cons]
    refine wpAny_bind (wpAny_classOwn_cls hA hN ?_)
    rw [hni n hn]
    exact ih
variable {nm q : Str} {C N : Addr} {bs bm : List Value} {hdct : Bool} {sn : List Str} {sub : List Value} {ab : Bool} {col : Option Bool} {dd : Option Addr} {k0 k1 k2 k3 k5 : Option Value} {newId : String}
theorem typeLookup_N {mN : Str → Option Value} {n : Str} {y : Option Value} {Q : Option Value → Shared → Prop} (hn : n ∈ qn)
    (hC : h.get? C = some (excClassObj nm q C N bs bm hdct sn sub ab col dd k0 k1 k2 k3 k5 newId)) (hN : h.Ns N mN) (hmN : ∀ n ∈ qn, mN n = none) (T : TailN h bm)
    (hB : typeLookup (.type "ValueError") n = pure y) (hq : Q y ⟨h, g, d, t, os⟩) : wpAny M A (typeLookup (.ref C) n) Q E ⟨h, g, d, t, os⟩ := by
  have hrest : lookupAlong vmro n = pure y := by rw [typeLookup_eq, PySem.F.excBase_ValueError.mroIs] at hB; exact hB
  rw [typeLookup_eq]
  refine wpAny_bind (wpAny_mroOf_exc hC ?_)
  rw [lookupAlong_cons]
  refine wpAny_bind (wpAny_classOwn_exc hC hN ?_)
  rw [hmN n hn]
  exact lookupAlong_N hn T hrest hq
end

section
variable {prog : Program} {w : World} {A : Around} {E : Value → Shared → Prop} {h : Heap} {g : Array GenState} {d : Drawn} {t : Nat} {os : OsState} {a : Addr} {o : Obj}
  {nm q : Str} {C N : Addr} {bs bm : List Value} {hdct : Bool} {sn : List Str} {sub : List Value} {ab : Bool} {col : Option Bool} {dd : Option Addr} {k0 k1 k2 k3 k5 : Option Value} {newId : String} {mN : Str → Option Value}
theorem has_object (T : TailN h bm) : bm.contains (.type "object") = true := T.tail.hasType (by decide)
theorem has_bexc (T : TailN h bm) : bm.contains (.type "BaseException") = true := T.tail.hasType (by decide)
theorem xclass_get {R : Result → Shared → Prop} (hC : h.get? C = some (excClassObj nm q C N bs bm hdct sn sub ab col dd k0 k1 k2 k3 k5 newId)) (T : TailN h bm)
    (hx : h.get? a = some o) (hc : o.cls = .ref C) (hq : R (.ok (.ret (.ref C))) ⟨h, g, d, t, os⟩) :
    codeAny (model prog w) A (.call (.builtin "getset_descriptor.__get__") ⟨[.builtin "object.__class__", .ref a, .ref C], []⟩) R ⟨h, g, d, t, os⟩ := by
  have hT5 : (⟨h, g, d, t, os⟩ : Shared).TypeIs (.builtin "object.__class__") "getset_descriptor" := PySem.F.typeOf_object_class
  have hcB : (Value.ref C :: bm).contains (.type (".".intercalate ("object.__class__".cutAt '.').dropLast)) = true := by
    rw [PySem.F.owner_object_class, List.contains_cons, has_object T]; rfl
  refine codeAny_call_builtin PySem.F.slot_gs_get.plain PySem.F.entry_gs_get (PySem.F.slot_gs_get.check _ _ _ _ _ _ _ _ hT5 (PySem.F.args_gs_get _ _ _) ?_)
  repeat (any_goals (first | assumption | (with_reducible refine wpAny_loadPart_at hx ?_; rw [hc]) | (with_reducible refine wpAny_isSubtype_exc hC ?_; rw [hcB]) | wp_step))
  refine ⟨Code.quiet_builtin _ (by decide +kernel), codeAny_builtin PySem.F.entry_object_class ?_⟩
  repeat (any_goals (first | assumption | (with_reducible refine wpAny_loadPart_at hx ?_; rw [hc]) | wp_step))
theorem xcheck_ga {M : Model} {nameV : Value} {Q : Unit → Shared → Prop} (hC : h.get? C = some (excClassObj nm q C N bs bm hdct sn sub ab col dd k0 k1 k2 k3 k5 newId)) (T : TailN h bm)
    (hx : h.get? a = some o) (hc : o.cls = .ref C) (hq : Q () ⟨h, g, d, t, os⟩) : wpAny M A (checkBuiltinCall "BaseException.__getattribute__" ⟨[.ref a, nameV], []⟩) Q E ⟨h, g, d, t, os⟩ := by
  have hk : builtinKind "BaseException.__getattribute__" = some .slot := by decide +kernel
  have hsplit : splitId "BaseException.__getattribute__" = some ("BaseException", "__getattribute__") := by decide +kernel
  have hcB : (Value.ref C :: bm).contains (.type "BaseException") = true := by rw [List.contains_cons, has_bexc T]; rfl
  have ha := PySem.F.args_bexc_ga (.ref a) nameV
  simp only [checkBuiltinCall, hk, hsplit]
  refine wpAny_bind ?_
  · unfold isInstance
    repeat (first | (with_reducible refine wpAny_loadPart_at hx ?_; rw [hc]) | (with_reducible refine wpAny_isSubtype_exc hC ?_; rw [hcB]) | wp_step)
    exact hq
theorem xclass_entry {tk : Tok} {Q : Fin → Shared → Prop} (hC : h.get? C = some (excClassObj nm q C N bs bm hdct sn sub ab col dd k0 k1 k2 k3 k5 newId)) (hN : h.Ns N mN)
    (hmN : ∀ n ∈ qn, mN n = none) (T : TailN h bm) (hx : h.get? a = some o) (hc : o.cls = .ref C) (hq : Q (.done (.ret (.ref C))) ⟨h, g, d, t, os⟩) :
    wpAny (model prog w) A (Builtin.«object.__getattribute__» ⟨[.ref a, .str "__class__" tk], []⟩) Q E ⟨h, g, d, t, os⟩ := by
  have hT5 : (⟨h, g, d, t, os⟩ : Shared).TypeIs (.builtin "object.__class__") "getset_descriptor" := PySem.F.typeOf_object_class
  have f5 := PySem.F.typeOf_object_class
  have f6 := PySem.F.slot_gs_get.lookup
  have f7 := PySem.F.slot_gs_set.lookup
  have hmA : ("__class__" : Str) ∈ qn := .tail _ (.tail _ (.tail _ (.head _)))
  repeat (any_goals (first | assumption | (with_reducible refine wpAny_loadPart_at hx ?_; rw [hc]) | with_reducible refine typeLookup_N hmA hC hN hmN T lk_ve_class ?_ | wp_step))
  refine xclass_get hC T hx hc ?_
  repeat (any_goals (first | assumption | wp_step))
theorem xclass_by {tk : Tok} {fill expr : Bool} {Q : Value → Shared → Prop} (hC : h.get? C = some (excClassObj nm q C N bs bm hdct sn sub ab col dd k0 k1 k2 k3 k5 newId)) (hN : h.Ns N mN)
    (hmN : ∀ n ∈ qn, mN n = none) (T : TailN h bm) (hx : h.get? a = some o) (hc : o.cls = .ref C) (hq : Q (.ref C) ⟨h, g, d, t, os⟩) :
    wpAny (model prog w) A (getAttrBy (.ref a) (.str "__class__" tk) fill expr) Q E ⟨h, g, d, t, os⟩ := by
  have FB := PySem.F.attrBase_ValueError
  have f3 := FB.ga.bind (.ref a)
  have hx0 : (expr && onTheHeap (Value.builtin "BaseException.__getattribute__")) = false := by cases expr <;> rfl
  have hx2 : (Value.builtin "BaseException.__getattribute__" == Value.builtin "object.__getattribute__") = false := by decide +kernel
  have hx1 : (onTheHeap (Value.ref C) && Value.builtin "BaseException.__getattribute__" == Value.builtin "object.__getattribute__") = false := by rw [hx2]; rfl
  have hm1 : ("__getattribute__" : Str) ∈ qn := .tail _ (.head _)
  have hm2 : ("__getattr__" : Str) ∈ qn := .tail _ (.tail _ (.head _))
  repeat (any_goals (first | assumption | (with_reducible refine wpAny_loadPart_at hx ?_; rw [hc]) | with_reducible refine typeLookup_N hm1 hC hN hmN T FB.ga.lookup ?_ | with_reducible refine typeLookup_N hm2 hC hN hmN T FB.noGetattr ?_ | wp_step))
  refine codeAny_call_builtin FB.ga.plain PySem.F.entry_bexc_ga (xcheck_ga hC T hx hc (xclass_entry hC hN hmN T hx hc ?_))
  repeat (any_goals (first | assumption | wp_step))
theorem xclass_attr {Q : Option Value → Shared → Prop} (hC : h.get? C = some (excClassObj nm q C N bs bm hdct sn sub ab col dd k0 k1 k2 k3 k5 newId)) (hN : h.Ns N mN)
    (hmN : ∀ n ∈ qn, mN n = none) (T : TailN h bm) (hx : h.get? a = some o) (hc : o.cls = .ref C) (hq : Q (some (.ref C)) ⟨h, g, d, t + 1, os⟩) :
    wpAny (model prog w) A (getAttr? (.ref a) "__class__") Q E ⟨h, g, d, t, os⟩ := by
  unfold getAttr? getAttrBy?
  repeat (any_goals (first | assumption | with_reducible apply xclass_by hC hN hmN T hx hc | wp_step))
theorem xis_nested {CX : Addr} {oX : Obj} {cdX : ClassData} {dep : Int} {tk : Tok} {Q : Fin → Shared → Prop} (hC : h.get? C = some (excClassObj nm q C N bs bm hdct sn sub ab col dd k0 k1 k2 k3 k5 newId)) (hN : h.Ns N mN)
    (hmN : ∀ n ∈ qn, mN n = none) (T : TailN h bm) (hx : h.get? a = some o) (hc : o.cls = .ref C) (hX : h.get? CX = some oX) (hcX : oX.cls = .type "type") (hkX : oX.data = .cls cdX)
    (hne : (Value.ref C == Value.ref CX) = false) (b : Bool) (hb : (Value.ref C :: bm).contains (.ref CX) = b) (hq : ∀ tk, Q (.done (.ret (.bool b))) ⟨h, g, d, tk, os⟩) :
    wpAny (model prog w) A (Builtin.«isinstance.nested» ⟨[.ref a, .ref CX, .int dep tk], []⟩) Q E ⟨h, g, d, t, os⟩ := by
  have f := tc_notTuple
  cases b with
  | true =>
    have q := hq t
    repeat (any_goals (first | assumption | (with_reducible refine wpAny_loadPart_at hx ?_; rw [hc]) | (with_reducible refine wpAny_loadPart_at hX ?_; rw [hcX]) | (with_reducible refine wpAny_isSubtype_exc hC ?_; rw [hb]) | wp_step))
  | false =>
    have q := hq (t + 1)
    repeat (any_goals (first | assumption | (with_reducible refine wpAny_loadPart_at hx ?_; rw [hc]) | (with_reducible refine wpAny_loadPart_at hX ?_; rw [hcX]) | (with_reducible refine wpAny_isSubtype_exc hC ?_; rw [hb]) | (with_reducible refine xclass_attr hC hN hmN T hx hc ?_) | wp_step))
theorem xis_self {dep : Int} {tk : Tok} {Q : Fin → Shared → Prop} (hx : h.get? a = some o) (hc : o.cls = .ref C) (hq : Q (.done (.ret (.bool true))) ⟨h, g, d, t, os⟩) :
    wpAny (model prog w) A (Builtin.«isinstance.nested» ⟨[.ref a, .ref C, .int dep tk], []⟩) Q E ⟨h, g, d, t, os⟩ := by
  have he : (Value.ref C == Value.ref C) = true := beq_self_eq_true _
  repeat (any_goals (first | assumption | (with_reducible refine wpAny_loadPart_at hx ?_; rw [hc]) | wp_step))
theorem xis_type {T' : String} {dep : Int} {tk : Tok} {Q : Fin → Shared → Prop} (hC : h.get? C = some (excClassObj nm q C N bs bm hdct sn sub ab col dd k0 k1 k2 k3 k5 newId)) (hx : h.get? a = some o) (hc : o.cls = .ref C)
    (hty : typeOf (.type T') = pure (.type "type")) (hb : (Value.ref C :: bm).contains (.type T') = true) (hq : Q (.done (.ret (.bool true))) ⟨h, g, d, t, os⟩) :
    wpAny (model prog w) A (Builtin.«isinstance.nested» ⟨[.ref a, .type T', .int dep tk], []⟩) Q E ⟨h, g, d, t, os⟩ := by
  have hne : (Value.ref C == Value.type T') = false := rfl
  repeat (any_goals (first | assumption | (with_reducible refine wpAny_loadPart_at hx ?_; rw [hc]) | (with_reducible refine wpAny_isSubtype_exc hC ?_; rw [hb]) | wp_step))
theorem exc_match {nm' q' : Str} {C' N' : Addr} {bs' bm' : List Value} {hdct' : Bool} {sn' : List Str} {sub' : List Value} {ab' : Bool} {col' : Option Bool} {dd' : Option Addr} {k0' k1' k2' k3' k5' : Option Value} {newId' : String} {Q : Bool → Shared → Prop}
    (hC : h.get? C = some (excClassObj nm q C N bs bm hdct sn sub ab col dd k0 k1 k2 k3 k5 newId)) (hC' : h.get? C' = some (excClassObj nm' q' C' N' bs' bm' hdct' sn' sub' ab' col' dd' k0' k1' k2' k3' k5' newId')) (T' : TailN h bm')
    (hx : h.get? a = some o) (hc : o.cls = .ref C) (hb : (Value.ref C :: bm).contains (.ref C') = true) (hq : Q true ⟨h, g, d, t, os⟩) : wpAny (model prog w) A (excMatches (.ref a) (.ref C')) Q E ⟨h, g, d, t, os⟩ := by
  have hcB : (Value.ref C' :: bm').contains (.type "BaseException") = true := by rw [List.contains_cons, has_bexc T']; rfl
  have f := tc_notTuple
  unfold excMatches
  repeat (first | (with_reducible refine wpAny_loadPart_at hx ?_; rw [hc]) | with_reducible refine wpAny_loadPart_at hC' ?_ | (with_reducible refine wpAny_isSubtype_exc hC' ?_; rw [hcB]) | (with_reducible refine wpAny_isSubtype_exc hC ?_; rw [hb]) | wp_step)
  exact hq
end
end Mine
end

section
set_option autoImplicit false
namespace Mine
open PySem PyProof.Rows

structure Cls (G : Gx) (x : Str) (C : Addr) (bm : List Value) : Prop where
  bound : G.mg x = some (.ref C)
  obj : ClsObj G.base C bm
section
variable {K : Fm} {rho : List (Str × Option D)} {g : Sg} {e : Expr} {es : List Expr} {x : Str} {np pos cpos : Pos} {body rest orelse : List Stmt} {C : Addr} {bm : List Value} {ds : List D} {d : D} {f b : Bool} {n : Nat}
def Lets (K : Fm) (C : Addr) (E : Value → Shared → Prop) : Prop := ∀ e s', Up K s' e C → E (.ref e) s'
def EVr (K : Fm) (rho : List (Str × Option D)) (e : Expr) (C : Addr) : Prop := ∀ W s, Rel K rho W s → ∀ (Q : Value → Shared → Prop) E, Lets K C E → wpAny K.M K.A (eval e K.env) Q E s
def TSr (K : Fm) (rho : List (Str × Option D)) (e : Expr) (C : Addr) : Prop := ∀ W s, Rel K rho W s → ∀ (Q : Bool → Shared → Prop) E, Lets K C E → wpAny K.M K.A (isTrue e K.env (eval e K.env)) Q E s
def RX (K : Fm) (g : Sg) (body : List Stmt) (C : Addr) : Prop := ∀ W0 W1 s, OR K W0 W1 g s → ∀ (Q : Flow → Shared → Prop) E, Lets K C E → wpAny K.M K.A (execs body K.env) Q E s

theorem load_own {v : Value} {W : List Addr} {s : Shared} {E Q : Value → Shared → Prop} (R : Rel K rho W s) (hx : GN K x) (hxd : gnameOk x = true) (hb : K.G.mg x = some v) (q : Q v s) : wpAny K.M K.A (eval (.Name x np) K.env) Q E s :=
  Calls.Name_function_global R.ok.kindE (R.ok.kindOf hx) (Calls.loadGlobal_global (mg := K.G.mg) (by rw [R.ok.globals]; exact R.ok.gl.g.keeps R.stays) hb q) (by simpa [gnameOk] using hxd)

theorem rx_raise (hh : K.A.handled = none) (hx : GN K x) (hxd : gnameOk x = true) (c : Cls K.G x C bm) (h : EVs K (fullOf g) [e] [d] f) (hn : noStar e = true) : RX K g (.Raise (some (.Call (.Name x np) [e] [] cpos)) none pos :: rest) C := fun W0 W1 s r Q E hE => by
  have R := r.full
  obtain ⟨nm, q, N, bs, hdct, sn, sub, ab, col, dd, k0, k1, k2, k3, k5, mN, h1, h2, h3, h4⟩ := c.obj
  have hbase := has_bexc h4
  refine wpAny_execs_cons (wpAny_Raise_call_subT (nm := nm) (q := q) (C := C) (N := N) (bs := bs) (bm := bm) (hdct := hdct) (sn := sn) (sub := sub) (ab := ab) (col := col) (dd := dd) (k0 := k0) (k1 := k1) (k2 := k2) (k3 := k3) (k5 := k5) PySem.F.excBase_ValueError hbase hh (by rw [starEach_cons hn]; rfl) (h3 _ (.head _)) (load_own R hx hxd c.bound ⟨rfl, ?_⟩))
  have tr : backTo cpos (starEach [e] K.env) = [(false, eval e K.env)] := by rw [starEach_cons hn]; rfl
  have h' := h W0 s cpos R E
  rw [tr] at h' ⊢
  refine Calls.evalArgs_plain (wpAny_mono h' (fun vs s1 ga => ?_) fun _ _ q => q)
  have R1 := R.step ga.st
  refine ⟨rfl, by rw [show vs.length = 1 from ga.len]; decide, R1.stays _ _ h1, h2.keeps R1.stays, h4.tail.keeps R1.stays, fun h'' ex m => hE ex _ (.fly s1 R1.fct (made_flies R1.fct m))⟩

theorem evr_call {es : List Expr} (hh : K.A.handled = none) (hx : GN K x) (hxd : gnameOk x = true) (h : EVs K rho (e :: es) ds f) (hn : noStar e = true) (c : Raises K.G n x ds C) (hr : n ≤ K.room) : EVr K rho (.Call (.Name x np) (e :: es) [] pos) C := fun W s R Q E hE => by
  obtain ⟨a, o, fd, h1, h2, h3, h4⟩ := c
  rw [eval_Call_plain rfl]
  refine wpAny_bind (load_own R hx hxd h1 ?_)
  refine callWith_def hn h3 (wpAny_mono (h W s pos R E) (fun vs s1 ga => ?_) fun _ _ q => q)
  obtain ⟨st, as, q1, _⟩ := ga
  have R1 := R.step st
  exact ⟨R1.stays _ _ h2, h4 K.A K.envs W s1 vs as _ E (R1.site hr) hh R1.off q1 fun ex s' fl => hE ex s' (.fly s1 R1.fct fl)⟩
theorem tsr_cmp {l r : Expr} {op : CmpOp} (h : EVr K rho l C) (hm : behindInMarks op r = false) : TSr K rho (.Compare l [op] [r] pos) C := fun W s R Q E hE => wpAny_isTrue_Compare1 (h W s R _ E hE) hm
theorem rx_if_test (h : TSr K (fullOf g) e C) : RX K g (.If e body orelse pos :: rest) C := fun W0 W1 s r Q E hE => wpAny_execs_cons (wpAny_If (h W0 s r.full _ E hE))
theorem rx_if (t : TS K (fullOf g) e b) (h1 : b = true → RX K g body C) (h2 : b = false → RX K g rest C) : RX K g (.If e body [] pos :: rest) C := fun W0 W1 s r Q E hE =>
  wpAny_execs_cons (wpAny_If (wpAny_mono (t W0 s r.full E) (fun b' s' q => by
    obtain ⟨st, rfl⟩ := q
    cases b' with
    | true => exact h1 rfl W0 W1 s' (r.step st) _ E hE
    | false => exact wpAny_execs_nil (h2 rfl W0 W1 s' (r.step st) Q E hE)) fun _ _ q => q))
theorem rx_expr (h : EVr K (fullOf g) e C) (hc : noComp e = true) : RX K g (.Expr e pos :: rest) C := fun W0 W1 s r Q E hE =>
  wpAny_execs_cons (wpAny_Expr_any (h W0 s r.full _ E hE) (not_interactive r.rel.ok) (swaps_no hc))
end

theorem raises_of {G : Gx} (gk : G.Ok) {x : Str} {params : Arguments} {body : List Stmt} {sc : Scope} {ps rest own : List Str} {ds : List D} {n : Nat} {C : Addr}
    (hf : ∃ a o pm code doc, G.mg x = some (.ref a) ∧ G.base.get? a = some o ∧ o.data = .func (Calls.docDef x params body sc pm code doc) ∧ G.base.CodeRec code x)
    (ok : DefOk sc ps rest own) (hl : ps.length = ds.length)
    (hb : ∀ vals : List Value, vals.length = ps.length → ∀ pm code doc, bindArgs (Calls.docDef x params body sc pm code doc) ⟨vals, []⟩ = pure (ps.zip vals))
    (h : ∀ K : Fm, K.G = G → K.sc = sc → K.own = own → K.room = n → K.A.handled = none → RX K (gStart ps ds rest) body C) : Raises G (n + 1) x ds C := by
  obtain ⟨a, o, pm, code, doc, h1, h2, h3, h4⟩ := hf
  refine ⟨a, o, _, h1, h2, h3, fun A envs W s vs as Q E st hh off rd hE => enter gk h2 h3 h4 ok hl hb st off rd fun K s₁ eG eS eO eR eH e0 frE eV eF eX r => ?_⟩
  refine h K eG eS eO eR (by rw [eH]; exact hh) W [] s₁ r _ _ fun ex s' u => ?_
  exact leave_up u r.rel.ok.frames frE eV eF r.rel.ok.locnew fun s'' fl => hE ex s'' (e0 ▸ fl)
end Mine
end

section
set_option autoImplicit false
namespace Mine
open PySem PyProof.Rows

inductive ExcInv (W : List Addr) (h : Heap) (v : Value) (C : Addr) (as : List Addr) : Prop
  | mk (a : Addr) (o : Obj) (vs : Array Value) : v = .ref a → as = [] → h.get? a = some o → o.cls = .ref C → o.data = .fields vs → a ∉ W → ExcInv W h v C as
theorem Rd.exc_inv {W : List Addr} {h : Heap} {v : Value} {C : Addr} {as : List Addr} (r : Rd W h v (excD C) as) : ExcInv W h v C as := by
  generalize hd : excD C = d at r
  cases r with
  | @exc a C' o vs h0 h1 h2 h3 =>
    have hC : (C : Int) = (C' : Int) := by
      have := hd
      simp only [excD, PyData.dict.injEq, List.cons.injEq, Prod.mk.injEq, PyData.int.injEq, and_true, true_and] at this
      exact this
    obtain rfl : C = C' := Int.ofNat.inj hC
    exact ⟨_, _, _, rfl, rfl, h1, h2, h3, h0⟩
  | _ => cases hd

section
variable {K : Fm} {rho : List (Str × Option D)} {e : Expr} {np tp pos : Pos} {C CX : Addr} {bm bmX : List Value} {x : Str} {f : Bool}
theorem call_isx {W : List Addr} {s : Shared} {v : Value} {as : List Addr} {Q : Value → Shared → Prop} {E : Value → Shared → Prop} (r : Rd W s.heap v (excD C) as) (c : ClsObj s.heap C bm) (cx : ClsObj s.heap CX bmX)
    (q : ∀ tk, Q (.bool ((Value.ref C :: bm).contains (.ref CX))) { s with toks := tk }) : wpAny K.M K.A (call (.builtin "isinstance") [v, .ref CX]) Q E s := by
  obtain ⟨a, o, vs, rfl, _, ho, hc, hd, _⟩ := r.exc_inv
  obtain ⟨nm, q0, N, bs, hdct, sn, sub, ab, col, dd, k0, k1, k2, k3, k5, mN, h1, h2, h3, h4⟩ := c
  obtain ⟨_, _, _, _, _, _, _, _, _, _, _, _, _, _, _, _, g1, _, _, _⟩ := cx
  obtain ⟨h, g, d, t, os⟩ := s
  refine call_isinstance_of ?_
  by_cases hne : C = CX
  · subst hne
    have hb : (Value.ref C :: bm).contains (.ref C) = true := by simp
    rw [hb] at q
    exact xis_self ho hc (q t)
  · have hne' : (Value.ref C == Value.ref CX) = false := by
      rw [beq_eq_false_iff_ne]; intro e; exact hne (Value.ref.inj e)
    exact xis_nested h1 h2 h3 h4 ho hc g1 rfl rfl hne' _ rfl q
theorem ev_isx (hx : GN K "isinstance") (hy : GN K x) (hyd : gnameOk x = true) (h : EV K rho e (excD C) f) (c : ClsObj K.G.base C bm) (cx : Cls K.G x CX bmX) (hn : noStar e = true) :
    EV K rho (.Call (.Name "isinstance" np) [e, .Name x tp] [] pos) (.bool ((Value.ref C :: bm).contains (.ref CX))) true := fun W s R E => by
  rw [eval_Call_plain rfl]
  have hi : (Str.ofString "isinstance") ∈ bnames := by decide +kernel
  refine wpAny_bind (load_builtin R hx hi PyProof.Rows.Boot.«isinstance» (bname_ok hi).1 (bname_ok hi).2 ?_)
  refine callWith_flat rfl (by rw [List.all_cons, hn]; rfl) (wpAny_items_cons (h.bind R fun v s1 R1 g1 => wpAny_items_cons (load_own R1 hy hyd cx.bound (wpAny_items_nil ?_))) (starEach_cons hn))
  obtain ⟨st, as, q1, _⟩ := g1
  exact call_isx q1 (c.keeps R1.stays) (cx.obj.keeps R1.stays) fun tk => .intro_bool (st.toks tk) _
theorem ve_meta : typeOf (.type "ValueError") = pure (.type "type") := by kernel_rfl
theorem ev_isve (hx : GN K "isinstance") (hy : GN K "ValueError") (h : EV K rho e (excD C) f) (c : ClsObj K.G.base C bm) (hn : noStar e = true) :
    EV K rho (.Call (.Name "isinstance" np) [e, .Name "ValueError" tp] [] pos) (.bool true) true := fun W s R E => by
  rw [eval_Call_plain rfl]
  have hi : (Str.ofString "isinstance") ∈ bnames := by decide +kernel
  have hv : (Str.ofString "ValueError") ∈ bnames := by decide +kernel
  refine wpAny_bind (load_builtin R hx hi PyProof.Rows.Boot.«isinstance» (bname_ok hi).1 (bname_ok hi).2 ?_)
  refine callWith_flat rfl (by rw [List.all_cons, hn]; rfl) (wpAny_items_cons (h.bind R fun v s1 R1 g1 => wpAny_items_cons (load_builtin R1 hy hv PyProof.Rows.Boot.«ValueError» (bname_ok hv).1 (bname_ok hv).2 (wpAny_items_nil ?_))) (starEach_cons hn))
  obtain ⟨st, as, q1, _⟩ := g1
  obtain ⟨a, o, vs, rfl, _, ho, hc, hd, _⟩ := q1.exc_inv
  obtain ⟨nm, q0, N, bs, hdct, sn, sub, ab, col, dd, k0, k1, k2, k3, k5, mN, h1, h2, h3, h4⟩ := c.keeps R1.stays
  refine call_isinstance_of ?_
  obtain ⟨h, g, d, t, os⟩ := s1
  exact xis_type h1 ho hc ve_meta (by rw [List.contains_cons, h4.tail.hasType (by decide : vmro.contains (.type "ValueError") = true)]; rfl) (Got.intro_bool st _)
end
end Mine
end

section
set_option autoImplicit false
namespace Mine
open PySem PyProof.Rows

structure TopK (K : Fm) : Prop where
  outer : ∃ outer, K.envs = K.env :: outer
  frame : K.env.frame = some K.env.locals
theorem Flies.after {envs : List Env} {s s1 s' : Shared} {e C : Addr} (hd : ∀ b ∈ frs envs, ∃ m, s1.heap.Ns b m) (st : Step (frs envs) s s1) (fl : Flies envs s1 s' e C) : Flies envs s s' e C := by
  obtain ⟨⟨h', tk', e1⟩, ⟨base, a0, fly, c⟩, f5⟩ := fl
  obtain ⟨⟨h1, tk1, rfl⟩, k⟩ := st
  refine ⟨⟨h', tk', e1⟩, ⟨base, a0, fly, fun b o e0 hb => ?_⟩, fun b hb o eb hdd => ?_⟩
  · rcases k b o e0 with q | ⟨q, _⟩ | q
    · exact c b o q hb
    · exact absurd q hb
    · exact .inr (c.turn hd q)
  · rcases k b o eb with q | ⟨_, _, sl, q⟩ | ⟨_, _, _, q, _⟩
    · exact f5 b hb o q hdd
    · exact let ⟨sl2, q2⟩ := f5 b hb _ q hdd; ⟨sl2, q2⟩
    · obtain ⟨es, ep, hdd⟩ := hdd
      rw [q] at hdd; cases hdd
theorem Flies.onward {envs : List Env} {s s1 : Shared} {e C : Addr} {h' base : Heap} {a0 : Value} (fl : Flies envs s s1 e C) (up : s1.heap.UpToSlots h') (fly : Fly base envs e C a0 h') (c : Cover (frs envs) s.heap base) : Flies envs s { s1 with heap := h' } e C := by
  obtain ⟨⟨h1, tk1, rfl⟩, _, f5⟩ := fl
  refine ⟨⟨h', tk1, rfl⟩, ⟨base, a0, fly, c⟩, fun b hb o eb hd => ?_⟩
  obtain ⟨sl, q⟩ := f5 b hb o eb hd
  obtain ⟨es, ep, hd⟩ := hd
  exact let ⟨sl2, q2⟩ := up b _ q (fun vs z => by simp only at z; rw [hd] at z; cases z); ⟨sl2, q2⟩

section
variable {K : Fm} {rho : List (Str × Option D)} {g g1 : Sg} {e : Expr} {es : List Expr} {x n : Str} {np pos rp hpos : Pos} {rest suite : List Stmt} {b₀ : Stmt} {C CX : Addr} {bm bmX : List Value} {ds : List D} {f : Bool} {P : Out → Prop} {k : Nat}
def EVf (K : Fm) (rho : List (Str × Option D)) (e : Expr) (C : Addr) : Prop := ∀ W s, Rel K rho W s → ∀ (Q : Value → Shared → Prop) E, (∀ ex s', Flies K.envs s s' ex C → E (.ref ex) s') → wpAny K.M K.A (eval e K.env) Q E s
theorem evf_call (hh : K.A.handled = none) (hx : GN K x) (hxd : gnameOk x = true) (h : EVs K rho (e :: es) ds f) (hn : noStar e = true) (c : Raises K.G k x ds C) (hr : k ≤ K.room) : EVf K rho (.Call (.Name x np) (e :: es) [] pos) C := fun W s R Q E hE => by
  obtain ⟨a, o, fd, h1, h2, h3, h4⟩ := c
  rw [eval_Call_plain rfl]
  refine wpAny_bind (load_own R hx hxd h1 ?_)
  refine callWith_def hn h3 (wpAny_mono (h W s pos R E) (fun vs s1 ga => ?_) fun _ _ q => q)
  obtain ⟨st, as, q1, _⟩ := ga
  have R1 := R.step st
  exact ⟨R1.stays _ _ h2, h4 K.A K.envs W s1 vs as _ E (R1.site hr) hh R1.off q1 fun ex s' fl => hE ex s' (fl.after R1.fdict st)⟩

def Fm.mark (K : Fm) (ex : Addr) : Fm := { K with A := K.A.mark (some (.ref ex)) }
theorem Rel.mark {W : List Addr} {s : Shared} (R : Rel K rho W s) (ex : Addr) : Rel (K.mark ex) rho W s :=
  ⟨⟨R.ok.scope, R.ok.kind, R.ok.globals, R.ok.builtins, R.ok.frames, R.ok.apart, R.ok.base0, R.ok.tabs0, R.ok.locnew, R.ok.ownnew, R.ok.hascell, R.ok.gl, R.ok.depth, R.ok.units⟩, R.off, R.same, R.stays, R.kept, R.frames, R.fdict, R.loc, R.cells, R.nodup, R.plain, R.vars⟩
theorem OR.mark {W0 W1 : List Addr} {s : Shared} (r : OR K W0 W1 g s) (ex : Addr) : OR (K.mark ex) W0 W1 g s := ⟨r.rel.mark ex, r.seg, r.nd, r.nw⟩

theorem handle_own {ex : Addr} {W : List Addr} {s : Shared} {Q : Flow → Shared → Prop} {E : Value → Shared → Prop} {o : Obj} {hs : List ExceptHandler} (R : Rel K rho W s) (hx : GN K x) (hxd : gnameOk x = true) (cx : Cls K.G x CX bmX) (c : ClsObj K.G.base C bm) (hb : (Value.ref C :: bm).contains (.ref CX) = true)
    (he : s.heap.get? ex = some o) (hc : o.cls = .ref C)
    (hk : wpAny K.M (K.mark ex).A (setFlight (.ref ex) none) (fun _ s₂ => wpAny K.M (K.mark ex).A (storeName K.env n (.ref ex)) (fun _ s₃ => wpAny K.M (K.mark ex).A (execs (b₀ :: suite) K.env)
        (fun f s₄ => wpAny K.M K.A (do bindName K.env n .none; unbindBehindTheSuite K.env n hpos) (fun _ s₅ => Q f s₅) E s₄)
        (AsSuiteRaised K.M (K.mark ex).A K.env n hpos (notedBy K.M (K.mark ex).A K.env (cameBackBy K.M K.A K.env E))) s₃) (notedBy K.M (K.mark ex).A K.env (cameBackBy K.M K.A K.env E)) s₂) (notedBy K.M (K.mark ex).A K.env (cameBackBy K.M K.A K.env E)) s) :
    wpAny K.M K.A (handleBy (.ref ex) K.env (.ExceptHandler (some (.Name x np)) (some n) (b₀ :: suite) hpos :: hs)) Q E s := by
  refine wpAny_handleBy_cons (codeAny_handlers_test (load_own (K := K.mark ex) (R.mark ex) hx hxd cx.bound ?_)) (by intro q; cases q)
  obtain ⟨_, _, _, _, _, _, _, _, _, _, _, _, _, _, _, _, h1, _, _, _⟩ := c.keeps R.stays
  obtain ⟨_, _, _, _, _, _, _, _, _, _, _, _, _, _, _, _, g1, _, _, g4⟩ := cx.obj.keeps R.stays
  obtain ⟨h, gg, d, t, os⟩ := s
  exact exc_match h1 g1 g4 he hc hb (codeAny_handlers_suite_as hk)
theorem sx_try_exc (tk : TopK K) (h : EVf K (fullOf g) e C) (hx : GN K x) (hxd : gnameOk x = true) (cx : Cls K.G x CX bmX) (c : ClsObj K.G.base C bm) (hb : (Value.ref C :: bm).contains (.ref CX) = true)
    (p : PutS g n (.fz (excD C)) g1) (hn : K.sc.names.lookup n = some .local)
    {e2 : Expr} {rp2 : Pos} {d : D} (kk : ∀ K' : Fm, K'.G = K.G → K'.sc = K.sc → K'.own = K.own → K'.room = K.room → EV K' (fullOf g1) e2 d f) (kP : P (.ret d f)) :
    SX K g (.Try [.Return (some e) rp] [.ExceptHandler (some (.Name x np)) (some n) [.Return (some e2) rp2] hpos] [] [] pos :: rest) P := sx_cons fun W0 W1 s r E => by
  refine wpAny_Try_except (wpAny_execs_cons (wpAny_Return_some (h W0 s r.full _ _ fun ex s1 fl => ?_)))
  obtain ⟨outer, eV⟩ := tk.outer
  have frames : K.A.frames = some (K.env :: outer) := by rw [← eV]; exact r.rel.ok.frames
  obtain ⟨base, a0, fly, cov⟩ := id fl.fly
  rw [eV] at fly
  refine fly_note frames tk.frame fly fun h2 T held up2 => fly_land (s := { s1 with heap := h2 }) held id fun h3 fl3 up3 => ?_
  rw [← eV] at fl3
  have F3 := fl.onward (up2.trans up3) fl3 cov
  have st3 := F3.step r.rel.fdict
  have r3 := r.step st3
  obtain ⟨he, hcls, hdat, _⟩ := fl3.exc
  refine handle_own r3.full hx hxd cx c hb he hcls ?_
  refine fly_land (s := { s1 with heap := h3 }) fl3 id fun h4 fl4 up4 => ?_
  have F4 := F3.onward up4 fl4 cov
  have st4 := F4.step r.rel.fdict
  have r4 := (r.step st4).mark ex
  obtain ⟨he4, hcls4, hdat4, _⟩ := fl4.exc
  have hex : ex ∉ W0 ++ W1 := fun hm => by
    obtain ⟨o, eo⟩ := r.rel.off ex hm
    by_cases q : ex ∈ frs K.envs
    · obtain ⟨m, o', es, ep, ho, hd, _⟩ := (r.step st4).rel.fdict ex q
      have he4' : h4.get? ex = some _ := he4
      rw [show ({ s1 with heap := h4 } : Shared).heap = h4 from rfl] at ho
      rw [he4'] at ho; cases ho
      rw [hdat4] at hd; cases hd
    · have := cov.gone fl4.new q
      rw [eo] at this; cases this
  refine store_sg (K := K.mark ex) r4.rel r4.seg r4.nd r4.nw p (.inl hn) [] (.exc hex he4 hcls4 hdat4) fun s5 W5 r5 sol liv n5 _ => ?_
  have n5' : ∀ a ∈ W5, a ∈ W1 := fun a ha => (n5 a ha).elim id fun q => by obtain ⟨_, _, z⟩ := q; cases z
  refine wpAny_execs_cons (wpAny_Return_some (wpAny_mono (kk (K.mark ex) rfl rfl rfl rfl W0 s5 r5.full _) (fun v s6 gt => ?_) fun _ _ q => q))
  have gt0 : Got (K.mark ex) W0 K.s0 d f v s6 := gt.from0 r5
  obtain ⟨st6, as6, rd6, new6⟩ := gt0
  have R6 := r5.rel.step gt.st
  obtain ⟨m6, ns6⟩ := R6.loc
  refine wpAny_nameGoes (R6.ok.kindOf hn) ns6 (by rw [show K.env.scope.kind = .function from R6.ok.kindE]; rfl) fun h7 m7 ns7 sb7 => ?_
  have keep7 : ∀ b o, Solid o → s6.heap.get? b = some o → h7.get? b = some o := fun b o so eb => (sb7.2 b fun q => by
    obtain ⟨o', es, ep, ho, hd, _⟩ := ns6
    have ho' : s6.heap.get? K.env.locals = some o' := ho
    rw [← q, eb] at ho'; cases ho'
    rcases so with ⟨_, _, z⟩ | ⟨_, z, _⟩ <;> (rw [hd] at z; cases z)).trans eb
  refine ⟨.ret d f, kP, [], ⟨⟨?_, fun b o eb => ?_⟩, as6, rd6.ks fun b o _ eb so => keep7 b o so eb, new6⟩, ⟨fun b o hb' so eb => ?_, fun b o eb => ?_, fun a ha => nomatch ha⟩⟩
  · obtain ⟨h6, tk6, rfl⟩ := st6.same
    exact ⟨h7, _, rfl⟩
  · have hbl : b ≠ K.env.locals := fun q => by rw [q, r.rel.ok.locnew] at eb; cases eb
    rcases st6.kf b o eb with q | ⟨q1, q2, sl, q3⟩ | q
    · exact .inl ((sb7.2 b hbl).trans q)
    · exact .inr (.inl ⟨q1, q2, sl, (sb7.2 b hbl).trans q3⟩)
    · refine .inr (.inr (q.keep fun b' o' e' hv _ => (sb7.2 b' fun z => ?_).trans e'))
      obtain ⟨o', es, ep, ho, hd, _⟩ := ns6
      obtain ⟨vs, hv⟩ := hv
      have ho' : s6.heap.get? K.env.locals = some o' := ho
      rw [← z, e'] at ho'; cases ho'
      rw [hd] at hv; cases hv
  · exact keep7 b o so (gt.st.kf.solid so (sol b o so (st4.kf.solid so eb)))
  · obtain ⟨o4, e4⟩ := st4.kf.live eb
    obtain ⟨o5, e5⟩ := liv b o4 e4
    obtain ⟨o6, e6⟩ := gt.st.kf.live e5
    by_cases q : b = K.env.locals
    · subst q
      obtain ⟨o', es, ep, ho, _⟩ := ns7
      exact ⟨o', ho⟩
    · exact ⟨o6, (sb7.2 b q).trans e6⟩
theorem sx_try_ok {d : D} {h₀ : ExceptHandler} {hs : List ExceptHandler} (h : EV K (fullOf g) e d f) (kP : P (.ret d f)) : SX K g (.Try [.Return (some e) rp] (h₀ :: hs) [] [] pos :: rest) P := sx_cons fun W0 W1 s r E =>
  wpAny_Try_except (wpAny_execs_cons (wpAny_Return_some (wpAny_mono (h W0 s r.full _) (fun v s' q => ⟨.ret d f, kP, W1, q.from0 r, .of_step q.st⟩) fun _ _ q => q)))
end
theorem calls_ofT {G : Gx} (gk : G.Ok) {x : Str} {params : Arguments} {body : List Stmt} {sc : Scope} {ps rest own : List Str} {ds : List D} {d : D} {fr : Bool} {n : Nat}
    (hf : ∃ a o pm code doc, G.mg x = some (.ref a) ∧ G.base.get? a = some o ∧ o.data = .func (Calls.docDef x params body sc pm code doc) ∧ G.base.CodeRec code x)
    (ok : DefOk sc ps rest own) (hl : ps.length = ds.length)
    (hb : ∀ vals : List Value, vals.length = ps.length → ∀ pm code doc, bindArgs (Calls.docDef x params body sc pm code doc) ⟨vals, []⟩ = pure (ps.zip vals))
    (h : ∀ K : Fm, K.G = G → K.sc = sc → K.own = own → K.room = n → K.A.handled = none → TopK K → SX K (gStart ps ds rest) body (Rets d fr)) : Calls G (n + 1) x ds d fr := by
  obtain ⟨a, o, pm, code, doc, h1, h2, h3, h4⟩ := hf
  refine ⟨a, o, _, h1, h2, h3, fun A envs W s vs as E st hh off rd => enter gk h2 h3 h4 ok hl hb st off rd fun K s₁ eG eS eO eR eH e0 frE eV eF eX r => ?_⟩
  refine wpAny_mono (h K eG eS eO eR (by rw [eH]; exact hh) ⟨⟨_, eV⟩, eF⟩ W [] s₁ r _) (fun f s' hq => ?_) fun _ _ q => q
  have back : ∀ {v : Value} {s' : Shared} {f' : Bool}, (fr = true → f' = true) → Got K W K.s0 d f' v s' → Step (frs envs) s s' ∧ ∃ bs, Rd W s'.heap v d bs ∧ (fr = true → bs.Nodup ∧ ∀ a ∈ bs, s.heap.get? a = none) := fun hf' q => by
    obtain ⟨st', bs, q1, q2⟩ := q
    rw [e0] at st' q2
    refine ⟨⟨st'.same, fun b o e => ?_⟩, bs, q1, fun e => q2 (hf' e)⟩
    rcases st'.kf b o e with q | ⟨q1, q2⟩ | q
    · exact .inl q
    · rw [frE] at q1
      rcases List.mem_cons.mp q1 with rfl | q1
      · have := r.rel.ok.locnew
        rw [e0] at this
        rw [this] at e; cases e
      · exact .inr (.inl ⟨q1, q2⟩)
    · exact .inr (.inr q)
  obtain ⟨ou, p, W3, m, _⟩ := hq
  cases f with
  | next =>
    cases ou <;> first | exact absurd m id | skip
    obtain rfl : d = .none := p
    have R' : Rel K _ _ s' := m.full
    exact back (f' := true) (fun _ => rfl) (.flat ⟨R'.same, R'.kept⟩ .none true)
  | ret v =>
    cases ou <;> first | exact absurd m id | skip
    obtain ⟨rfl, hf'⟩ := p
    exact back hf' m
  | brk => cases ou <;> first | exact absurd m id | exact absurd p id
  | cont => cases ou <;> first | exact absurd m id | exact absurd p id

structure XR (K : Fm) (g : Sg) (body : List Stmt) (C : Addr) : Prop where
  out : RX K g body C
structure XRE (K : Fm) (rho : List (Str × Option D)) (e : Expr) (C : Addr) : Prop where
  out : EVr K rho e C
structure XRF (K : Fm) (rho : List (Str × Option D)) (e : Expr) (C : Addr) : Prop where
  out : EVf K rho e C
structure XRK (G : Gx) (n : Nat) (x : Str) (ds : List D) (C : Addr) : Prop where
  out : Raises G n x ds C
structure XCl (G : Gx) (x : Str) (C : Addr) (bm : List Value) : Prop where
  out : Cls G x C bm
namespace V
section
variable {K : Fm} {rho : List (Str × Option D)} {g g1 : Sg} {e e1 e2 e3 : Expr} {x n : Str} {np pos cpos rp rp2 hpos : Pos} {rest body orelse : List Stmt} {C CX : Addr} {bm bmX : List Value} {d d1 d2 d3 : D} {f f1 f2 f3 b : Bool} {P : Out → Prop} {k : Nat}
theorem rraise (hx : XG K x) (c : XCl K.G x C bm) (h : XE K (fullOf g) e d f) (hh : XH K) (hxd : Look (gnameOk x)) (hn : Look (noStar e)) : XR K g (.Raise (some (.Call (.Name x np) [e] [] cpos)) none pos :: rest) C :=
  ⟨rx_raise hh.out hx.out hxd.out c.out (evs_cons h.out evs_nil hn.out) hn.out⟩
theorem rif (t : XT K (fullOf g) e b) (h1 : Imp (b = true) (XR K g body C)) (h2 : Imp (b = false) (XR K g rest C)) : XR K g (.If e body [] pos :: rest) C := ⟨rx_if t.out (fun q => (h1.out q).out) fun q => (h2.out q).out⟩
theorem rif_cmp {l r : Expr} {op : CmpOp} {cp : Pos} (h : XRE K (fullOf g) l C) (hm : Look (!behindInMarks op r)) : XR K g (.If (.Compare l [op] [r] cp) body orelse pos :: rest) C := ⟨rx_if_test (tsr_cmp h.out (by simpa using hm.out))⟩
theorem rexpr (h : XRE K (fullOf g) e C) (hc : Look (noComp e)) : XR K g (.Expr e pos :: rest) C := ⟨rx_expr h.out hc.out⟩
theorem rcall1 (hx : XG K x) (h1 : XE K rho e1 d1 f1) (c : XRK K.G k x [d1] C) (hh : XH K) (hxd : Look (gnameOk x)) (n1 : Look (noStar e1)) (hr : Side (k ≤ K.room)) : XRE K rho (.Call (.Name x np) [e1] [] pos) C := ⟨evr_call hh.out hx.out hxd.out (evs_cons h1.out evs_nil n1.out) n1.out c.out hr.out⟩
theorem fcall1 (hx : XG K x) (h1 : XE K rho e1 d1 f1) (c : XRK K.G k x [d1] C) (hh : XH K) (hxd : Look (gnameOk x)) (n1 : Look (noStar e1)) (hr : Side (k ≤ K.room)) : XRF K rho (.Call (.Name x np) [e1] [] pos) C := ⟨evf_call hh.out hx.out hxd.out (evs_cons h1.out evs_nil n1.out) n1.out c.out hr.out⟩
theorem stry_ok {h₀ : ExceptHandler} {hs : List ExceptHandler} (h : XE K (fullOf g) e d f) (kP : Side (P (.ret d f))) : XS K g (.Try [.Return (some e) rp] (h₀ :: hs) [] [] pos :: rest) P := ⟨sx_try_ok h.out kP.out⟩
theorem stry (tk : TopK K) (h : XRF K (fullOf g) e C) (hx : XG K x) (cx : XCl K.G x CX bmX) (c : ClsObj K.G.base C bm) (hb : Side ((Value.ref C :: bm).contains (.ref CX) = true)) (p : XP g n (.fz (excD C)) g1) (hn : Side (K.sc.names.lookup n = some .local))
    (kk : ∀ K' : Fm, K'.G = K.G → K'.sc = K.sc → K'.own = K.own → K'.room = K.room → XE K' (fullOf g1) e2 d f) (kP : Side (P (.ret d f))) (hxd : Look (gnameOk x)) :
    XS K g (.Try [.Return (some e) rp] [.ExceptHandler (some (.Name x np)) (some n) [.Return (some e2) rp2] hpos] [] [] pos :: rest) P :=
  ⟨sx_try_exc tk h.out hx.out hxd.out cx.out c hb.out p.out hn.out (fun K' a b c d => (kk K' a b c d).out) kP.out⟩
theorem isx {tp : Pos} (hx : XG K "isinstance") (hy : XG K x) (h : XE K rho e (excD C) f) (c : ClsObj K.G.base C bm) (cx : XCl K.G x CX bmX) (hyd : Look (gnameOk x)) (hn : Look (noStar e)) : XE K rho (.Call (.Name "isinstance" np) [e, .Name x tp] [] pos) (.bool ((Value.ref C :: bm).contains (.ref CX))) true :=
  ⟨ev_isx hx.out hy.out hyd.out h.out c cx.out hn.out⟩
theorem isve {tp : Pos} (hx : XG K "isinstance") (hy : XG K "ValueError") (h : XE K rho e (excD C) f) (c : ClsObj K.G.base C bm) (hn : Look (noStar e)) : XE K rho (.Call (.Name "isinstance" np) [e, .Name "ValueError" tp] [] pos) (.bool true) true :=
  ⟨ev_isve hx.out hy.out h.out c hn.out⟩
theorem hcall1 (hx : XG K x) (h1 : XE K rho e1 d1 f1) (c : CallsH K.G k x [d1] d f) (hxd : Look (gnameOk x)) (n1 : Look (noStar e1)) (hr : Side (k ≤ K.room)) : XE K rho (.Call (.Name x np) [e1] [] pos) d f := ⟨fun W s R E => by
  obtain ⟨a, o, fd, h1', h2, h3, h4⟩ := c
  rw [eval_Call_plain rfl]
  refine wpAny_bind (load_own R hx.out hxd.out h1' ?_)
  refine callWith_def n1.out h3 (wpAny_mono (evs_cons h1.out evs_nil n1.out W s pos R E) (fun vs s1 ga => ?_) fun _ _ q => q)
  obtain ⟨st, as, q1, _⟩ := ga
  have R1 := R.step st
  refine ⟨R1.stays _ _ h2, wpAny_mono (h4 K.A K.envs W s1 vs as E (R1.site hr.out) R1.off q1) (fun v s2 g2 => ?_) fun _ _ x => x⟩
  obtain ⟨st2, bs, r1, r3⟩ := g2
  exact ⟨st.trans st2, bs, r1, fun e => ⟨(r3 e).1, fun b hb' => st.kf.fresh ((r3 e).2 b hb')⟩⟩⟩
end
end V
theorem raises_def {G : Gx} {rs : List DefRec} (H : Has G rs) (x : Str) (ps rest own : List Str) {dr : DefRec} {ds : List D} {C : Addr} {n : Nat} (hd : rs.find? (fun e => e.name == x) = some dr) (ok : defOkB dr.scope ps rest own = true) (hl : ps.length = ds.length)
    (hb : ∀ vals : List Value, vals.length = ps.length → ∀ pm code doc, bindArgs (Calls.docDef x dr.params dr.body dr.scope pm code doc) ⟨vals, []⟩ = pure (ps.zip vals))
    (h : ∀ K : Fm, K.G = G → K.sc = dr.scope → K.own = own → K.room = n → K.A.handled = none → XR K (gStart ps ds rest) dr.body C) : Raises G (n + 1) x ds C :=
  raises_of H.ok (H.at x hd) (defOk_of ok) hl hb fun K a b c e f => (h K a b c e f).out
theorem calls_defT {G : Gx} {rs : List DefRec} (H : Has G rs) (x : Str) (ps rest own : List Str) {dr : DefRec} {ds : List D} {d : D} {fr : Bool} {n : Nat} (hd : rs.find? (fun e => e.name == x) = some dr) (ok : defOkB dr.scope ps rest own = true) (hl : ps.length = ds.length)
    (hb : ∀ vals : List Value, vals.length = ps.length → ∀ pm code doc, bindArgs (Calls.docDef x dr.params dr.body dr.scope pm code doc) ⟨vals, []⟩ = pure (ps.zip vals))
    (h : ∀ K : Fm, K.G = G → K.sc = dr.scope → K.own = own → K.room = n → K.A.handled = none → TopK K → XS K (gStart ps ds rest) dr.body (Rets d fr)) : Calls G (n + 1) x ds d fr :=
  calls_ofT H.ok (H.at x hd) (defOk_of ok) hl hb fun K a b c e f t => (h K a b c e f t).out
end Mine
end

section
set_option autoImplicit false
namespace Mine
open PySem PySem.MeetsSeq PyProof.Rows

theorem eqg_bool (a b : Bool) : EqGives (.bool a) (.bool b) (a == b) := fun prog w A E s Q h => by
  unfold eqBool
  refine wpAny_holding ?_
  show wpAny _ _ (if (Value.bool a == Value.bool b) = true then _ else _) Q E s
  by_cases hab : (Value.bool a == Value.bool b) = true
  · rw [if_pos hab]
    have e : a = b := by have := eq_of_beq hab; injection this
    subst e
    exact wpAny_bind (wpAny_rule (wpAny_pure (by simpa using h)))
  · rw [if_neg hab]
    exact wpAny_bind (eq_bool (wpAny_truthy_bool h))
def isTr : Value → Bool
  | .bool b => b
  | _ => false
section
variable {K : Fm} {rho : List (Str × Option D)} {o e : Expr} {apos cpos : Pos} {B : List Bool} {f g : Bool} {j : Nat}
theorem rd_bools {W : List Addr} {h : Heap} {vs : List Value} {as : List Addr} (r : RdAll W h vs (B.map .bool) as) : vs = B.map Value.bool := by
  apply List.ext_getElem?
  intro i
  cases hv : vs[i]? with
  | none =>
    have : vs.length ≤ i := List.getElem?_eq_none_iff.mp hv
    have hl := r.length
    rw [List.length_map] at hl
    rw [List.getElem?_map, List.getElem?_eq_none (by lia)]; rfl
  | some v =>
    obtain ⟨d, bs, e1, e2, _⟩ := r.getv i v hv
    rw [List.getElem?_map] at e1 ⊢
    obtain ⟨b, hb, rfl⟩ := Option.map_eq_some_iff.mp e1
    obtain ⟨rfl, _⟩ := e2.bool_inv
    rw [hb]; rfl
theorem eq_tr {vs : List Value} (hv : vs = B.map Value.bool) : ∀ y, y ∈ vs.toArray → EqGives y (.bool true) (isTr y) := fun y hy => by
  rw [List.mem_toArray, hv] at hy
  obtain ⟨b, _, rfl⟩ := List.mem_map.mp hy
  have := eqg_bool b true
  rw [show (b == true) = isTr (.bool b) by cases b <;> rfl] at this
  exact this
theorem ev_count_true (hb : ∀ n w, attributeBase o n K.env w = w) (h : EV K rho o (.list (B.map .bool)) f) (h2 : EV K rho e (.bool true) g) (hn : noStar e = true) (hline : (apos.endLine == cpos.line) = true) :
    EV K rho (.Call (.Attribute o "count" apos) [e] [] cpos) (.int (B.count true : Nat)) true := fun W s R E => by
  refine meth_list (T := "list") (name := "count") hn (hb _ _) hline PySem.F.slot_list_count PySem.F.type_list_count (h.bind R fun v s1 R1 g1 => ?_)
  obtain ⟨st, as, rd, _⟩ := g1
  obtain ⟨a, vs, n, bs, rfl, _, ho, hr, _⟩ := rd.list_inv
  refine ⟨a, vs, n, rfl, ho, h2.bind R1 fun y s2 R2 g2 => ?_⟩
  obtain ⟨st2, _, r2, _⟩ := g2
  obtain ⟨rfl, _⟩ := r2.bool_inv
  have ho2 := st2.kf.solid solid_list ho
  have hv := rd_bools hr
  refine call_meets PySem.F.slot_list_count ⟨_, ho2, rfl⟩ PySem.F.entry_list_count (PySem.F.args_list_count_2 _ _) (list_count a vs.toArray n (.bool true) isTr (eq_tr hv)) ⟨ho2, ?_⟩
  have e1 : vs.toArray.toList.countP isTr = B.count true := by
    rw [List.toList_toArray, hv, List.countP_map]
    unfold List.count
    congr 1
    funext b
    cases b <;> rfl
  rw [e1]
  exact Got.intro_int ((st.trans st2).toks _) _
theorem ev_index_true (hb : ∀ n w, attributeBase o n K.env w = w) (h : EV K rho o (.list (B.map .bool)) f) (h2 : EV K rho e (.bool true) g) (hj : j < B.length) (hj2 : j < 1000000000) (hit : B[j]? = some true) (hno : ∀ m, m < j → B[m]? = some false) (hn : noStar e = true) (hline : (apos.endLine == cpos.line) = true) :
    EV K rho (.Call (.Attribute o "index" apos) [e] [] cpos) (.int (j : Nat)) true := fun W s R E => by
  refine meth_list (T := "list") (name := "index") hn (hb _ _) hline PySem.F.slot_list_index PySem.F.type_list_index (h.bind R fun v s1 R1 g1 => ?_)
  obtain ⟨st, as, rd, _⟩ := g1
  obtain ⟨a, vs, n, bs, rfl, _, ho, hr, _⟩ := rd.list_inv
  refine ⟨a, vs, n, rfl, ho, h2.bind R1 fun y s2 R2 g2 => ?_⟩
  obtain ⟨st2, _, r2, _⟩ := g2
  obtain ⟨rfl, _⟩ := r2.bool_inv
  have ho2 := st2.kf.solid solid_list ho
  have hv := rd_bools hr
  have hl : vs.toArray.size = B.length := by rw [List.size_toArray, hv, List.length_map]
  have at_ : ∀ (m : Nat) (hm : m < vs.toArray.size) b, B[m]? = some b → isTr vs.toArray[m] = b := fun m hm b hb' => by
    subst hv
    simp only [List.getElem_toArray, List.getElem_map]
    obtain ⟨_, e⟩ := List.getElem?_eq_some_iff.mp hb'
    exact e
  refine call_meets PySem.F.slot_list_index ⟨_, ho2, rfl⟩ PySem.F.entry_list_index (PySem.F.args_list_index_2 _ _) (list_index a vs.toArray n (.bool true) isTr (eq_tr hv) j (by rw [hl]; exact hj) (by lia) (at_ j _ true hit) fun m hm hlt => at_ m hm false (hno m hlt)) ⟨ho2, ?_⟩
  exact Got.intro_int ((st.trans st2).toks _) _
end
end Mine
end

section
set_option autoImplicit false
namespace Mine
open PySem PySem.MeetsSeq PyProof.Rows

section
variable {K : Fm} {rho : List (Str × Option D)} {l r e : Expr} {pos np : Pos} {ds es : List D} {d : D} {f g : Bool} {n : Int}
theorem ev_add_listN (h1 : EV K rho l (.list ds) f) (h2 : EV K rho r (.list es) g) (hl : ds.length + es.length ≤ sizeLine) : EV K rho (.BinOp l .Add r pos) (.list (ds ++ es)) false :=
  ev_bin h1 h2 fun W s s2 v1 v2 E R R2 g1 g2 => by
    obtain ⟨st, as, q1, _⟩ := g1
    obtain ⟨_, bs, q2, _⟩ := g2
    obtain ⟨a, vs, n, as', rfl, rfl, ho, hr, haW⟩ := q1.list_inv
    obtain ⟨b, ws, n2, bs', rfl, rfl, ho2, hr2, hbW⟩ := q2.list_inv
    refine PySem.P.add_list ho ho2 ?_ (by simp only [List.size_toArray, hr.length, hr2.length]; exact hl)
    have e : vs.toArray ++ ws.toArray = (vs ++ ws).toArray := by simp
    rw [e]
    exact Got.newList R2.off ⟨st, _, hr.append hr2, fun e => nomatch e⟩

theorem noFill_tuple_mul : fillsNumberSlot (.type "tuple") "mul" = pure false :=
  PySem.fillsNumberSlot_seq (id := "tuple.__mul__") (r := some (.builtin "tuple.__rmul__")) F.slot_tuple_mul.lookup (by decide +kernel) F.slot_tuple_rmul.lookup (by decide +kernel)
theorem repeat_tuple : seqRepeat? (.type "tuple") = pure (some (.builtin "tuple.__mul__")) := by
  unfold seqRepeat?
  rw [PySem.seqSlot_of (T := "tuple") (name := "__mul__") (id := "tuple.__mul__") F.slot_tuple_mul.lookup (by decide +kernel), PySem.seqSlot_of (T := "tuple") (name := "__rmul__") (id := "tuple.__rmul__") F.slot_tuple_rmul.lookup (by decide +kernel)]
  rfl
theorem rmul_int_tuple (a : Int) (t : Tok) (l : Addr) (items : Array Value) (n : Nat) :
    PySem.Meets (Builtin.«int.__rmul__» ⟨[.int a t, .ref l], []⟩) (fun _ R s => s.heap.get? l = some { cls := .type "tuple", dict := none, data := .seq items n, slots := #[] } ∧ R (.ok (.ret Value.notImplemented)) s) :=
  .of_wp fun prog w A R s h => by obtain ⟨hp, g, d, tk, os⟩ := s; obtain ⟨hl, h⟩ := h; wp_walk; exact ⟨_, rfl, h⟩
theorem tuple_mul_one (l : Addr) (items : Array Value) (n : Nat) (u : Tok) :
    PySem.Meets (Builtin.«tuple.__mul__» ⟨[.ref l, .int 1 u], []⟩) (fun _ R s => s.heap.get? l = some { cls := .type "tuple", dict := none, data := .seq items n, slots := #[] } ∧ R (.ok (.ret (.ref l))) s) :=
  .of_wp fun prog w A R s h => by
    obtain ⟨hp, g, d, tk, os⟩ := s; obtain ⟨hl, h⟩ := h
    have f1 := AutoSeq1.idx_int
    have hc : (items.isEmpty || (1 : Int) == 1) = true := by simp
    wp_walk using wpAny_loadPart' hl
    exact ⟨_, rfl, h⟩
theorem foldl_size (a : Array Value) : ∀ (k : Nat) (acc : Array Value), ((List.replicate k a).foldl (· ++ ·) acc).size = acc.size + k * a.size
  | 0, acc => by simp
  | k + 1, acc => by
    rw [List.replicate_succ, List.foldl_cons, foldl_size a k, Array.size_append, Nat.succ_mul]; lia
theorem tuple_mul_more (l : Addr) (items : Array Value) (n : Nat) (x : Int) (u : Tok) (h1 : (items.isEmpty || x == 1) = false) (h2 : (decide (x ≤ 0) || items.isEmpty) = false) (h3 : x < 1000) (h4 : items.size ≤ 1000) (h0 : 0 < x) :
    PySem.Meets (Builtin.«tuple.__mul__» ⟨[.ref l, .int x u], []⟩) (fun _ R s => s.heap.get? l = some { cls := .type "tuple", dict := none, data := .seq items n, slots := #[] } ∧ R (.ok (.ret (.ref s.heap.objs.size))) { s with heap := s.heap.push { cls := .type "tuple", data := .seq ((List.replicate x.toNat items).foldl (· ++ ·) #[]) } }) :=
  .of_wp fun prog w A R s h => by
    obtain ⟨hp, g, d, tk, os⟩ := s; obtain ⟨hl, h⟩ := h
    have f1 := AutoSeq1.idx_int
    have hc0 : ¬(decide (x < -(2 ^ 63)) || decide (x ≥ 2 ^ 63)) = true := by simp; omega
    have h1 : ¬(items.isEmpty || x == 1) = true := by rw [h1]; exact Bool.false_ne_true
    have h2 : ¬(decide (x ≤ 0) || items.isEmpty) = true := by rw [h2]; exact Bool.false_ne_true
    have hm : (items.size : Int) * x ≤ 1000 * 1000 := Int.mul_le_mul (by omega) (by omega) (by omega) (by omega)
    have hc3 : ¬ (items.size : Int) * x > (2 ^ 63 - 1) / 8 := by omega
    have hc4 : ¬Builtin.Tuple.tupleTooMany ((items.size : Int) * x) = true := by simp [Builtin.Tuple.tupleTooMany, sizeLine]; omega
    have hz : ¬((List.replicate x.toNat items).foldl (· ++ ·) #[]).size > sizeLine := by
      rw [foldl_size]
      have : x.toNat * items.size ≤ 1000 * 1000 := Nat.mul_le_mul (by omega) h4
      simp [sizeLine]; omega
    wp_walk using wpAny_loadPart' hl
    refine wpAny_ite_false (by simp; omega) ?_
    wp_walk using wpAny_loadPart' hl
    refine wpAny_ite_false (decide_eq_false hc3) ?_
    wp_walk using wpAny_loadPart' hl
    exact ⟨_, rfl, h⟩
end

structure XAb (K : Fm) (o : Expr) : Prop where
  out : ∀ n w, attributeBase o n K.env w = w
namespace V
section
variable {K : Fm} {rho : List (Str × Option D)} {o e l r : Expr} {apos cpos pos : Pos} {B : List Bool} {f g : Bool} {j : Nat} {ds es : List D}
theorem count_true (hb : XAb K o) (h : XE K rho o (.list (B.map .bool)) f) (h2 : XE K rho e (.bool true) g) (hn : Look (noStar e)) (hl : Look (apos.endLine == cpos.line)) : XE K rho (.Call (.Attribute o "count" apos) [e] [] cpos) (.int (B.count true : Nat)) true :=
  ⟨ev_count_true hb.out h.out h2.out hn.out hl.out⟩
theorem index_true (hb : XAb K o) (h : XE K rho o (.list (B.map .bool)) f) (h2 : XE K rho e (.bool true) g) (hj : Side (j < B.length ∧ j < 1000000000)) (hit : Side (B[j]? = some true)) (hno : Side (∀ m, m < j → B[m]? = some false)) (hn : Look (noStar e)) (hl : Look (apos.endLine == cpos.line)) :
    XE K rho (.Call (.Attribute o "index" apos) [e] [] cpos) (.int (j : Nat)) true := ⟨ev_index_true hb.out h.out h2.out hj.out.1 hj.out.2 hit.out hno.out hn.out hl.out⟩
theorem addn (h1 : XE K rho l (.list ds) f) (h2 : XE K rho r (.list es) g) (hl : Side (ds.length + es.length ≤ sizeLine)) : XE K rho (.BinOp l .Add r pos) (.list (ds ++ es)) false := ⟨ev_add_listN h1.out h2.out hl.out⟩
end
end V

section
variable {K : Fm} {rho : List (Str × Option D)} {l r : Expr} {pos : Pos} {f g : Bool} {d : D}
theorem foldl_rep (v : Value) : ∀ (k : Nat) (acc : Array Value), (List.replicate k #[v]).foldl (· ++ ·) acc = acc ++ (List.replicate k v).toArray
  | 0, acc => by simp
  | k + 1, acc => by
    rw [List.replicate_succ, List.foldl_cons, foldl_rep v k, List.replicate_succ]
    apply Array.ext'
    simp
theorem rdAll_rep {W : List Addr} {h : Heap} {v : Value} (r : Rd W h v d []) : ∀ k : Nat, RdAll W h (List.replicate k v) (List.replicate k d) []
  | 0 => .nil
  | k + 1 => .cons (as := []) (bs := []) r (rdAll_rep r k)
theorem ev_rep {k : Nat} (h1 : EV K rho l (.tuple [d]) f) (h2 : EV K rho r (.int (k : Int)) g) (fl : Flat d) (hk : 0 < k ∧ k < 1000) : EV K rho (.BinOp l .Mult r pos) (.tuple (List.replicate k d)) true :=
  ev_bin h1 h2 fun W s s2 v1 v2 E R R2 g1 g2 => by
    obtain ⟨st, as, q1, _⟩ := g1
    obtain ⟨_, bs, q2, _⟩ := g2
    obtain ⟨a, vs, n, rfl, ho, hr, haW⟩ := id q1.tuple_inv
    obtain ⟨u, rfl, _⟩ := q2.int_inv
    have hlen := hr.length
    obtain ⟨v, rfl⟩ := List.length_eq_one_iff.mp hlen
    have rv : Rd W s2.heap v d [] := by
      obtain ⟨v', cs, e1, e2, _⟩ := hr.get 0 d rfl
      cases e1
      rw [Flat.rd e2 fl] at e2
      exact e2
    refine wpAny_binaryOp_repeat_ref (T := "tuple") (U := "int") (by decide) ⟨_, ho, rfl⟩ (fun s' => typeIs_int s' _ u) noFill_tuple_mul F.fills_int_mul F.slot_int_rmul repeat_tuple F.slot_int_index.lookup
      (call_meets F.slot_int_rmul (typeIs_int s2 _ u) F.entry_int_rmul (F.args_int_rmul_2 _ _) (rmul_int_tuple _ u a _ n) ⟨ho, rfl, ⟨_, ho, rfl⟩, ?_⟩)
    by_cases h1 : k = 1
    · subst h1
      exact call_meets F.slot_tuple_mul ⟨_, ho, rfl⟩ F.entry_tuple_mul (F.args_tuple_mul_2 _ _) (tuple_mul_one a _ n u) ⟨ho, .flat st (.tuple haW ho (rdAll_rep rv 1)) _⟩
    · refine call_meets F.slot_tuple_mul ⟨_, ho, rfl⟩ F.entry_tuple_mul (F.args_tuple_mul_2 _ _) (tuple_mul_more a _ n k u (by simp; lia) (by simp; lia) (by lia) (by simp) (by lia)) ⟨ho, ?_⟩
      have e1 : (List.replicate (k : Int).toNat [v].toArray).foldl (· ++ ·) #[] = (List.replicate k v).toArray := by
        rw [show (k : Int).toNat = k by lia]
        have := foldl_rep v k #[]
        simpa using this
      rw [e1]
      exact (Got.newTuple R2.off ⟨st, [], rdAll_rep rv k, fun _ => ⟨.nil, fun a ha => nomatch ha⟩⟩)
end
theorem V.rep0 {K : Fm} {rho : List (Str × Option D)} {l r : Expr} {pos : Pos} {f g : Bool} {k : Nat} (h1 : XE K rho l (.tuple [.int 0]) f) (h2 : XE K rho r (.int (k : Int)) g) (hk : Side (0 < k ∧ k < 1000)) : XE K rho (.BinOp l .Mult r pos) (.tuple ((List.replicate k (0 : Int)).map .int)) true := by
  have := ev_rep (pos := pos) h1.out h2.out (.int 0) hk.out
  rw [List.map_replicate]
  exact ⟨this⟩

section
variable {K : Fm} {rho : List (Str × Option D)} {l r : Expr} {pos : Pos} {f g : Bool} {d : D}
theorem list_mul_more (l : Addr) (items : Array Value) (n : Nat) (x : Int) (u : Tok) (h0 : 0 ≤ x) (h1 : x < 1000) (h2 : items.size ≤ 1000) :
    PySem.Meets (Builtin.«list.__mul__» ⟨[.ref l, .int x u], []⟩) (fun _ R s => s.heap.get? l = some { cls := .type "list", dict := none, data := .seq items n, slots := #[] } ∧ R (.ok (.ret (.ref s.heap.objs.size))) { s with heap := s.heap.push { cls := .type "list", data := .seq (List.foldl (fun x1 x2 => x1 ++ x2) #[] (List.replicate (if items.isEmpty = true then 0 else x.toNat) items)) } }) := by
  have hsz : items.size * x.toNat ≤ 1000 * 1000 := Nat.mul_le_mul h2 (by lia)
  exact AutoListH.list___mul___list_int_3 l items n x u (by simp [Builtin.List.listFitsIndex]; lia) (by lia) (by simp [Builtin.List.listTooLong, sizeLine]; lia)
theorem ev_repl {x : Int} (h1 : EV K rho l (.list [d]) f) (h2 : EV K rho r (.int x) g) (fl : Flat d) (h0 : 0 ≤ x) (hk : x < 1000) : EV K rho (.BinOp l .Mult r pos) (.list (List.replicate x.toNat d)) true :=
  ev_bin h1 h2 fun W s s2 v1 v2 E R R2 g1 g2 => by
    obtain ⟨st, as, q1, _⟩ := g1
    obtain ⟨_, bs, q2, _⟩ := g2
    obtain ⟨a, vs, n, cs, rfl, rfl, ho, hr, haW⟩ := id q1.list_inv
    obtain ⟨u, rfl, _⟩ := q2.int_inv
    have hlen := hr.length
    obtain ⟨v, rfl⟩ := List.length_eq_one_iff.mp hlen
    have rv : Rd W s2.heap v d [] := by
      obtain ⟨v', cs', e1, e2, _⟩ := hr.get 0 d rfl
      cases e1
      rw [Flat.rd e2 fl] at e2
      exact e2
    have hz : [v].toArray.size ≤ 1000 := by show 1 ≤ 1000; decide
    refine wpAny_binaryOp_repeat_ref (T := "list") (U := "int") (by decide) ⟨_, ho, rfl⟩ (fun s' => typeIs_int s' _ u) noFill_list_mul F.fills_int_mul F.slot_int_rmul repeat_list F.slot_int_index.lookup
      (call_meets F.slot_int_rmul (typeIs_int s2 _ u) F.entry_int_rmul (F.args_int_rmul_2 _ _) (int___rmul___int_list _ u a _ n) ⟨ho, rfl, ⟨_, ho, rfl⟩, ?_⟩)
    refine call_meets F.slot_list_mul ⟨_, ho, rfl⟩ F.entry_list_mul (F.args_list_mul_2 _ _) (list_mul_more a _ n x u h0 hk hz) ⟨ho, ?_⟩
    have e1 : List.foldl (fun x1 x2 => x1 ++ x2) #[] (List.replicate (if ([v].toArray).isEmpty = true then 0 else x.toNat) [v].toArray) = (List.replicate x.toNat v).toArray := by
      have := foldl_rep v x.toNat #[]
      simpa using this
    rw [e1]
    exact Got.newList R2.off ⟨st, [], rdAll_rep rv x.toNat, fun _ => ⟨.nil, fun a ha => nomatch ha⟩⟩
end
namespace V
section
variable {K : Fm} {rho : List (Str × Option D)} {l r : Expr} {pos : Pos} {f g : Bool} {a b : Int}
end
end V
end Mine
end

section
set_option autoImplicit false
namespace Mine
open PySem PySem.W PyProof.Rows

theorem nsMap_keeps {h h' : Heap} (k : ∀ b o, h.get? b = some o → h'.get? b = some o) {a : Addr} {x : Str} {v : Value} (e : h.nsMap a x = some v) : h'.nsMap a x = some v := by
  unfold Heap.nsMap at e ⊢
  cases ho : h.get? a with
  | none => rw [ho] at e; cases e
  | some o => rw [ho] at e; rw [k _ _ ho]; exact e
def numAt (h : Heap) (x : Str) : Option Int := match h.nsMap mainGlobals x with
  | some (.int i _) => some i
  | _ => none
abbrev NumTab := List (Str × Int)
def numObs (t : NumTab) (h : Heap) : List (Option Int) := t.map fun q => numAt h q.1
def numVal (t : NumTab) : List (Option Int) := t.map fun q => some q.2
def NumSays (t : NumTab) (h : Heap) : Prop := ∀ q ∈ t, ∃ u, h.nsMap mainGlobals q.1 = some (.int q.2 u)
theorem numSays_of {t : NumTab} {h : Heap} (e : numObs t h = numVal t) : NumSays t h := fun q hq => by
  have := List.map_inj_left.mp e q hq
  unfold numAt at this
  split at this
  · rename_i i u e1
    cases this
    exact ⟨u, e1⟩
  · cases this
theorem NumSays.keeps {t : NumTab} {h h' : Heap} (s : NumSays t h) (k : ∀ b o, h.get? b = some o → h'.get? b = some o) : NumSays t h' := fun q hq => let ⟨u, e⟩ := s q hq; ⟨u, nsMap_keeps k e⟩
theorem num_says {prog view : Program} {w : World} {loose : List Str} {mean : ExcName → Option Value} {mg mb : Str → Option Value} {h : Heap} (T : Top view loose mean mg mb h) {t : NumTab} (S : NumSays t h) (x : Str) (i : Int) (hm : (x, i) ∈ t) : XN ⟨prog, w, h, mg⟩ x i := by
  obtain ⟨u, e⟩ := S _ hm
  exact ⟨u, by show mg x = _; rw [T.g.eq_nsMap]; exact e⟩
end Mine
end

section
set_option autoImplicit false
namespace Mine
open PySem PySem.W PyProof.Rows

def quietNs (h : Heap) (N : Addr) : Bool := h.isNs N && qn.all fun n => (h.nsMap N n).isNone
def clsAt (h : Heap) (C : Addr) : Option (List Value × Bool) := match h.get? C with
  | some o => (match o.data with | .cls cd => some (cd.mro, quietNs h cd.ns) | _ => none)
  | none => none
abbrev ClsTab := List (Str × Addr × List Value)
def clsObs (t : ClsTab) (h : Heap) : List (Option Value × Option (List Value × Bool)) := t.map fun q => (h.nsMap mainGlobals q.1, clsAt h q.2.1)
def clsVal (t : ClsTab) : List (Option Value × Option (List Value × Bool)) := t.map fun q => (some (.ref q.2.1), some (.ref q.2.1 :: q.2.2, true))
def ClsSays (t : ClsTab) (h : Heap) : Prop := ∀ q ∈ t, h.nsMap mainGlobals q.1 = some (.ref q.2.1) ∧ clsAt h q.2.1 = some (.ref q.2.1 :: q.2.2, true)
theorem clsSays_of {t : ClsTab} {h : Heap} (e : clsObs t h = clsVal t) : ClsSays t h := fun q hq => by
  have := List.map_inj_left.mp e q hq
  exact ⟨congrArg Prod.fst this, congrArg Prod.snd this⟩
theorem quiet_ns {h : Heap} {N : Addr} (e : quietNs h N = true) : ∃ m, h.Ns N m ∧ ∀ n ∈ qn, m n = none := by
  obtain ⟨a, b⟩ := Bool.and_eq_true_iff.mp e
  exact ⟨_, .of_isNs a, fun n hn => Option.isNone_iff_eq_none.mp (List.all_eq_true.mp b n hn)⟩
theorem quiet_keeps {h h' : Heap} (k : ∀ b o, h.get? b = some o → h'.get? b = some o) {N : Addr} (e : quietNs h N = true) : quietNs h' N = true := by
  obtain ⟨a, _⟩ := Bool.and_eq_true_iff.mp e
  obtain ⟨o, _, _, ho, _⟩ := Heap.Ns.of_isNs a
  have e1 : h'.get? N = h.get? N := (k _ _ ho).trans ho.symm
  have e2 : h'.isNs N = h.isNs N := by unfold Heap.isNs; rw [e1]
  have e3 : ∀ n, h'.nsMap N n = h.nsMap N n := fun n => by unfold Heap.nsMap; rw [e1]
  unfold quietNs at e ⊢
  rw [e2]
  simp only [e3]
  exact e
theorem clsAt_keeps {h h' : Heap} (k : ∀ b o, h.get? b = some o → h'.get? b = some o) {a : Addr} {v : List Value} (e : clsAt h a = some (v, true)) : clsAt h' a = some (v, true) := by
  unfold clsAt at e ⊢
  cases ho : h.get? a with
  | none => rw [ho] at e; cases e
  | some o =>
    rw [ho] at e; rw [k _ _ ho]
    cases hd : o.data <;> simp only [hd] at e ⊢ <;> try (cases e; done)
    rename_i cd
    simp only [Option.some.injEq, Prod.mk.injEq] at e ⊢
    exact ⟨e.1, quiet_keeps k e.2⟩
theorem ClsSays.keeps {t : ClsTab} {h h' : Heap} (s : ClsSays t h) (k : ∀ b o, h.get? b = some o → h'.get? b = some o) : ClsSays t h' := fun q hq => ⟨nsMap_keeps k (s q hq).1, clsAt_keeps k (s q hq).2⟩
theorem clsAt_inv {h : Heap} {C : Addr} {v : List Value} (e : clsAt h C = some (v, true)) : ∃ o cd, h.get? C = some o ∧ o.data = .cls cd ∧ cd.mro = v ∧ quietNs h cd.ns = true := by
  unfold clsAt at e
  cases ho : h.get? C with
  | none => rw [ho] at e; cases e
  | some o =>
    rw [ho] at e
    cases hd : o.data <;> simp only [hd] at e <;> try (cases e; done)
    rename_i cd
    simp only [Option.some.injEq, Prod.mk.injEq] at e
    exact ⟨o, cd, rfl, hd, e.1, e.2⟩
def tailIn (t : ClsTab) : List Value → Bool
  | .ref A :: tl => (t.any fun q => q.2.1 == A) && tailIn t tl
  | tl => tl == vmro
theorem tail_of {t : ClsTab} {h : Heap} (S : ClsSays t h) (tl : List Value) : tailIn t tl = true → TailN h tl := by
  induction tl with
  | nil => intro e; cases e
  | cons v tl ih =>
    intro e
    cases v
    case ref A =>
      rw [tailIn] at e
      obtain ⟨e1, e2⟩ := Bool.and_eq_true_iff.mp e
      obtain ⟨q, hq, hA⟩ := List.any_eq_true.mp e1
      obtain rfl := beq_iff_eq.mp hA
      obtain ⟨o, cd, h1, h2, _, h4⟩ := clsAt_inv (S q hq).2
      obtain ⟨m, n1, n2⟩ := quiet_ns h4
      obtain ⟨cls, dict, data, slots⟩ := o
      subst h2
      exact .own h1 n1 n2 (ih e2)
    all_goals (rw [eq_of_beq (α := List Value) (b := vmro) e]; exact .base)
def ownIs (p : Program) (x : Str) : Bool := (ownsOf p).any fun o => o.name == x && o.bm == vmro && o.newId == "ValueError.__new__"
theorem cls_top {prog view : Program} {w : World} {loose : List Str} {mean : ExcName → Option Value} {mg mb : Str → Option Value} {h : Heap} (T : Top view loose mean mg mb h) {t : ClsTab} (S : ClsSays t h) (x : Str) (C : Addr) (bm : List Value) (hm : (x, C, bm) ∈ t) (hb : tailIn t bm = true) (e : ownIs view x = true) : Cls ⟨prog, w, h, mg⟩ x C bm := by
  obtain ⟨o, ho, h1⟩ := List.any_eq_true.mp e
  simp only [Bool.and_eq_true, beq_iff_eq] at h1
  obtain ⟨⟨rfl, h2⟩, h3⟩ := h1
  obtain ⟨C', ⟨hb', bm', N, nm, q, bs, hdct, sn, sub, ab, col, dd, k0, k1, k2, k3, k5, mN, hC, hN, hq, hT⟩, _⟩ := T.own o ho
  obtain ⟨s1, s2⟩ := S _ hm
  have e1 : mg o.name = some (.ref C) := by rw [T.g.eq_nsMap]; exact s1
  rw [e1] at hb'
  cases hb'
  rw [h3] at hC
  obtain ⟨o', cd, g1, g2, g3, g4⟩ := clsAt_inv s2
  rw [hC] at g1
  cases g1
  cases g2
  cases g3
  obtain ⟨m, n1, n2⟩ := quiet_ns g4
  exact ⟨e1, ⟨nm, q, N, bs, hdct, sn, sub, ab, col, dd, k0, k1, k2, k3, k5, m, hC, n1, n2, tail_of S _ hb⟩⟩

abbrev Obs (c : ClsTab) (n : NumTab) (s : Shared) := (clsObs c s.heap, numObs n s.heap)
abbrev ObsVal (c : ClsTab) (n : NumTab) := (clsVal c, numVal n)
theorem obs_says {c : ClsTab} {n : NumTab} (w : World) (s : Shared) (e : Obs c n s = ObsVal c n) : ClsSays c s.heap ∧ NumSays n s.heap := ⟨clsSays_of (congrArg Prod.fst e), numSays_of (congrArg Prod.snd e)⟩
theorem obs_keeps {c : ClsTab} {n : NumTab} (w : World) (h h' : Heap) (x : ClsSays c h ∧ NumSays n h) (k : ∀ b o, h.get? b = some o → h'.get? b = some o) : ClsSays c h' ∧ NumSays n h' := ⟨x.1.keeps k, x.2.keeps k⟩
end Mine
end

section
set_option autoImplicit false
namespace Mine
open PySem PySem.W

theorem well_ints {P : Params} {h : Heap}  {vs : List Value} {L : List Int} (x : WellAll P h vs (ofPys (L.map .int))) : RdAll [] h vs (L.map .int) [] := by
  induction L generalizing vs with
  | nil => cases x; exact .nil
  | cons n L ih =>
    cases x with
    | cons a b =>
      cases a with
      | int i t => exact .cons (as := []) (bs := []) (.int _ _) (ih b)
theorem well_rd {P : Params} {h : Heap} {v : Value} {L : List Int} (x : Well P h v (ofPy (.list (L.map .int)))) : ∃ as, Rd [] h v (.list (L.map .int)) as := by
  cases x with
  | list a b => exact ⟨_, .list (fun hm => nomatch hm) a (well_ints b)⟩

def tabAt : List Addr := theTabs.map (·.1)
theorem tab_mem {q : Addr × Nat × Nat × Str} (h : q ∈ theTabs) : q.1 ∈ tabAt := List.mem_map.mpr ⟨q, h, rfl⟩
structure TabsUp (h : Heap) : Prop where
  empty : ∀ q ∈ theTabs, h.get? q.1 = some emptyTab
  code : ∀ q ∈ theTabs, isCodeTable h q.1
theorem TabsUp.out {h : Heap} (t : TabsUp h) {a : Addr} {o : Obj} (e : h.get? a = some o) (hn : o ≠ emptyTab) : (mask h tabAt).get? a = some o := by
  refine (mask_out fun hm => ?_).trans e
  obtain ⟨q, hq, rfl⟩ := List.mem_map.mp hm
  rw [t.empty q hq] at e
  exact hn (Option.some.inj e).symm
theorem TabsUp.ns {h : Heap} (t : TabsUp h) {a : Addr} {m : Str → Option Value} (n : h.Ns a m) : (mask h tabAt).Ns a m := by
  obtain ⟨o, es, ep, ho, hd, r⟩ := n
  exact ⟨o, es, ep, t.out ho (ne_tab hd (fun z => by cases z)), hd, r⟩
theorem TabsUp.codeRec {h : Heap} (t : TabsUp h) {v : Value} {n : Str} (c : h.CodeRec v n) : (mask h tabAt).CodeRec v n := by
  obtain ⟨c, oc, vs, tq, hc, hoc, hdc, hq⟩ := c
  refine ⟨c, oc, vs, tq, hc, t.out hoc (fun q => ?_), hdc, hq⟩
  rw [q] at hdc
  have : vs = #[] := by cases hdc; rfl
  rw [this] at hq
  simp at hq
theorem has_top {prog view : Program} {w : World} {loose : List Str} {mean : ExcName → Option Value} {mg mb : Str → Option Value} {h : Heap} (T : PyProof.Rows.Top view loose mean mg mb h) (tu : TabsUp h)
    (hm : (bnames.all fun x => !startupNames.contains x && !loose.contains x && !((PyProof.Rows.recsOf view).map (·.name)).contains x && !((PyProof.Rows.litsOf view).map (·.1)).contains x && !((PyProof.Rows.clssOf view loose).map (·.name)).contains x) = true) :
    Has ⟨prog, w, mask h tabAt, mg⟩ (PyProof.Rows.recsOf view) where
  ok := {
    g := tu.ns T.g
    b := ⟨mb, tu.ns T.b, T.builtins⟩
    nolimit := by
      obtain ⟨m, n, r⟩ := T.nolimit
      exact ⟨m, tu.ns n, r⟩
    nodigits := let ⟨mc, n, r⟩ := T.nodigits; ⟨mc, tu.ns n, r⟩
    miss := fun x hx => by
      have := List.all_eq_true.mp hm x hx
      simp only [Bool.and_eq_true, Bool.not_eq_true'] at this
      obtain ⟨⟨⟨⟨a, b⟩, c⟩, d⟩, e⟩ := this
      refine T.free x ?_ ?_ ?_ ?_ ?_ <;> (intro q; first | (rw [List.contains_iff_mem.mpr q] at a; cases a) | (rw [List.contains_iff_mem.mpr q] at b; cases b) | (rw [List.contains_iff_mem.mpr q] at c; cases c) | (rw [List.contains_iff_mem.mpr q] at d; cases d) | (rw [List.contains_iff_mem.mpr q] at e; cases e))
    notab := fun q hq => mask_in (tab_mem hq) }
  fn := fun d hd => let ⟨a, o, pm, code, doc, h1, h2, h3, h4⟩ := T.fn d hd; ⟨a, o, pm, code, doc, h1, tu.out h2 (ne_tab h3 (fun z => by cases z)), h3, tu.codeRec h4⟩
theorem old_kf {h h' : Heap} (k : KF [] h h') (tu : TabsUp h) : OldK h h' where
  old := fun b o e => by
    rcases k b o e with q | ⟨q, _⟩ | ⟨q, hq, rfl, rfl, c, h1, _⟩
    · exact .inl q
    · cases q
    · exact .inr (.inl ⟨tu.code q hq, rfl, #[], #[rawInt q.2.1, rawInt q.2.2.1, .ref c], rfl, by rw [h1]; simp⟩)
  there := fun b o e => k.live e

theorem law_top {prog : Program} {w : World} {s₁ : Shared} {mg : Str → Option Value} {n : Nat} {L : List Int} {fa : Addr} {v : Value} {P : Params} {Q : Value → Shared → Prop} {E : Value → Shared → Prop} {d : D} (tu : TabsUp s₁.heap)
    (C : Calls ⟨prog, w, mask s₁.heap tabAt, mg⟩ n "law" [.list (L.map .int)] d true) (hn : n ≤ 400) (hmg : mg "law" = some (.ref fa)) (hw : Well P s₁.heap v (ofPy (.list (L.map .int))))
    (hQ : ∀ v s', (∃ h' tk, s' = { s₁ with heap := h', toks := tk }) → OldK s₁.heap s'.heap → (∃ as, Rd [] s'.heap v d as) → Q v s') : wpAny (model prog w) callerA (call (.ref fa) [v]) Q E s₁ := by
  obtain ⟨a, o, fd, h1, h2, h3, h4⟩ := C
  have : a = fa := by
    have h1' : mg "law" = some (.ref a) := h1
    rw [hmg] at h1'; cases h1'; rfl
  subst this
  obtain ⟨as, r⟩ := well_rd hw
  refine wpAny_mono (h4 callerA [] [] s₁ [v] (as ++ []) E ⟨rfl, ?_, ?_, trivial, (fun b hb => nomatch hb), (fun _ _ e => (mask_some e).2), fun q hq => .inl (tu.empty q hq)⟩ rfl (fun b hb => nomatch hb) (.cons r .nil)) (fun v' s' q => ?_) fun _ _ q => q
  · show 1 + claimMargin + n ≤ 800
    have : claimMargin = 300 := rfl
    lia
  · show 4 + 16 * n ≤ 9000
    lia
  · obtain ⟨st, bs, q1, q2⟩ := q
    exact hQ v' s' st.same (old_kf st.kf tu) ⟨bs, q1⟩
end Mine
namespace Mine
open PySem PySem.W
theorem def_law {q p : Program} {n : Str} (h0 : (defOf q n).isSome = true) (h1 : (defOf q n).map (fun x => (x.1.params, x.1.body, x.1.scope)) = p.theDef n) (h2 : (defOf q n).bind (fun x => PySem.W.kwWritten? x.1.params.kwonlyargs x.1.params.kw_defaults) = (defOf q n).map (·.2)) :
    ∃ d kwd, defOf q n = some (d, kwd) ∧ p.theDef n = some (d.params, d.body, d.scope) ∧ kwWritten? d.params.kwonlyargs d.params.kw_defaults = some kwd := by
  obtain ⟨⟨d, kwd⟩, e⟩ := Option.isSome_iff_exists.mp h0
  rw [e] at h1 h2
  exact ⟨d, kwd, e, h1.symm, h2⟩
end Mine
end

section
set_option autoImplicit false
namespace Mine
open PySem PySem.W PyProof.Rows

def emptyAt (h : Heap) (P : Addr) : Bool := match h.get? P with
  | some ⟨.none, none, .fields vs, sl⟩ => vs.isEmpty && sl.isEmpty
  | _ => false
def codeAt (h : Heap) (P c : Addr) : Bool := match h.get? c with
  | some ⟨.type T, _, .fields vs, _⟩ => T == "code" && vs[11]? == some (.ref P)
  | _ => false
def tabObs (cs : List Addr) (h : Heap) : List Bool := (theTabs.zip cs).map fun q => emptyAt h q.1.1 && codeAt h q.1.1 q.2
theorem TabsUp.keeps {h h' : Heap} (t : TabsUp h) (k : ∀ b o, h.get? b = some o → h'.get? b = some o) : TabsUp h' :=
  ⟨fun q hq => k _ _ (t.empty q hq), fun q hq => let ⟨c, o, vs, a, b, d, e⟩ := t.code q hq; ⟨c, o, vs, k _ _ a, b, d, e⟩⟩
theorem TailN.mask {h : Heap} (t : TabsUp h) {tl : List Value} (T : TailN h tl) : TailN (Mine.mask h tabAt) tl := by
  induction T with
  | base => exact .base
  | own a b c _ ih => exact .own (t.out a (fun q => by have := congrArg Obj.data q; cases this)) (t.ns b) c ih
theorem Cls.mask {prog : Program} {w : World} {h : Heap} {mg : Str → Option Value} (t : TabsUp h) {x : Str} {C : Addr} {bm : List Value} (c : Cls ⟨prog, w, h, mg⟩ x C bm) : Cls ⟨prog, w, Mine.mask h tabAt, mg⟩ x C bm := by
  obtain ⟨hb, ⟨nm, q, N, bs, hdct, sn, sub, ab, col, dd, k0, k1, k2, k3, k5, m, hC, n1, n2, tl⟩⟩ := c
  exact ⟨hb, ⟨nm, q, N, bs, hdct, sn, sub, ab, col, dd, k0, k1, k2, k3, k5, m, t.out hC (fun q => by have := congrArg Obj.data q; cases this), t.ns n1, n2, tl.mask t⟩⟩
end Mine
end

section
set_option autoImplicit false
namespace Mine
open PySem PyProof.Rows

theorem entry_unchain : entryFor table "proto.unchain" = some Builtin.«proto.unchain» := entryFor_of_tree (by kernel_rfl)
section
variable {prog : Program} {w : World} {A : Around} {E : Value → Shared → Prop} {env : Env}
variable {nm q : Str} {C N : Addr} {bs bm : List Value} {hdct : Bool} {sn : List Str} {sub : List Value} {ab : Bool} {col : Option Bool} {dd : Option Addr} {k0 k1 k2 k3 k5 : Option Value} {newId : String}
theorem unchain_once {s : Shared} {v : Value} {ex : Addr} {ox : Obj} {xs : Array Value} {Q : Value → Shared → Prop} (h1 : s.heap.get? ex = some ox) (h2 : ox.data = .fields xs) (h3 : xs[2]? = some .none) (hq : Q .none s) :
    wpAny (model prog w) A (runValue (.builtin "proto.unchain" ⟨[v, .ref ex, .ref ex, .bool false], []⟩)) Q E s := by
  refine wpAny_runValue (codeAny_builtin entry_unchain ?_)
  unfold Builtin.«proto.unchain»
  refine wpAny_bind (wpAny_field h1 h2 h3 ?_)
  rw [if_pos (by decide)]
  exact wpAny_pure hq
theorem raiseNew_some {α : Type} {s : Shared} {e ex : Addr} {ox oe : Obj} {xs vs : Array Value} {Q : α → Shared → Prop} (hh : A.handled = some (.ref ex)) (hne : ex ≠ e) (h1 : s.heap.get? ex = some ox) (h2 : ox.data = .fields xs) (h3 : xs[2]? = some .none)
    (e1 : s.heap.get? e = some oe) (e2 : oe.data = .fields vs) (e3 : 2 < vs.size) (hq : E (.ref e) { s with heap := s.heap.update e (Obj.mapFields (·.setIfInBounds 2 (.ref ex))) }) : wpAny (model prog w) A (raiseNew (.ref e) : Sem α) Q E s := by
  unfold raiseNew
  refine wpAny_bind (wpAny_handled ?_)
  rw [hh]
  dsimp only
  have hn : ((Value.ref ex != Value.ref e) = true) := by
    rw [bne_iff_ne]; intro q; exact hne (Value.ref.inj q)
  rw [if_pos hn]
  refine wpAny_bind (wpAny_holding (unchain_once h1 h2 h3 (wpAny_bind (?_ : wpAny _ A (setField (.ref e) 2 (.ref ex)) _ _ _))))
  exact wpAny_setField e1 e2 e3 (wpAny_throw hq)
structure Chn (h h' : Heap) (e C ex : Addr) : Prop where
  keeps : ∀ b o, h.get? b = some o → h'.get? b = some o
  new : h.get? e = none
  there : ∃ vs, h'.get? e = some { cls := .ref C, data := .fields vs } ∧ vs[1]? = some .none
theorem raise_none {s : Shared} {x : Sem Value} {kk : Nat} {cp pos : Pos} {ex : Addr} {Q : Flow → Shared → Prop} (hbase : bm.contains (.type "BaseException") = true) (hh : A.handled = some (.ref ex))
    (h : wpAny (model prog w) A x (fun v s₁ => ∃ e h₀ args, v = .ref e ∧ s₁.heap.get? C = some (excClassObj nm q C N bs bm hdct sn sub ab col dd k0 k1 k2 k3 k5 newId) ∧ Heap.MadeExcOf h₀ s₁.heap e (.ref C) args ∧
      (∃ ox xs, h₀.get? ex = some ox ∧ ox.data = .fields xs ∧ xs[2]? = some .none) ∧ ∀ h', Chn h₀ h' e C ex → E (.ref e) { s₁ with heap := h' }) E s) :
    wpAny (model prog w) A (raiseStmt env (some x) (some (do let v ← eval (.Constant .none kk cp) env; standAt pos; pure v))) Q E s := by
  have hcB : (Value.ref C :: bm).contains (.type "BaseException") = true := by rw [List.contains_cons, hbase, Bool.or_true]
  unfold raiseStmt
  refine wpAny_bind (wpAny_mono h (fun v s₁ h₁ => ?_) fun _ _ x => x)
  obtain ⟨e, h₀, args, rfl, hC, m, ⟨ox, xs, x1, x2, x3⟩, hE⟩ := h₁
  obtain ⟨t, he, ht, _⟩ := m.there
  have hne : ex ≠ e := fun q => by rw [q, m.new] at x1; cases x1
  have hCe : e ≠ C := fun q => by rw [q, hC] at he; cases he
  refine wpAny_bind (wpAny_holding (wpAny_bind (wpAny_Constant_none (wpAny_bind (wpAny_standAt (wpAny_pure (wpAny_bind (wpAny_pure ?_))))))))
  obtain ⟨hp, g, d, tk, os⟩ := s₁
  repeat (first | with_reducible refine wpAny_loadPart_at he ?_ | with_reducible refine wpAny_loadPart_at hC ?_ | (with_reducible refine wpAny_isSubtype_exc hC ?_; rw [hcB]) | wp_step)
  have u1 := Heap.get?_update_self (Obj.mapFields (·.setIfInBounds 3 Value.none)) he rfl
  have u2 := Heap.get?_update_self (Obj.mapFields (·.setIfInBounds 4 (Value.bool true))) u1 rfl
  have u3 := Heap.get?_update_self (Obj.mapFields (·.setIfInBounds 2 (Value.ref ex))) u2 rfl
  have ot : ∀ b o, h₀.get? b = some o → e ≠ b := fun b o hb q => by rw [← q, m.new] at hb; cases hb
  refine raiseNew_some (oe := _) (vs := _) hh hne ((Heap.get?_update_other _ _ (Ne.symm hne)).trans ((Heap.get?_update_other _ _ (Ne.symm hne)).trans (m.keeps _ _ x1))) x2 x3 u2 rfl (show 2 < 6 by decide) (hE _ ⟨fun b o hb => ?_, m.new, _, u3, rfl⟩)
  exact (Heap.get?_update_other _ _ (ot b o hb)).trans ((Heap.get?_update_other _ _ (ot b o hb)).trans ((Heap.get?_update_other _ _ (ot b o hb)).trans (m.keeps b o hb)))
theorem raise_call_none {s : Shared} {mN : Str → Option Value} {x : Str} {np cpos pos cp : Pos} {kk : Nat} {ex : Addr} {args : List Expr} {Q : Flow → Shared → Prop}
    (hbase : bm.contains (.type "BaseException") = true) (hh : A.handled = some (.ref ex)) (hplain : (backTo cpos (starEach args env)).any (·.1) = false) (hni : mN "__init__" = none)
    (h : wpAny (model prog w) A (eval (.Name x np) env) (fun f s₁ => f = .ref C ∧ wpAny (model prog w) A (evalArgs (.ref C) true (backTo cpos (starEach args env)) [])
      (fun a s₂ => a.kw = [] ∧ a.pos.length ≤ sizeLine ∧ s₂.heap.get? C = some (excClassObj nm q C N bs bm hdct sn sub ab col dd k0 k1 k2 k3 k5 "ValueError.__new__") ∧ s₂.heap.Ns N mN ∧ OwnTail s₂.heap vmro bm ∧
        (∃ ox xs, s₂.heap.get? ex = some ox ∧ ox.data = .fields xs ∧ xs[2]? = some .none) ∧ ∀ h' e, Chn s₂.heap h' e C ex → E (.ref e) { s₂ with heap := h' }) E s₁) E s) :
    wpAny (model prog w) A (exec (.Raise (some (.Call (.Name x np) args [] cpos)) (some (.Constant .none kk cp)) pos) env) Q E s := by
  rw [arm_exec_Raise]
  refine wpAny_bind (wpAny_standAt ?_)
  refine raise_none (C := C) (nm := nm) (q := q) (N := N) (bs := bs) (bm := bm) (hdct := hdct) (sn := sn) (sub := sub) (ab := ab) (col := col) (dd := dd) (k0 := k0) (k1 := k1) (k2 := k2) (k3 := k3) (k5 := k5) (newId := "ValueError.__new__") hbase hh ?_
  refine wpAny_bind (wpAny_mono (wpAny_Call_ofName (wpAny_mono h (fun f s₁ h₁ => ?_) fun _ _ x => x)) (fun v s₃ h₃ => wpAny_bind (wpAny_standAt (wpAny_pure h₃))) fun _ _ x => x)
  obtain ⟨rfl, h₁⟩ := h₁
  unfold callWith
  refine wpAny_bind (wpAny_holding (wpAny_mono h₁ (fun a s₂ h₂ => wpAny_bind (wpAny_standAt ?_)) fun _ _ x => x))
  obtain ⟨apos, akw⟩ := a
  obtain ⟨hkw, hlen, hC, hn, T, hx, h₂⟩ := h₂
  obtain rfl : akw = [] := hkw
  obtain ⟨hp, g, d, tk, os⟩ := s₂
  simp only [hplain]
  refine wpAny_bind (wpAny_keeperOf_exc hC ?_)
  refine wpAny_bind (wpAny_call_exc_subT (hrest := hlen) PySem.F.excBase_ValueError T hC hn hni fun h' e hm => wpAny_bind (wpAny_holding (wpAny_point (wpAny_pure ?_))))
  exact ⟨e, hp, apos, rfl, hm.keeps _ _ hC, hm, hx, fun h'' c => h₂ h'' e c⟩
end

section
variable {K : Fm} {rho : List (Str × Option D)} {g g1 : Sg} {e e2 : Expr} {x y : Str} {np yp p1 cp cpos pos rpos hpos : Pos} {rest suite : List Stmt} {b₀ : Stmt} {C CX Cy : Addr} {bm bmX bmy : List Value} {d : D} {f : Bool} {P : Out → Prop} {kk : Nat}
theorem handle_bare {ex : Addr} {W : List Addr} {s : Shared} {Q : Flow → Shared → Prop} {E : Value → Shared → Prop} {o : Obj} {hs : List ExceptHandler} (R : Rel K rho W s) (hx : GN K x) (hxd : gnameOk x = true) (cx : Cls K.G x CX bmX) (c : ClsObj K.G.base C bm) (hb : (Value.ref C :: bm).contains (.ref CX) = true)
    (he : s.heap.get? ex = some o) (hc : o.cls = .ref C)
    (hk : wpAny K.M (K.mark ex).A (setFlight (.ref ex) none) (fun _ s₂ => wpAny K.M (K.mark ex).A (execs (b₀ :: suite) K.env) Q (notedBy K.M (K.mark ex).A K.env (cameBackBy K.M K.A K.env E)) s₂) (notedBy K.M (K.mark ex).A K.env (cameBackBy K.M K.A K.env E)) s) :
    wpAny K.M K.A (handleBy (.ref ex) K.env (.ExceptHandler (some (.Name x np)) none (b₀ :: suite) hpos :: hs)) Q E s := by
  refine wpAny_handleBy_cons (codeAny_handlers_test (load_own (K := K.mark ex) (R.mark ex) hx hxd cx.bound ?_)) (by intro q; cases q)
  obtain ⟨_, _, _, _, _, _, _, _, _, _, _, _, _, _, _, _, h1, _, _, _⟩ := c.keeps R.stays
  obtain ⟨_, _, _, _, _, _, _, _, _, _, _, _, _, _, _, _, g1, _, _, g4⟩ := cx.obj.keeps R.stays
  obtain ⟨h, gg, d, t, os⟩ := s
  exact exc_match h1 g1 g4 he hc hb (codeAny_handlers_suite hk)
theorem rx_try_raise (tk : TopK K) (h : EVf K (fullOf g) e C) (hcomp : noComp e = true) (hx : GN K x) (hxd : gnameOk x = true) (cx : Cls K.G x CX bmX) (c : ClsObj K.G.base C bm) (hb : (Value.ref C :: bm).contains (.ref CX) = true) (hC : C ≠ chained)
    (hy : GN K y) (hyd : gnameOk y = true) (cy : Cls K.G y Cy bmy) (hCy : Cy = chained) (hn : noStar e2 = true)
    (kk2 : ∀ K' : Fm, K'.G = K.G → K'.sc = K.sc → K'.own = K.own → K'.room = K.room → EV K' (fullOf g) e2 d f) :
    RX K g (.Try [.Expr e p1] [.ExceptHandler (some (.Name x np)) none [.Raise (some (.Call (.Name y yp) [e2] [] cpos)) (some (.Constant .none kk cp)) rpos] hpos] [] [] pos :: rest) Cy := fun W0 W1 s r Q E hE => by
  refine wpAny_execs_cons (wpAny_Try_except (wpAny_execs_cons (wpAny_Expr_any (h W0 s r.full _ _ fun ex s1 fl => ?_) (not_interactive r.rel.ok) (swaps_no hcomp))))
  obtain ⟨outer, eV⟩ := tk.outer
  have frames : K.A.frames = some (K.env :: outer) := by rw [← eV]; exact r.rel.ok.frames
  obtain ⟨base, a0, fly, cov⟩ := id fl.fly
  rw [eV] at fly
  refine fly_note frames tk.frame fly fun h2 T held up2 => fly_land (s := { s1 with heap := h2 }) held id fun h3 fl3 up3 => ?_
  rw [← eV] at fl3
  have F3 := fl.onward (up2.trans up3) fl3 cov
  have r3 := r.step (F3.step r.rel.fdict)
  obtain ⟨he, hcls, hdat, _⟩ := fl3.exc
  refine handle_bare r3.full hx hxd cx c hb he hcls ?_
  refine fly_land (s := { s1 with heap := h3 }) fl3 id fun h4 fl4 up4 => ?_
  have F4 := F3.onward up4 fl4 cov
  have r4 := (r.step (F4.step r.rel.fdict)).mark ex
  have R := r4.full
  obtain ⟨he4, hcls4, hdat4, _, _, h24⟩ := fl4.exc
  obtain ⟨nm, q, N, bs, hdct, sn, sub, ab, col, dd, k0, k1, k2, k3, k5, mN, y1, y2, y3, y4⟩ := cy.obj
  have hbase := has_bexc y4
  refine wpAny_execs_cons (raise_call_none (nm := nm) (q := q) (C := Cy) (N := N) (bs := bs) (bm := bmy) (hdct := hdct) (sn := sn) (sub := sub) (ab := ab) (col := col) (dd := dd) (k0 := k0) (k1 := k1) (k2 := k2) (k3 := k3) (k5 := k5) hbase (ex := ex) rfl (by rw [starEach_cons hn]; rfl) (y3 _ (.head _)) (load_own (K := K.mark ex) R hy hyd cy.bound ⟨rfl, ?_⟩))
  have tr : backTo cpos (starEach [e2] K.env) = [(false, eval e2 K.env)] := by rw [starEach_cons hn]; rfl
  have h' := evs_cons (kk2 (K.mark ex) rfl rfl rfl rfl) evs_nil hn W0 _ cpos R (notedBy K.M (K.mark ex).A K.env (cameBackBy K.M K.A K.env E))
  have tr' : backTo cpos (starEach [e2] (K.mark ex).env) = [(false, eval e2 K.env)] := tr
  rw [tr'] at h'
  rw [tr]
  refine Calls.evalArgs_plain (wpAny_mono h' (fun vs s5 ga => ?_) fun _ _ q => q)
  have R5 := R.step ga.st
  have st5 := ga.st
  refine ⟨rfl, by rw [show vs.length = 1 from ga.len]; decide, R5.stays _ _ y1, y2.keeps R5.stays, y4.tail.keeps R5.stays, ⟨_, _, st5.kf.solid (solid_fields hdat4 hcls4 (fun z => by cases z) fun z => by cases z) he4, hdat4, h24 hC⟩, fun h6 e6 ch => ?_⟩
  have R5' : Rel K _ _ s5 := (r.step ((F4.step r.rel.fdict).trans st5)).full
  obtain ⟨ws, c1, c2⟩ := ch.there
  have F6 : Flies K.envs s5 { s5 with heap := h6 } e6 Cy := new_flies R5'.fct ch.keeps ch.new c1 rfl rfl c2 fun z => absurd hCy z
  obtain ⟨base6, a6, fly6, cov6⟩ := id F6.fly
  rw [eV] at fly6
  refine fly_note (s := { s5 with heap := h6 }) frames tk.frame fly6 fun h7 T7 fl7 up7 => ?_
  refine wpAny_bind ?_
  obtain ⟨q1, q2, q3, q4, q5, q6⟩ := fl7.exc
  refine wpAny_field (s := { s5 with heap := h7 }) q1 q3 q4 ?_
  rw [if_neg (by simp)]
  refine fly_back (s := { s5 with heap := h7 }) fl7 fun h8 fl8 up8 => ?_
  rw [← eV] at fl8
  exact hE e6 _ (.fly s5 R5'.fct (F6.onward (up7.trans up8) fl8 cov6))
theorem sx_try_pass {h₀ : ExceptHandler} {hs : List ExceptHandler} (h : EV K (fullOf g) e d f) (hcomp : noComp e = true) (k : SX K g rest P) : SX K g (.Try [.Expr e p1] (h₀ :: hs) [] [] pos :: rest) P := fun W0 W1 s r E =>
  wpAny_execs_cons (wpAny_Try_except (wpAny_execs_cons (wpAny_Expr_any (wpAny_mono (h W0 s r.full _) (fun v s' q => wpAny_execs_nil (wpAny_execs_nil (wpAny_mono (k W0 W1 s' (r.step q.st) E) (fun _ _ z => z.after (.of_step q.st)) fun _ _ z => z))) fun _ _ q => q) (not_interactive r.rel.ok) (swaps_no hcomp))))
theorem rx_try_pass {h₀ : ExceptHandler} {hs : List ExceptHandler} (h : EV K (fullOf g) e d f) (hcomp : noComp e = true) (k : RX K g rest C) : RX K g (.Try [.Expr e p1] (h₀ :: hs) [] [] pos :: rest) C := fun W0 W1 s r Q E hE =>
  wpAny_execs_cons (wpAny_Try_except (wpAny_execs_cons (wpAny_Expr_any (wpAny_mono (h W0 s r.full _) (fun v s' q => wpAny_execs_nil (wpAny_execs_nil (k W0 W1 s' (r.step q.st) Q E hE))) fun _ _ q => q) (not_interactive r.rel.ok) (swaps_no hcomp))))
end
end Mine
end

section
set_option autoImplicit false
namespace Mine
open PySem PySem.MeetsSeq PyProof.Rows

section
variable {K : Fm} {rho : List (Str × Option D)} {l r : Expr} {pos : Pos} {f g : Bool} {d : D}
end
section
variable {K : Fm} {g g' : Sg} {x : Str} {px pos apos cpos : Pos} {rest : List Stmt} {P : Out → Prop} {ds : List D}
end
theorem V.repd {K : Fm} {rho : List (Str × Option D)} {l r : Expr} {pos : Pos} {f g : Bool} {d : D} {x : Int} (h1 : XE K rho l (.list [d]) f) (h2 : XE K rho r (.int x) g) (fl : Side (Flat d)) (hx : Side (0 ≤ x ∧ x < 1000)) : XE K rho (.BinOp l .Mult r pos) (.list (List.replicate x.toNat d)) true := ⟨ev_repl h1.out h2.out fl.out hx.out.1 hx.out.2⟩
theorem V.cinn {K : Fm} {ds : List D} (hc : Side (clean (.list ds) = true)) : XC K .In .none (.list ds) (ds.any fun y => PyData.eqv y .none) := ⟨cmp_in_list (by show (0 : Nat) ≤ 60; decide) rfl hc.out⟩
end Mine
end

section
set_option autoImplicit false
namespace Mine
open PySem PyProof.Rows

open Classical in
noncomputable def maxL (L : List Int) : Int := if h : ∃ M, M ∈ L ∧ ∀ a ∈ L, a ≤ M then Classical.choose h else 0
theorem maxL_is {L : List Int} {M : Int} (hM : M ∈ L) (hle : ∀ a ∈ L, a ≤ M) : maxL L = M := by
  have h : ∃ M, M ∈ L ∧ ∀ a ∈ L, a ≤ M := ⟨M, hM, hle⟩
  unfold maxL
  rw [dif_pos h]
  have := Classical.choose_spec h
  exact Int.le_antisymm (hle _ this.1) (this.2 _ hM)
theorem maxL_top : ∀ {L : List Int}, L ≠ [] → maxL L ∈ L ∧ ∀ a ∈ L, a ≤ maxL L := fun {L} hne => by
  have key : ∀ L : List Int, L ≠ [] → ∃ M, M ∈ L ∧ ∀ a ∈ L, a ≤ M := by
    intro L
    induction L with
    | nil => intro h; exact absurd rfl h
    | cons x t ih =>
      intro _
      by_cases ht : t = []
      · subst ht; exact ⟨x, .head _, fun a ha => by rw [List.mem_singleton.mp ha]; exact Int.le_refl _⟩
      · obtain ⟨M, h1, h2⟩ := ih ht
        by_cases q : x ≤ M
        · exact ⟨M, .tail _ h1, fun a ha => by rcases List.mem_cons.mp ha with rfl | h; exact q; exact h2 a h⟩
        · exact ⟨x, .head _, fun a ha => by
            rcases List.mem_cons.mp ha with rfl | h
            · exact Int.le_refl _
            · have := h2 a h; lia⟩
  obtain ⟨M, h1, h2⟩ := key L hne
  rw [maxL_is h1 h2]
  exact ⟨h1, h2⟩
theorem rd_ints {W : List Addr} {h : Heap} : ∀ {L : List Int} {vs : List Value} {as : List Addr}, RdAll W h vs (L.map .int) as → ∃ xs : List (Int × Tok), vs = xs.map (fun p => .int p.1 p.2) ∧ xs.map (·.1) = L
  | [], vs, as, r => by
    cases r; exact ⟨[], rfl, rfl⟩
  | x :: L, vs, as, r => by
    cases r with
    | cons a b =>
      obtain ⟨t, rfl, _⟩ := a.int_inv
      obtain ⟨xs, rfl, e⟩ := rd_ints b
      exact ⟨(x, t) :: xs, rfl, by rw [List.map_cons, e]⟩
section
variable {K : Fm} {rho : List (Str × Option D)} {e : Expr} {np pos : Pos} {f : Bool} {L : List Int}
theorem bc_max (hh : K.A.handled = none) (hne : 0 < L.length) : BC K (.builtin "max") [.list (L.map .int)] (.int (maxL L)) true := fun W s vs as E kk _ hW r => by
  obtain ⟨v, rfl, r1⟩ := rd1 r
  obtain ⟨l, ws, n, bs, rfl, _, ho, hr, hlW⟩ := r1.list_inv
  obtain ⟨xs, e1, e2⟩ := rd_ints hr
  have hit : ws.toArray = intItems xs.toArray := by rw [e1]; simp [intItems]
  have hlen : xs.length = L.length := by rw [← e2, List.length_map]
  have num : ∀ i, PySem.numAt xs.toArray i = L.getD i 0 := fun i => by
    rw [← e2]
    simp [PySem.numAt, List.getD]
  have hl : s.heap.IsList l (intItems xs.toArray) := hit ▸ isList_of ho
  refine max_intList hh hl (by simpa [hlen] using hne) fun v h' tk hv hk => ?_
  obtain ⟨t, rfl⟩ := intItems_at hv
  have hb := argBest_gt (PySem.numAt xs.toArray) (xs.toArray.size - 1)
  generalize argBest (fun i j => decide (PySem.numAt xs.toArray i > PySem.numAt xs.toArray j)) (xs.toArray.size - 1) = i at *
  have hsz : xs.toArray.size = L.length := by simpa using hlen
  rw [hsz] at hb
  have hi : i < L.length := by have := hb.1; lia
  have e3 : PySem.numAt xs.toArray i = maxL L := by
    rw [num]
    have em : L.getD i 0 ∈ L := by
      have : L.getD i 0 = L[i] := by simp [List.getD, hi]
      rw [this]; exact List.getElem_mem hi
    refine (maxL_is em fun a ha => ?_).symm
    obtain ⟨j, hj, rfl⟩ := List.getElem_of_mem ha
    have := hb.2 j (by lia)
    rw [num, num] at this
    have e4 : L.getD j 0 = L[j] := by simp [List.getD, hj]
    rw [e4] at this
    exact this
  rw [e3]
  exact .intro_int ⟨⟨_, _, rfl⟩, fun b o e => .inl (hk b o e)⟩ _
theorem ev_max (hx : GN K "max") (hh : K.A.handled = none) (h : EV K rho e (.list (L.map .int)) f) (hne : 0 < L.length) (n1 : noStar e = true) : EV K rho (.Call (.Name "max" np) [e] [] pos) (.int (maxL L)) true :=
  ev_bcall hx (by decide +kernel) PyProof.Rows.Boot.«max» rfl (evs_cons h evs_nil n1) (by simp [n1]) (bc_max hh hne)
theorem V.maxl (hx : XG K "max") (h : XE K rho e (.list (L.map .int)) f) (hh : XH K) (hne : Side (0 < L.length)) (n1 : Look (noStar e)) : XE K rho (.Call (.Name "max" np) [e] [] pos) (.int (maxL L)) true := ⟨ev_max hx.out hh.out h.out hne.out n1.out⟩
end
end Mine
end

section
set_option autoImplicit false
namespace Mine
open PySem PySem.MeetsSeq PyProof.Rows

def sOk (x : Str) : Prop := PyData.canLay0 (.str x) = true
theorem sok_iff {x : Str} : sOk x ↔ ∀ c ∈ x.cps.toList, c < 0x110000 := by
  show (x.cps.all (· < 0x110000)) = true ↔ _
  rw [Array.all_eq_true_iff_forall_mem]
  constructor
  · intro h c hc; simpa using h c (Array.mem_toList_iff.mp hc)
  · intro h c hc; simpa using h c (Array.mem_toList_iff.mpr hc)
theorem sok_sub {x y : Str} (h : sOk x) (hs : ∀ c ∈ y.cps.toList, c ∈ x.cps.toList) : sOk y := sok_iff.mpr fun c hc => sok_iff.mp h c (hs c hc)
theorem sok_append {x y : Str} (h : sOk x) (k : sOk y) : sOk (x ++ y) := sok_iff.mpr fun c hc => by
  have e : (x ++ y).cps.toList = x.cps.toList ++ y.cps.toList := by show (x.cps ++ y.cps).toList = _; simp
  rw [e] at hc
  exact (List.mem_append.mp hc).elim (sok_iff.mp h c) (sok_iff.mp k c)
def sL (l : List Nat) : Str := ⟨l.toArray⟩
theorem sL_list (l : List Nat) : (sL l).cps.toList = l := by simp [sL]
theorem sL_len (l : List Nat) : (sL l).length = l.length := by simp [sL, Str.length]
theorem sL_of (x : Str) : sL x.cps.toList = x := by cases x; simp [sL]
theorem Made.toStr {m : Made} {y : Str} {Q : Value → Shared → Prop} {s : Shared} (h : m = .str y ∨ ∃ t, m = .val (.str y t)) (hl : y.length ≤ sizeLine) (q : ∀ t k, Q (.str y t) { s with toks := k }) : m.post Q s := by
  rcases h with rfl | ⟨t, rfl⟩
  · exact ⟨hl, q _ _⟩
  · exact q t s.toks
section
variable {K : Fm} {rho : List (Str × Option D)} {e l r o i : Expr} {x y : Str} {f g : Bool} {pos p np apos cpos : Pos} {lower upper : Option Expr} {lo hi : Option Int}
theorem Got.str {W : List Addr} {s s' : Shared} {x : Str} {t : Tok} (st : Step K.fr s s') (h : sOk x) (fr : Bool) : Got K W s (.str x) fr (.str x t) s' := .flat st (.str x t h) fr
theorem ev_add_str (h1 : EV K rho l (.str x) f) (h2 : EV K rho r (.str y) g) (hl : x.length + y.length ≤ 100000) : EV K rho (.BinOp l .Add r pos) (.str (x ++ y)) true :=
  ev_bin h1 h2 fun W s s2 v1 v2 E R R2 g1 g2 => by
    obtain ⟨_, _, q1, _⟩ := g1
    obtain ⟨st, _, q2, _⟩ := g2
    obtain ⟨t, rfl, _, k1⟩ := q1.str_inv
    obtain ⟨u, rfl, _, k2⟩ := q2.str_inv
    refine PySem.P.add_str (Made.toStr ?_ (by rw [Str.length_append, sizeLine_eq]; lia) fun t k => Got.str (st.toks _) (sok_append k1 k2) _)
    split
    · rename_i h
      have : x.cps = #[] := Array.eq_empty_of_size_eq_zero (by simpa [Str.length] using h)
      exact .inr ⟨u, by congr 2; show y = ⟨x.cps ++ y.cps⟩; rw [this]; simp⟩
    · split
      · rename_i h
        have : y.cps = #[] := Array.eq_empty_of_size_eq_zero (by simpa [Str.length] using h)
        exact .inr ⟨t, by congr 2; show x = ⟨x.cps ++ y.cps⟩; rw [this]; simp⟩
      · exact .inl rfl
theorem ev_len_str (hx : GN K "len") (h : EV K rho e (.str x) f) (hl : x.length ≤ sizeLine) (n1 : noStar e = true) : EV K rho (.Call (.Name "len" np) [e] [] pos) (.int x.length) true :=
  ev_bcall hx (by decide +kernel) PyProof.Rows.Boot.«len» rfl (evs_cons h evs_nil n1) (by simp [n1]) (bc_len_str hl)
theorem ofString_ok (t : String) : sOk (Str.ofString t) := sok_iff.mpr fun c hc => by
  rw [Str.ofString_eq_toList] at hc
  simp at hc
  obtain ⟨ch, _, rfl⟩ := hc
  have := ch.valid
  show ch.val.toNat < _
  rcases this with h | h
  · exact Nat.lt_trans h (by decide)
  · exact h.2
theorem bc_str_int {a : Int} (ha : a.natAbs.log2 < 1920) : BC K (.type "str") [.int a] (.str (Str.ofString (toString a))) true := fun W s vs as E k _ hW r => by
  obtain ⟨v, rfl, r1⟩ := rd1 r
  obtain ⟨t, rfl, _⟩ := r1.int_inv
  exact PySem.P.str_of_int ha (Got.str ((Step.refl _ s).toks _) (ofString_ok _) _)
theorem ev_str_int (hx : GN K "str") {a : Int} (h : EV K rho e (.int a) f) (ha : a.natAbs.log2 < 1920) (n1 : noStar e = true) : EV K rho (.Call (.Name "str" np) [e] [] pos) (.str (Str.ofString (toString a))) true :=
  ev_bcall hx (by decide +kernel) PyProof.Rows.Boot.«str» rfl (evs_cons h evs_nil n1) (by simp [n1]) (bc_str_int ha)
theorem bc_int_str {n : Int} (hn : PySem.intText? x = some n) (hl : x.length ≤ 640) : BC K (.type "int") [.str x] (.int n) true := fun W s vs as E k _ hW r => by
  obtain ⟨v, rfl, r1⟩ := rd1 r
  obtain ⟨t, rfl, _, _⟩ := r1.str_inv
  exact PySem.W.KIN.call_text hn hl (Got.flat ((Step.refl _ s).toks _) (.int _ _) _)
theorem ev_int_str (hx : GN K "int") {n : Int} (h : EV K rho e (.str x) f) (hn : PySem.intText? x = some n) (hl : x.length ≤ 640) (n1 : noStar e = true) : EV K rho (.Call (.Name "int" np) [e] [] pos) (.int n) true :=
  ev_bcall hx (by decide +kernel) PyProof.Rows.Boot.«int» rfl (evs_cons h evs_nil n1) (by simp [n1]) (bc_int_str hn hl)
theorem str_indices (lo hi : Option Int) (n : Nat) : Builtin.Str.strSliceIndices lo hi 1 n = (List.range (clipAt hi n n - clipAt lo 0 n)).map (fun k => clipAt lo 0 n + k) := by
  have h1 : (1 : Int) > 0 := by decide
  unfold Builtin.Str.strSliceIndices
  simp only [h1, if_true]
  refine Eq.trans ?_ (sliceRange_one _ _)
  congr 1
  · exact clip_bound lo 0 n
  · exact clip_bound hi n n
theorem str_slice {l u : Option (Int × Tok)} {t : Tok} : ∃ y : Str, y.cps.toList = slc (l.map (·.1)) (u.map (·.1)) x.cps.toList ∧ (sliceMade x t l u none = .str y ∨ ∃ t', sliceMade x t l u none = .val (.str y t')) := by
  have hn : x.cps.toList.length = x.length := by simp [Str.length]
  have e : ((slicePicked x l u none).filterMap (x.cps[·]?)) = slc (l.map (·.1)) (u.map (·.1)) x.cps.toList := by
    unfold slicePicked
    show (Builtin.Str.strSliceIndices _ _ 1 x.length).filterMap _ = _
    rw [str_indices]
    have := pick_run x.cps (clipAt (l.map (·.1)) 0 x.length) (clipAt (u.map (·.1)) x.length x.length - clipAt (l.map (·.1)) 0 x.length)
    rw [this]
    unfold slc
    rw [hn]
  refine ⟨sL (slc (l.map (·.1)) (u.map (·.1)) x.cps.toList), sL_list _, ?_⟩
  unfold sliceMade
  split
  · rename_i hc
    right
    simp only [Bool.and_eq_true, beq_iff_eq] at hc
    have hlen : (slc (l.map (·.1)) (u.map (·.1)) x.cps.toList).length = x.cps.toList.length := by
      rw [← e, hn, ← hc.2]
      have : ∀ k ∈ slicePicked x l u none, k < x.cps.size := fun k hk => by
        unfold slicePicked at hk
        have hk : k ∈ Builtin.Str.strSliceIndices (l.map (·.1)) (u.map (·.1)) 1 x.length := hk
        rw [str_indices] at hk
        obtain ⟨j, hj, rfl⟩ := List.mem_map.mp hk
        have hj := List.mem_range.mp hj
        have : clipAt (u.map (·.1)) x.length x.length ≤ x.length := by
          unfold clipAt
          split
          · exact Nat.le_refl _
          · split <;> lia
        have : x.cps.size = x.length := rfl
        lia
      clear hc e
      generalize slicePicked x l u none = L at *
      induction L with
      | nil => rfl
      | cons a L ih =>
        have ha := this a (.head _)
        rw [List.filterMap_cons]
        simp only [Array.getElem?_eq_getElem ha]
        rw [List.length_cons, List.length_cons, ih fun k hk => this k (.tail _ hk)]
    have : slc (l.map (·.1)) (u.map (·.1)) x.cps.toList = x.cps.toList := by
      unfold slc at hlen ⊢
      rw [List.length_take, List.length_drop] at hlen
      have h0 : clipAt (l.map (·.1)) 0 x.cps.toList.length = 0 ∨ x.cps.toList.length = 0 := by lia
      rcases h0 with h0 | h0
      · rw [h0, Nat.sub_zero, List.drop_zero, List.take_of_length_le (by lia)]
      · have : x.cps.toList = [] := List.length_eq_zero_iff.mp h0
        rw [this]; simp
    exact ⟨t, by rw [this, sL_of]⟩
  · left
    rw [e]; rfl
theorem part_val {v : Value} {k : Option Int} (h : IsPart v k) : ∃ p : Option (Int × Tok), v = partValue p ∧ p.map (·.1) = k := by
  cases h with
  | none => exact ⟨none, rfl, rfl⟩
  | int i t => exact ⟨some (i, t), rfl, rfl⟩
theorem ev_slice_str (h : EV K rho e (.str x) f) (h1 : EVP K rho lower lo) (h2 : EVP K rho upper hi) (hl : x.length ≤ sizeLine) (ht : ∀ o r, letTemporaryGo e o r = pure ()) :
    EV K rho (.Subscript e (.Slice lower upper none p) pos) (.str (sL (slc lo hi x.cps.toList))) true := fun W s R E => by
  refine wpAny_Subscript_str_slice (h.bind R fun v s1 R1 g1 => wpAny_mono (h1 W s1 R1 E) (fun vl s2 q2 => wpAny_mono (h2 W s2 (R1.step q2.1) E) (fun vu s3 q3 => ?_) fun _ _ q => q) fun _ _ q => q) ht
  obtain ⟨st2, pl⟩ := q2
  obtain ⟨st3, pu⟩ := q3
  obtain ⟨st1, as, rd, _⟩ := g1
  obtain ⟨t, rfl, _, ok⟩ := rd.str_inv
  obtain ⟨pl', rfl, rfl⟩ := part_val pl
  obtain ⟨pu', rfl, rfl⟩ := part_val pu
  obtain ⟨z, ez, hz⟩ := str_slice (x := x) (l := pl') (u := pu') (t := t)
  have sp := step_push (fr := K.fr) s3 { cls := .type "slice", data := .fields #[partValue pl', partValue pu', .none] }
  have ezz : sL (slc (pl'.map (·.1)) (pu'.map (·.1)) x.cps.toList) = z := by rw [← ez]; exact sL_of z
  rw [ezz]
  refine ⟨x, t, pl', pu', rfl, rfl, rfl, Made.toStr hz ?_ fun t k => Got.str (((((st1.trans st2).trans st3).trans sp)).toks _) (sok_sub ok fun c hc => ?_) _⟩
  · have := slc_len (pl'.map (·.1)) (pu'.map (·.1)) x.cps.toList
    rw [← ez] at this
    simp only [Array.length_toList] at this
    exact Nat.le_trans this hl
  · rw [ez] at hc
    exact List.mem_of_mem_drop (List.mem_of_mem_take hc)
theorem ev_item_str {k : Int} {c : Nat} (h : EV K rho e (.str x) f) (h2 : EV K rho i (.int k) g) (hk : 0 ≤ k ∧ k < 1000000000) (hc : x.cps.toList[k.toNat]? = some c) (hn : noSlice i = true) (ht : ∀ o r, letTemporaryGo e o r = pure ()) :
    EV K rho (.Subscript e i pos) (.str (sL [c])) true := fun W s R E => by
  have hlt : k.toNat < x.cps.toList.length := (List.getElem?_eq_some_iff.mp hc).1
  rw [Array.length_toList] at hlt
  refine Subscript_ (h.bind R fun v s1 R1 g1 => h2.bind R1 fun w s2 R2 g2 => ?_)
  obtain ⟨st1, as, rd, _⟩ := g1
  obtain ⟨st2, _, r2, _⟩ := g2
  obtain ⟨t, rfl, _, ok⟩ := rd.str_inv
  obtain ⟨u, rfl, _⟩ := r2.int_inv
  refine tail_any (typeIs_str _ x t) F.slot_str_getitem.lookup (PySem.P.getItem_str (c := c) ?_ ?_ ?_) (subscripted_plain hn)
  · simp; lia
  · have : PySem.seqIndex? k x.length = some k.toNat := by
      unfold PySem.seqIndex?
      have : x.length = x.cps.size := rfl
      simp; lia
    rw [this]
    simpa using hc
  · refine Got.str ((st1.trans st2).toks _) (sok_sub ok fun d hd => ?_) _
    rw [sL_list, List.mem_singleton] at hd
    rw [hd]; exact List.mem_of_getElem? hc
end
end Mine
end

section
set_option autoImplicit false
namespace Mine
open PySem PySem.MeetsSeq PyProof.Rows PySem.Builtin.Str

theorem rd_strsFrom {W : List Addr} {h : Heap} : ∀ (ps : List Str) (t : Tok), (∀ p ∈ ps, sOk p) → RdAll W h (strsFrom t ps) (ps.map .str) []
  | [], _, _ => .nil
  | p :: ps, t, hk => .cons (as := []) (bs := []) (.str p t (hk p (.head _))) (rd_strsFrom ps (t + 1) fun q hq => hk q (.tail _ hq))
theorem rd_strs {W : List Addr} {h : Heap} : ∀ {ts : List Str} {vs : List Value} {as : List Addr}, RdAll W h vs (ts.map .str) as → ∃ l : List (Str × Tok), vs = strValues l ∧ l.map (·.1) = ts ∧ ∀ t ∈ ts, sOk t
  | [], vs, as, r => by cases r; exact ⟨[], rfl, rfl, fun t ht => nomatch ht⟩
  | t :: ts, vs, as, r => by
    cases r with
    | @cons v vs' d ds as bs a b =>
      obtain ⟨tk, rfl, _, ok⟩ := a.str_inv
      obtain ⟨l, rfl, e, hk⟩ := rd_strs b
      refine ⟨(t, tk) :: l, rfl, by rw [List.map_cons, e], fun q hq => ?_⟩
      rcases List.mem_cons.mp hq with rfl | hq
      · exact ok
      · exact hk q hq
theorem sub_mem {x : Str} {i j c : Nat} (h : c ∈ (strSub x i j).cps.toList) : c ∈ x.cps.toList := by
  have : (strSub x i j).cps.toList = (x.cps.toList.take j).drop i := by
    show (x.cps.extract i j).toList = _
    rw [Array.toList_extract, List.extract_eq_take_drop, List.drop_take]
  rw [this] at h
  exact List.mem_of_mem_take (List.mem_of_mem_drop h)
theorem split_mem {x y p : Str} (h : p ∈ Txt.split x y) : ∀ c ∈ p.cps.toList, c ∈ x.cps.toList := by
  unfold Txt.split at h
  split at h
  · rw [List.mem_singleton.mp h]; exact fun c hc => hc
  · split at h
    · rw [List.mem_singleton.mp h]; exact fun c hc => hc
    · unfold partsBetween at h
      obtain ⟨q, _, rfl⟩ := List.mem_map.mp h
      exact fun c hc => sub_mem hc
theorem split_len {x y : Str} : (Txt.split x y).length ≤ x.length + 2 := by
  unfold Txt.split
  split
  · simp
  · split
    · simp
    · rw [length_partsBetween]
      have := StrLaws.occ_length_le x y 0 x.length (x.length + 1)
      lia
theorem split_ne {x y : Str} : Txt.split x y ≠ [] := by
  unfold Txt.split
  split
  · simp
  · split
    · simp
    · intro h
      have := congrArg List.length h
      rw [length_partsBetween] at this
      simp at this
theorem join_split {x y : Str} : Txt.join y (Txt.split x y) = x := by
  unfold Txt.split Txt.join
  split
  · rfl
  · split
    · rfl
    · exact StrLaws.glued_between_self x y _
theorem fold_mem (sep : Str) : ∀ (ps : List Str) (a : Array Nat) (c : Nat), c ∈ (ps.foldl (fun acc p => acc ++ sep.cps ++ p.cps) a).toList → c ∈ a.toList ∨ c ∈ sep.cps.toList ∨ ∃ p ∈ ps, c ∈ p.cps.toList
  | [], a, c, h => .inl h
  | p :: ps, a, c, h => by
    rw [List.foldl_cons] at h
    rcases fold_mem sep ps _ c h with h | h | ⟨q, hq, h⟩
    · simp at h
      rcases h with h | h | h
      · exact .inl (by simpa using h)
      · exact .inr (.inl (by simpa using h))
      · exact .inr (.inr ⟨p, .head _, by simpa using h⟩)
    · exact .inr (.inl h)
    · exact .inr (.inr ⟨q, .tail _ hq, h⟩)
theorem join_ok {sep : Str} {ts : List Str} (h : sOk sep) (hk : ∀ t ∈ ts, sOk t) : sOk (Txt.join sep ts) := sok_iff.mpr fun c hc => by
  unfold Txt.join glued at hc
  cases ts with
  | nil =>
    have : c ∈ (#[] : Array Nat).toList := hc
    simp at this
  | cons p ps =>
    rcases fold_mem sep ps p.cps c hc with h' | h' | ⟨q, hq, h'⟩
    · exact sok_iff.mp (hk p (.head _)) c h'
    · exact sok_iff.mp h c h'
    · exact sok_iff.mp (hk q (.tail _ hq)) c h'
section
variable {K : Fm} {rho : List (Str × Option D)} {e l r o i : Expr} {x y : Str} {f g : Bool} {pos p np apos cpos : Pos} {ts : List Str}
theorem meth_str {name : String} {o : Expr} {id : String} {E : Value → Shared → Prop} {s : Shared} {Q : Value → Shared → Prop} (hn : noStar e = true) (hbase : attributeBase o (Str.ofString name) K.env (eval o K.env) = eval o K.env) (hline : (apos.endLine == cpos.line) = true)
    (slot : PySem.Slot "str" (Str.ofString name) id) (hty : typeOf (.builtin id) = pure (.type "method_descriptor"))
    (h : wpAny K.M K.A (eval o K.env) (fun ov s₁ => ∃ x t, ov = .str x t ∧ wpAny K.M K.A (eval e K.env) (fun y s2 => wpAny K.M K.A (call (.builtin id) [.str x t, y]) Q E s2) E s₁) E s) :
    wpAny K.M K.A (eval (.Call (.Attribute o (Str.ofString name) apos) [e] [] cpos) K.env) Q E s := by
  have tr : backTo cpos (starEach [e] K.env) = [(false, eval e K.env)] := by rw [starEach_cons hn]; rfl
  refine wpAny_Call_method hbase (by rw [tr]; rfl) hline PySem.F.plainAttrs_str slot hty (wpAny_mono h (fun ov s₁ q => ?_) fun _ _ q => q)
  obtain ⟨x, t, rfl, q⟩ := q
  refine ⟨typeIs_str _ _ _, fun b eb => (nomatch eb), ?_⟩
  rw [tr]
  exact Calls.callWith_builtin rfl (Calls.evalArgs_plain (Calls.spliced_cons (wpAny_mono q (fun y s₂ h₂ => Calls.spliced_nil h₂) fun _ _ e => e)))
theorem ev_split (hb : ∀ n w, attributeBase o n K.env w = w) (h : EV K rho o (.str x) f) (h2 : EV K rho e (.str y) g) (hy : (y.length == 0) = false) (hl : x.length ≤ 100000) (hn : noStar e = true) (hline : (apos.endLine == cpos.line) = true) :
    EV K rho (.Call (.Attribute o "split" apos) [e] [] cpos) (.list ((Txt.split x y).map .str)) true := fun W s R E => by
  refine meth_str (name := "split") hn (hb _ _) hline PySem.F.slot_str_split PySem.F.type_str_split (h.bind R fun v s1 R1 g1 => ?_)
  obtain ⟨st, as, rd, _⟩ := g1
  obtain ⟨t, rfl, _, ok⟩ := rd.str_inv
  refine ⟨x, t, rfl, h2.bind R1 fun w s2 R2 g2 => ?_⟩
  obtain ⟨st2, _, r2, _⟩ := g2
  obtain ⟨u, rfl, _, ok2⟩ := r2.str_inv
  have hx : x.length ≤ sizeLine := by rw [sizeLine_eq]; lia
  have one : ∀ k, Got K W s (.list [.str x]) true (.ref s2.heap.objs.size) { s2 with toks := k, heap := s2.heap.push (listO [.str x t] 0) } := fun k =>
    Got.newList (s1 := { s2 with toks := k }) R2.off ⟨(st.trans st2).toks _, [], .cons (as := []) (bs := []) (.str x t ok) .nil, fun _ => ⟨.nil, fun a ha => nomatch ha⟩⟩
  unfold Txt.split
  cases h1 : (decide (x.length < y.length) || decide (strKind x < strKind y))
  · cases hf : (occurrences x y 0 x.length (x.length + 1)).isEmpty
    · simp only [Bool.false_eq_true, if_false]
      have hps : ∀ q ∈ partsBetween x (occurrences x y 0 x.length (x.length + 1)) y.length, sOk q := fun q hq => sok_sub ok (split_mem (y := y) (by unfold Txt.split; rw [h1, hf]; simpa using hq))
      refine call_meets F.slot_str_split (typeIs_str _ _ _) F.entry_str_split (F.args_str_split_2 _ _) (meets_str_split_sep x y t u h1 hy hf hx ?_) ?_
      · rw [length_partsBetween]
        have := StrLaws.occ_length_le x y 0 x.length (x.length + 1)
        rw [sizeLine_eq]; lia
      · exact Got.newList (s1 := { s2 with toks := s2.toks + (partsBetween x (occurrences x y 0 x.length (x.length + 1)) y.length).length }) R2.off ⟨(st.trans st2).toks _, [], rd_strsFrom _ _ hps, fun _ => ⟨.nil, fun a ha => nomatch ha⟩⟩
    · simp only [Bool.false_eq_true, if_false, if_true]
      exact call_meets F.slot_str_split (typeIs_str _ _ _) F.entry_str_split (F.args_str_split_2 _ _) (meets_str_split_not_found x y t u h1 hy hf) (one s2.toks)
  · simp only [if_true]
    exact call_meets F.slot_str_split (typeIs_str _ _ _) F.entry_str_split (F.args_str_split_2 _ _) (meets_str_split_cannot_occur x y t u h1) (one s2.toks)
theorem fold_len (sep : Str) : ∀ (ts : List Str) (a : Nat), ts.foldl (fun n t => n + t.length + sep.length) a = a + (ts.map (·.length)).sum + ts.length * sep.length
  | [], a => by simp
  | t :: ts, a => by
    rw [List.foldl_cons, fold_len sep ts]
    simp only [List.map_cons, List.sum_cons, List.length_cons, Nat.add_mul, Nat.one_mul]
    lia
theorem ev_join (hb : ∀ n w, attributeBase o n K.env w = w) (h : EV K rho o (.str x) f) (h2 : EV K rho e (.list (ts.map .str)) g) (hl : (ts.map (·.length)).sum + ts.length * x.length ≤ 100000) (hn : noStar e = true) (hline : (apos.endLine == cpos.line) = true) :
    EV K rho (.Call (.Attribute o "join" apos) [e] [] cpos) (.str (Txt.join x ts)) true := fun W s R E => by
  refine meth_str (name := "join") hn (hb _ _) hline PySem.F.slot_str_join PySem.F.type_str_join (h.bind R fun v s1 R1 g1 => ?_)
  obtain ⟨st, as, rd, _⟩ := g1
  obtain ⟨t, rfl, _, ok⟩ := rd.str_inv
  refine ⟨x, t, rfl, h2.bind R1 fun w s2 R2 g2 => ?_⟩
  obtain ⟨st2, _, r2, _⟩ := g2
  obtain ⟨a, vs, n, bs, rfl, _, ho, hr, _⟩ := r2.list_inv
  obtain ⟨l, rfl, el, hk⟩ := rd_strs hr
  refine SC.join (isList_of ho) el ?_ fun t' k => Got.str ((st.trans st2).toks _) (join_ok ok hk) _
  unfold JoinOk
  rw [Bool.not_eq_true']
  unfold tooLong
  rw [List.foldl_toArray, fold_len]
  rw [decide_eq_false]
  rw [sizeLine_eq]; lia
theorem cmp_in_str {c : Nat} : CMP K .In (.str (sL [c])) (.str x) (decide (c ∈ x.cps.toList)) := fun W s v1 v2 as bs Q E _ r1 r2 q => by
  obtain ⟨t, rfl, _⟩ := r1.str_inv
  obtain ⟨u, rfl, _⟩ := r2.str_inv
  refine PySem.P.in_str ?_
  have := StrLaws.found_one x c
  show Q (.bool !(occurrences x ⟨#[c]⟩ 0 x.length 1).isEmpty) s
  rw [this]
  exact q s.toks
theorem cmp_notin_str {c : Nat} : CMP K .NotIn (.str (sL [c])) (.str x) (!decide (c ∈ x.cps.toList)) := fun W s v1 v2 as bs Q E _ r1 r2 q => by
  obtain ⟨t, rfl, _⟩ := r1.str_inv
  obtain ⟨u, rfl, _⟩ := r2.str_inv
  refine PySem.P.notIn_str ?_
  have := StrLaws.found_one x c
  show Q (.bool (!(!(occurrences x ⟨#[c]⟩ 0 x.length 1).isEmpty))) s
  rw [this]
  exact q s.toks
theorem it_str (hh : K.A.handled = none) (h : EV K rho e (.str x) f) : IT K rho e (x.cps.toList.map fun c => .str (sL [c])) := fun W s R E =>
  h.bind R fun v s1 R1 g => by
    obtain ⟨st, as, q, _⟩ := g
    obtain ⟨t, rfl, _, ok⟩ := q.str_inv
    have hlen : x.cps.size = (x.cps.toList.map fun c => (PyData.str (sL [c]))).length := by simp
    have key : ∀ T : String, T ≠ "code" → Walks K.G.prog K.G.w K.A s1.heap.objs.size [s1.heap.objs.size] [s1.heap.objs.size] x.cps.size (SignAt x) (fun i h => h.IsStrIter s1.heap.objs.size T x t i) →
        Iter1 K W s (x.cps.toList.map fun c => .str (sL [c])) (.ref s1.heap.objs.size) { s1 with heap := s1.heap.push { cls := .type T, data := .fields #[.str x t, .int 0 0] } } := fun T hT Wk => by
      refine ⟨st.trans (step_push s1 _), s1.heap.objs.size, [s1.heap.objs.size], [s1.heap.objs.size], _, _, rfl, hlen ▸ Wk, ⟨_, Heap.get?_push_size _ rfl, rfl, rfl⟩, ⟨?_, ?_, ?_, ?_⟩, ?_⟩
      · intro b hb; obtain rfl := List.mem_singleton.mp hb; exact fresh_push st
      · intro b hb
        obtain rfl := List.mem_singleton.mp hb
        exact ⟨_, Heap.get?_push_size _ rfl, solid_ty rfl rfl hT⟩
      · intro b hb vs' n' eb
        obtain rfl := List.mem_singleton.mp hb
        exact off_size R1.off
      · intro i h' st' b hb; obtain rfl := List.mem_singleton.mp hb; obtain ⟨o, eo, ec, ed⟩ := st'; exact ⟨o, eo, solid_ty ed ec hT⟩
      · intro i v _ hv
        obtain ⟨c, u, ec, rfl⟩ := hv
        have hm : c ∈ x.cps.toList := by
          have := List.mem_of_getElem? (show x.cps.toList[i]? = some c by simpa using ec)
          exact this
        refine ⟨.str (sL [c]), [], by simp [ec], .str _ u (sok_iff.mpr fun d hd => ?_)⟩
        have hd : d ∈ [c] := by simpa using hd
        rw [List.mem_singleton.mp hd]; exact sok_iff.mp ok c hm
    cases ha : x.cps.all (· < 128)
    · exact wpAny_pyIter_wide ha (key _ (by decide) (Walks.strWide hh _ x t))
    · exact wpAny_pyIter_ascii ha (key _ (by decide) (Walks.strAscii hh _ x t))
end
end Mine
end

section
set_option autoImplicit false
namespace Mine
open PySem PyProof.Rows

structure FrK (K : Fm) : Prop where
  out : ∃ env0 outer L, K.envs = env0 :: outer ∧ env0.frame = some L ∧ K.env.frame = some L
theorem TopK.frk {K : Fm} (t : TopK K) : FrK K := let ⟨o, e⟩ := t.outer; ⟨_, o, _, e, t.frame, t.frame⟩
theorem Inner.frk {K K2 : Fm} {s : Shared} {sc : Scope} {own : List Str} (n : Inner K K2 s sc own) (k : FrK K) : FrK K2 :=
  let ⟨a, b, c, d, e, f⟩ := k.out; ⟨a, b, c, n.envs.trans d, e, n.frame.trans f⟩

theorem funFrames_to {h h' base base' : Heap} : ∀ {l : List Env}, (∀ L ∈ frs l, base'.get? L = none ∧ ∀ o, h.get? L = some o → h'.get? L = some o) → h.FunFrames base l → h'.FunFrames base' l
  | [], _, _ => trivial
  | env :: l, hb, ⟨hk, ⟨L, o, hf, hn, ho, hd⟩, hr⟩ => by
    have h1 := hb L (by simp [frs, hf])
    refine ⟨hk, ⟨L, o, hf, h1.1, h1.2 o ho, hd⟩, funFrames_to (fun L hL => hb L ?_) hr⟩
    unfold frs at hL ⊢
    rw [List.filterMap_cons]
    split
    · exact hL
    · exact .tail _ hL

theorem lets_comp {K K2 : Fm} {rho rho2 : List (Str × Option D)} {W W2 : List Addr} {s s2 : Shared} {sc : Scope} {own : List Str} {C : Addr} {E : Value → Shared → Prop} (R : Rel K rho W s) (n : Inner K K2 s sc own) (fk : FrK K) (R2 : Rel K2 rho2 W2 s2) (hE : Lets K C E) : Lets K2 C (CompErr K K2 E) := fun e s' u => by
  obtain ⟨s1, f, fl⟩ := u
  obtain ⟨env0, outer, L, eV, hf0, hf⟩ := fk.out
  obtain ⟨base, v, fly, cov⟩ := id fl.fly
  have new0 : s.heap.get? K2.env.locals = none := by have := R2.ok.locnew; rwa [n.s0] at this
  have fr2 : frs K2.envs = frs K.envs := by rw [n.envs]
  have hC0 : K2.env.locals ∉ frs K2.envs := fun hm => by
    obtain ⟨m, o, _, _, ho, _⟩ := R.fdict _ (by rw [fr2] at hm; exact hm)
    rw [new0] at ho; cases ho
  rw [n.envs, eV] at fly
  show wpAny K2.M K2.A (noteFrame (.ref e) K2.env) _ _ s'
  rw [note_env (env0 := env0) (by rw [n.frame, hf, hf0])]
  have frames : K2.A.frames = some (env0 :: outer) := by rw [n.A, ← eV]; exact R.ok.frames
  refine fly_note frames hf0 fly fun h2 T fl2 up2 => ?_
  obtain ⟨m, oC, es, ep, hoC, hdC, rC⟩ := f.loc
  have hbC : base.get? K2.env.locals = some oC := by
    rcases cov _ _ hoC hC0 with q | ⟨_, _, _, z, _⟩
    · exact q
    · rw [z] at hdC; cases hdC
  have h2C : h2.get? K2.env.locals = some oC := fl2.stays _ _ hbC
  refine ⟨m, ⟨oC, es, ep, h2C, hdC, rC⟩, fun h' sb cenv hcl => ?_⟩
  have nC : ∀ {b : Addr} {o : Obj}, s.heap.get? b = some o → b ≠ K2.env.locals := fun e0 q => by rw [q, new0] at e0; cases e0
  have nF : ∀ {b : Addr} {o : Obj} {vs : Array Value}, h2.get? b = some o → o.data = .fields vs → b ≠ K2.env.locals := fun e0 hd q => by
    rw [q, h2C] at e0; cases e0
    rw [hdC] at hd; cases hd
  have fl3 : Fly (mask base [K2.env.locals]) (env0 :: outer) e C (.ref T) h' := by
    obtain ⟨g1, g2, g3, ⟨he, hc, hd, h1, ht, hx⟩⟩ := fl2
    refine ⟨fun b o eb => ?_, ?_, ?_, ?_⟩
    · obtain ⟨q1, q2⟩ := mask_some eb
      exact (sb.2 b fun z => q1 (List.mem_singleton.mpr z)).trans (g1 b o q2)
    · cases q : (mask base [K2.env.locals]).get? e with
      | none => rfl
      | some o => have := (mask_some q).2; rw [g2] at this; cases this
    · have nL : ∀ L ∈ frs (env0 :: outer), L ≠ K2.env.locals := fun L hL q => by
        rw [q, ← eV, ← fr2] at hL; exact hC0 hL
      refine funFrames_to (fun L hL => ⟨?_, fun o q => (sb.2 L (nL L hL)).trans q⟩) g3
      rw [mask_out (by simpa using nL L hL)]
      exact (g3.mem hL).1
    · cases ht with
      | «at» t1 t2 t3 t4 t5 =>
        refine ⟨(sb.2 e (nF he hd)).trans he, hc, hd, h1, .at ?_ t2 ((sb.2 _ (nF t3 t4)).trans t3) t4 t5, hx⟩
        cases q : (mask base [K2.env.locals]).get? T with
        | none => rfl
        | some o => have := (mask_some q).2; rw [t1] at this; cases this
  obtain ⟨he, hc, hd, h1, ht, hx⟩ := fl3.exc
  unfold PySem.passOn
  refine wpAny_bind (wpAny_field (s := { s' with heap := h' }) he hd h1 ?_)
  rw [if_neg (by simp)]
  refine wpAny_bind (fly_back (s := { s' with heap := h' }) fl3 fun h4 fl4 up4 => wpAny_throw ?_)
  rw [← eV] at fl4
  have k0 : KF K2.fr s.heap s1.heap := by have := f.kept; rwa [n.s0] at this
  refine hE e _ (.fly s R.fct ⟨?_, ⟨_, _, fl4, fun b o e0 hb => ?_⟩, fun b hb o e0 hdd => ?_⟩)
  · obtain ⟨ha, tka, ea⟩ := f.same
    obtain ⟨hb, tkb, eb⟩ := fl.same
    rw [n.s0] at ea
    subst ea
    subst eb
    exact ⟨h4, tkb, rfl⟩
  · have hb2 : b ∉ frs K2.envs := by rw [fr2]; exact hb
    have out : ∀ {b' : Addr} {o' : Obj}, b' ≠ K2.env.locals → base.get? b' = some o' → (mask base [K2.env.locals]).get? b' = some o' := fun h q => (mask_out (by simpa using h)).trans q
    have turn : TabTurn base b o → TabTurn (mask base [K2.env.locals]) b o := fun t => t.keep fun b' o' e' hv _ => out (fun q => by
      rw [q, hbC] at e'; cases e'
      obtain ⟨vs, hv⟩ := hv
      rw [hdC] at hv; cases hv) e'
    rcases k0 b o e0 with q | ⟨q, _⟩ | q
    · rcases cov b o q hb2 with z | z
      · exact .inl (out (nC e0) z)
      · exact .inr (turn z)
    · exact absurd q hb2
    · exact .inr (turn (cov.turn f.fdict q))
  · obtain ⟨es', ep', hdd⟩ := hdd
    have ⟨sl, q⟩ : ∃ sl, s1.heap.get? b = some { o with slots := sl } := by
      rcases k0 b o e0 with q | ⟨_, _, sl, q⟩ | ⟨_, _, _, q, _⟩
      · exact ⟨o.slots, q⟩
      · exact ⟨sl, q⟩
      · rw [q] at hdd; cases hdd
    obtain ⟨sl2, q2⟩ := fl.slots b (by rw [fr2]; exact hb) _ q ⟨es', ep', hdd⟩
    obtain ⟨sl3, q3⟩ := up2 b _ q2 (fun vs z => by simp only at z; rw [hdd] at z; cases z)
    have q4 := (sb.2 b (nC e0)).trans q3
    obtain ⟨sl5, q5⟩ := up4 b _ q4 (fun vs z => by simp only at z; rw [hdd] at z; cases z)
    exact ⟨sl5, q5⟩

abbrev badD : D := .dict []
theorem Rd.no_bad {W : List Addr} {h : Heap} {v : Value} {as : List Addr} (r : Rd W h v badD as) : False := by
  generalize e : badD = d at r
  cases r <;> cases e
theorem RdAll.no_bad {W : List Addr} {h : Heap} : ∀ {vs : List Value} {ds : List D} {as : List Addr}, RdAll W h vs ds as → badD ∈ ds → False
  | _, _, _, .cons a b, hm => by
    rcases List.mem_cons.mp hm with q | q
    · exact (q ▸ a).no_bad
    · exact b.no_bad q
theorem use_bad {K : Fm} {W : List Addr} {s : Shared} {E : Value → Shared → Prop} {use : Option (Value → Sem Unit)} {Q : Value → Shared → Prop} {res : List D} {f : Bool} (h : badD ∈ res) : CompUse K W s E use Q res f := fun s5 C v as m st rd fr hC hm => by
  obtain ⟨l, us, n, cs, rfl, rfl, ho, hr, hW⟩ := rd.list_inv
  exact (hr.no_bad h).elim
section
variable {K : Fm} {rho : List (Str × Option D)} {g : Sg} {e : Expr} {t : Str} {pt pos pos2 np : Pos} {rest : List Stmt} {elt iter : Expr} {sc2 sc : Scope} {own : List Str} {caps : List (Str × D)} {α : Type} {l : List α} {ψ : α → D} {f : Bool} {C : Addr}
theorem comp_raise {φ : α → D} {x : Str} {px : Pos} (fk : FrK K) (it : IT K rho iter (l.map φ)) (hsc : K.sc = sc) (ok : CompOk sc2 sc [x] (caps.map (·.1)) own) (hc : ∀ q ∈ caps, (q.1, some q.2) ∈ rho) (hl : l.length ≤ sizeLine) (hs : ∀ x, foldedSetIterable iter K.env x = pure x)
    (P : α → Bool) (ex : ∃ a ∈ l, P a = false)
    (body : ∀ K2 : Fm, K2.G = K.G → K2.sc = relabelS sc2 sc → K2.own = own → K2.room = K.room → K2.A.handled = K.A.handled → FrK K2 → ∀ a ∈ l, (P a = true → EV K2 (fullOf (gOne x (φ a) caps)) elt (ψ a) f) ∧ (P a = false → EVr K2 (fullOf (gOne x (φ a) caps)) elt C))
    {W : List Addr} {s : Shared} {E : Value → Shared → Prop} {use : Option (Value → Sem Unit)} {Q : Value → Shared → Prop} (R : Rel K rho W s) (hE : Lets K C E) :
    wpAny K.M K.A (comprehension (.ListComp elt [⟨.Name x px, iter, [], 0⟩] sc2 pos) sc2 K.env pos2 (newList []) false (eval iter K.env) use) Q E s := by
  refine comp_run1x (f := f) (p := fun _ => true) (ψ := fun a => if P a then ψ a else badD) R it hsc ok hc hl hs (fun K2 n a ha => ⟨rfl, fun _ W2 s2 R2 => ?_⟩) (use_bad ?_)
  · have b := body K2 n.G n.sc n.own n.room (by rw [n.A]) (n.frk fk) a ha
    cases q : P a with
    | true => simp only [if_true]; exact b.1 q W2 s2 R2 _
    | false => exact b.2 q W2 s2 R2 _ _ (lets_comp R n fk R2 hE)
  · obtain ⟨a, ha, q⟩ := ex
    refine List.mem_map.mpr ⟨a, List.mem_filter.mpr ⟨ha, rfl⟩, ?_⟩
    simp [q]
theorem evr_comp {φ : α → D} {x : Str} {px : Pos} (fk : FrK K) (it : IT K rho iter (l.map φ)) (hsc : K.sc = sc) (ok : CompOk sc2 sc [x] (caps.map (·.1)) own) (hc : ∀ q ∈ caps, (q.1, some q.2) ∈ rho) (hl : l.length ≤ sizeLine) (hs : ∀ x, foldedSetIterable iter K.env x = pure x)
    (P : α → Bool) (ex : ∃ a ∈ l, P a = false)
    (body : ∀ K2 : Fm, K2.G = K.G → K2.sc = relabelS sc2 sc → K2.own = own → K2.room = K.room → K2.A.handled = K.A.handled → FrK K2 → ∀ a ∈ l, (P a = true → EV K2 (fullOf (gOne x (φ a) caps)) elt (ψ a) f) ∧ (P a = false → EVr K2 (fullOf (gOne x (φ a) caps)) elt C)) :
    EVr K rho (.ListComp elt [⟨.Name x px, iter, [], 0⟩] sc2 pos) C := fun W s R Q E hE => by
  rw [eval_ListComp]
  exact comp_raise fk it hsc ok hc hl hs P ex body R hE
theorem rx_comp {φ : α → D} {x : Str} {px : Pos} (fk : FrK K) (it : IT K (fullOf g) iter (l.map φ)) (hsc : K.sc = sc) (ok : CompOk sc2 sc [x] (caps.map (·.1)) own) (hc : ∀ q ∈ caps, (q.1, some q.2) ∈ fullOf g) (hl : l.length ≤ sizeLine) (hs : ∀ x, foldedSetIterable iter K.env x = pure x)
    (P : α → Bool) (ex : ∃ a ∈ l, P a = false)
    (body : ∀ K2 : Fm, K2.G = K.G → K2.sc = relabelS sc2 sc → K2.own = own → K2.room = K.room → K2.A.handled = K.A.handled → FrK K2 → ∀ a ∈ l, (P a = true → EV K2 (fullOf (gOne x (φ a) caps)) elt (ψ a) f) ∧ (P a = false → EVr K2 (fullOf (gOne x (φ a) caps)) elt C)) :
    RX K g (.Assign [.Name t pt] (.ListComp elt [⟨.Name x px, iter, [], 0⟩] sc2 pos2) pos :: rest) C := fun W0 W1 s r Q E hE =>
  wpAny_execs_cons (exec_comp (by rw [eval_ListComp]; exact comp_raise fk it hsc ok hc hl hs P ex body r.full hE) (comp_raise fk it hsc ok hc hl hs P ex body r.full hE))
theorem evr_tuple (hx : GN K "tuple") (h : EVr K rho e C) (hn : noStar e = true) : EVr K rho (.Call (.Name "tuple" np) [e] [] pos) C := fun W s R Q E hE => by
  rw [eval_Call_plain rfl]
  have hi : (Str.ofString "tuple") ∈ bnames := by decide +kernel
  refine wpAny_bind (load_builtin R hx hi PyProof.Rows.Boot.«tuple» (bname_ok hi).1 (bname_ok hi).2 ?_)
  exact callWith_flat rfl (by rw [List.all_cons, hn]; rfl) (wpAny_items_cons (h W s R _ E hE) (starEach_cons hn))
end
namespace V
section
variable {K : Fm} {rho : List (Str × Option D)} {g : Sg} {e e2 : Expr} {t x y : Str} {pt px pos pos2 np yp p1 cp cpos rpos hpos : Pos} {rest : List Stmt} {elt iter : Expr} {sc2 sc : Scope} {α β : Type} {f fr : Bool} {C CX Cy : Addr} {bm bmX bmy : List Value} {d : D} {P : Out → Prop} {kk : Nat}
theorem rtuple (hx : XG K "tuple") (h : XRE K rho e C) (hn : Look (noStar e)) : XRE K rho (.Call (.Name "tuple" np) [e] [] pos) C := ⟨evr_tuple hx.out h.out hn.out⟩
theorem rcomp {S : α → D} {T : β → D} {xs : List α} (Pr : α → Bool) (F : α → β) (cn own : List Str) {caps : List (Str × D)} {G : Gx} {mr : Nat} (ex : ∃ a ∈ xs, Pr a = false) (fk : FrK K) (it : XIt K rho iter (xs.map S)) (hsc : K.sc = sc) (ok : Look (compOkB sc2 sc [x] cn own)) (hc : XCp rho cn caps) (hl : Side (xs.length ≤ sizeLine)) (hs : XF K iter) (hh : XH K) (hG : K.G = G) (hR : K.room = mr)
    (body : ∀ K2 : Fm, K2.G = G → K2.sc = relabelS sc2 sc → K2.own = own → K2.room = mr → K2.A.handled = none → FrK K2 → ∀ a ∈ xs, (Pr a = true → XE K2 (fullOf ((x, .fz (S a)) :: capG caps)) elt (T (F a)) fr) ∧ (Pr a = false → XRE K2 (fullOf ((x, .fz (S a)) :: capG caps)) elt C)) :
    XRE K rho (.ListComp elt [⟨.Name x px, iter, [], 0⟩] sc2 pos) C := by
  simp only [← capG_eq] at body
  exact ⟨evr_comp fk (ψ := fun a => T (F a)) (f := fr) it.out hsc (compOk_of (hc.nm ▸ ok.out)) hc.out hl.out hs.out Pr ex fun K2 a b c d e k v hv => have q := body K2 (a.trans hG) b c (d.trans hR) (e.trans hh.out) k v hv; ⟨fun z => (q.1 z).out, fun z => (q.2 z).out⟩⟩
theorem rsetc {S : α → D} {T : β → D} {xs : List α} (Pr : α → Bool) (F : α → β) (cn own : List Str) {caps : List (Str × D)} {G : Gx} {mr : Nat} (ex : ∃ a ∈ xs, Pr a = false) (fk : FrK K) (it : XIt K (fullOf g) iter (xs.map S)) (hsc : K.sc = sc) (ok : Look (compOkB sc2 sc [x] cn own)) (hc : XCp (fullOf g) cn caps) (hl : Side (xs.length ≤ sizeLine)) (hs : XF K iter) (hh : XH K) (hG : K.G = G) (hR : K.room = mr)
    (body : ∀ K2 : Fm, K2.G = G → K2.sc = relabelS sc2 sc → K2.own = own → K2.room = mr → K2.A.handled = none → FrK K2 → ∀ a ∈ xs, (Pr a = true → XE K2 (fullOf ((x, .fz (S a)) :: capG caps)) elt (T (F a)) fr) ∧ (Pr a = false → XRE K2 (fullOf ((x, .fz (S a)) :: capG caps)) elt C)) :
    XR K g (.Assign [.Name t pt] (.ListComp elt [⟨.Name x px, iter, [], 0⟩] sc2 pos2) pos :: rest) C := by
  simp only [← capG_eq] at body
  exact ⟨rx_comp fk (ψ := fun a => T (F a)) (f := fr) it.out hsc (compOk_of (hc.nm ▸ ok.out)) hc.out hl.out hs.out Pr ex fun K2 a b c d e k v hv => have q := body K2 (a.trans hG) b c (d.trans hR) (e.trans hh.out) k v hv; ⟨fun z => (q.1 z).out, fun z => (q.2 z).out⟩⟩
theorem stry_pass {h₀ : ExceptHandler} {hs : List ExceptHandler} (h : XE K (fullOf g) e d f) (hc : Look (noComp e)) (k : XS K g rest P) : XS K g (.Try [.Expr e p1] (h₀ :: hs) [] [] pos :: rest) P := ⟨sx_try_pass h.out hc.out k.out⟩
theorem rtry_pass {h₀ : ExceptHandler} {hs : List ExceptHandler} (h : XE K (fullOf g) e d f) (hc : Look (noComp e)) (k : XR K g rest C) : XR K g (.Try [.Expr e p1] (h₀ :: hs) [] [] pos :: rest) C := ⟨rx_try_pass h.out hc.out k.out⟩
theorem rtry (tk : TopK K) (h : XRF K (fullOf g) e C) (hx : XG K x) (cx : XCl K.G x CX bmX) (c : ClsObj K.G.base C bm) (hb : Side ((Value.ref C :: bm).contains (.ref CX) = true)) (hC : C ≠ chained) (hy : XG K y) (cy : XCl K.G y Cy bmy) (hCy : Cy = chained)
    (kk2 : ∀ K' : Fm, K'.G = K.G → K'.sc = K.sc → K'.own = K.own → K'.room = K.room → XE K' (fullOf g) e2 d f) (hc : Look (noComp e)) (hxd : Look (gnameOk x)) (hyd : Look (gnameOk y)) (hn : Look (noStar e2)) :
    XR K g (.Try [.Expr e p1] [.ExceptHandler (some (.Name x np)) none [.Raise (some (.Call (.Name y yp) [e2] [] cpos)) (some (.Constant .none kk cp)) rpos] hpos] [] [] pos :: rest) Cy :=
  ⟨rx_try_raise tk h.out hc.out hx.out hxd.out cx.out c hb.out hC hy.out hyd.out cy.out hCy hn.out fun K' a b c d => (kk2 K' a b c d).out⟩
end
end V
theorem execs_one {M : Model} {A : Around} {E : Value → Shared → Prop} {s : Shared} {env : Env} {st : Stmt} {Q : Flow → Shared → Prop} (h : wpAny M A (execs [st] env) Q E s) : wpAny M A (exec st env) Q E s := fun Γ p hΓ => by
  have := h Γ p hΓ
  rw [execs_cons, Sem.wp_bind'] at this
  refine Sem.wp_mono M Γ _ (fun f p' s' h' => ?_) (fun _ _ _ h' => h') _ _ this
  cases f <;> exact h'
theorem rx_pre {K : Fm} {g : Sg} {st : Stmt} {rest : List Stmt} {C : Addr} (J : Sg → Prop) (h : SX K g [st] (V.Jn (fun _ => False) J)) (k : ∀ g', J g' → RX K g' rest C) : RX K g (st :: rest) C := fun W0 W1 s r Q E hE =>
  wpAny_execs_cons (wpAny_mono (execs_one (h W0 W1 s r E)) (fun f s' ⟨o, j, W2, m, fa⟩ => by
    cases o with
    | next g' =>
      cases f with
      | next => exact k g' j W0 W2 s' m Q E hE
      | _ => exact absurd m id
    | _ => exact absurd j id) fun _ _ q => q)
theorem V.rpre {K : Fm} {g : Sg} {st : Stmt} {rest : List Stmt} {C : Addr} (J : Sg → Prop) (h : XS K g [st] (V.Jn (fun _ => False) J)) (k : ∀ g', J g' → XR K g' rest C) : XR K g (st :: rest) C := ⟨rx_pre J h.out fun g' j => (k g' j).out⟩
theorem raises_defT {G : Gx} {rs : List DefRec} (H : Has G rs) (x : Str) (ps rest own : List Str) {dr : DefRec} {ds : List D} {C : Addr} {n : Nat} (hd : rs.find? (fun e => e.name == x) = some dr) (ok : defOkB dr.scope ps rest own = true) (hl : ps.length = ds.length)
    (hb : ∀ vals : List Value, vals.length = ps.length → ∀ pm code doc, bindArgs (Calls.docDef x dr.params dr.body dr.scope pm code doc) ⟨vals, []⟩ = pure (ps.zip vals))
    (h : ∀ K : Fm, K.G = G → K.sc = dr.scope → K.own = own → K.room = n → K.A.handled = none → TopK K → XR K (gStart ps ds rest) dr.body C) : Raises G (n + 1) x ds C := by
  obtain ⟨a, o, pm, code, doc, h1, h2, h3, h4⟩ := H.at x hd
  refine ⟨a, o, _, h1, h2, h3, fun A envs W s vs as Q E st hh off rd hE => enter H.ok h2 h3 h4 (defOk_of ok) hl hb st off rd fun K s₁ eG eS eO eR eH e0 frE eV eF eX r => ?_⟩
  refine (h K eG eS eO eR (by rw [eH]; exact hh) ⟨⟨_, eV⟩, eF⟩).out W [] s₁ r _ _ fun ex s' u => ?_
  exact leave_up u r.rel.ok.frames frE eV eF r.rel.ok.locnew fun s'' fl => hE ex s'' (e0 ▸ fl)
end Mine
end

section
set_option autoImplicit false
namespace Mine
open PySem

abbrev tS (l : List Nat) : D := .str (sL l)
def sgnT (l : List Nat) : Prop := ∀ c ∈ l, c < 0x110000
theorem sL_inj {a b : List Nat} (h : sL a = sL b) : a = b := by rw [← sL_list a, h, sL_list]
theorem sL_add {a b : List Nat} : sL a ++ sL b = sL (a ++ b) := by
  show Str.mk (a.toArray ++ b.toArray) = _
  rw [List.append_toArray]; rfl
def numL (a : Int) : List Nat := (Str.ofString (toString a)).cps.toList
def splitL (l sep : List Nat) : List (List Nat) := (Txt.split (sL l) (sL sep)).map (·.cps.toList)
def joinL (sep : List Nat) (ts : List (List Nat)) : List Nat := (Txt.join (sL sep) (ts.map sL)).cps.toList
theorem eqv_tS {a b : List Nat} : PyData.eqv (tS a) (tS b) = decide (a = b) := by
  show (sL a == sL b) = _
  rw [Bool.eq_iff_iff, beq_iff_eq, decide_eq_true_eq]
  exact ⟨sL_inj, fun h => by rw [h]⟩
structure XTm (e : Expr) : Prop where
  out : ∀ o r, letTemporaryGo e o r = pure ()
structure XSg (G : Gx) (x : Str) (l : List Nat) : Prop where
  out : ∃ t, G.mg x = some (.str (sL l) t)
theorem XSg.of {K : Fm} {G : Gx} {x : Str} {l : List Nat} (e : K.G = G) (h : XSg G x l) : XSg K.G x l := e ▸ h
def strIs (p : Program) (x : Str) (l : List Nat) : Bool := match PyProof.Rows.valOf p x with
  | some (.str y) => y == sL l
  | _ => false
theorem str_top {prog view : Program} {w : World} {loose : List Str} {mean : ExcName → Option Value} {mg mb : Str → Option Value} {h : Heap} (T : PyProof.Rows.Top view loose mean mg mb h) (x : Str) (l : List Nat) (e : strIs view x l = true) : XSg ⟨prog, w, h, mg⟩ x l := by
  have e' : PyProof.Rows.valOf view x = some (.str (sL l)) := by
    unfold strIs at e
    split at e
    · rename_i q; rw [q]; rw [eq_of_beq e]
    · cases e
  obtain ⟨v, h1, h2⟩ := T.const x (.str (sL l)) e'
  have := h2 h
  cases this with
  | str _ t => exact ⟨t, h1⟩
namespace V
section
variable {K : Fm} {rho : List (Str × Option D)} {e e2 i l r o : Expr} {a b t sep : List Nat} {ts : List (List Nat)} {f g : Bool} {np p pos apos cpos : Pos} {k n : Int} {c kk : Nat} {x : Str}
theorem ab_const {cc : Const} {kk : Nat} : XAb K (.Constant cc kk pos) := ⟨fun _ _ => rfl⟩
theorem consts {x : Str} {l : List Nat} (hx : XG K x) (hc : XSg K.G x l) (hk : Side (PyData.canLay0 (tS l) = true)) (hxd : Look (gnameOk x)) : XE K rho (.Name x np) (tS l) true := ⟨fun W s R E => by
  obtain ⟨t, ht⟩ := hc.out
  exact load_own R hx.out hxd.out ht (Got.str (.refl _ s) hk.out _)⟩
theorem name_s {y : Str} (h : XM rho y (tS a)) : XE K rho (.Name y np) (tS a) true := ⟨(ev_name h.out).up (.str _)⟩
theorem tm_name {x : Str} {px : Pos} : XTm (.Name x px) := ⟨fun _ _ => rfl⟩
theorem cstrL (h : Side (x = sL a)) (ok : Side (PyData.canLay0 (.str x) = true)) : XE K rho (.Constant (.str x) kk pos) (tS a) true := by
  have := ev_str (K := K) (rho := rho) (k := kk) (pos := pos) ok.out
  have e : tS a = .str x := by rw [h.out]
  rw [e]
  exact ⟨this⟩
theorem adds (h1 : XE K rho l (tS a) f) (h2 : XE K rho r (tS b) g) (hl : Side (a.length + b.length ≤ 100000)) : XE K rho (.BinOp l .Add r pos) (tS (a ++ b)) true := by
  have := ev_add_str (pos := pos) h1.out h2.out (by rw [sL_len, sL_len]; exact hl.out)
  rw [sL_add] at this
  exact ⟨this⟩
theorem lens (hx : XG K "len") (h : XE K rho e (tS a) f) (hl : Side (a.length ≤ sizeLine)) (n1 : Look (noStar e)) : XE K rho (.Call (.Name "len" np) [e] [] pos) (.int (a.length : Int)) true := by
  have := ev_len_str (np := np) (pos := pos) hx.out h.out (by rw [sL_len]; exact hl.out) n1.out
  rw [sL_len] at this
  exact ⟨this⟩
theorem strint (hx : XG K "str") (h : XE K rho e (.int n) f) (ha : Side (n.natAbs.log2 < 1920)) (n1 : Look (noStar e)) : XE K rho (.Call (.Name "str" np) [e] [] pos) (tS (numL n)) true := by
  have := ev_str_int (np := np) (pos := pos) hx.out h.out ha.out n1.out
  rw [← sL_of (Str.ofString (toString n))] at this
  exact ⟨this⟩
theorem intstr (hx : XG K "int") (h : XE K rho e (tS a) f) (hn : Side (PySem.intText? (sL a) = some n)) (hl : Side (a.length ≤ 640)) (n1 : Look (noStar e)) : XE K rho (.Call (.Name "int" np) [e] [] pos) (.int n) true :=
  ⟨ev_int_str hx.out h.out hn.out (by rw [sL_len]; exact hl.out) n1.out⟩
theorem sto (h : XE K rho e (tS a) f) (h2 : XE K rho i (.int k) g) (ht : XTm e) (hk : Side (0 ≤ k)) (hl : Side (a.length ≤ sizeLine)) : XE K rho (.Subscript e (.Slice none (some i) none p) pos) (tS (a.take k.toNat)) true := by
  have := ev_slice_str (p := p) (pos := pos) h.out evp_none (evp_some h2.out) (by rw [sL_len]; exact hl.out) ht.out
  rw [sL_list, slc_to hk.out] at this
  exact ⟨this⟩
theorem sfrom (h : XE K rho e (tS a) f) (h2 : XE K rho i (.int k) g) (ht : XTm e) (hk : Side (0 ≤ k)) (hl : Side (a.length ≤ sizeLine)) : XE K rho (.Subscript e (.Slice (some i) none none p) pos) (tS (a.drop k.toNat)) true := by
  have := ev_slice_str (p := p) (pos := pos) h.out (evp_some h2.out) evp_none (by rw [sL_len]; exact hl.out) ht.out
  rw [sL_list, slc_from hk.out] at this
  exact ⟨this⟩
theorem sitem (h : XE K rho e (tS a) f) (h2 : XE K rho i (.int k) g) (ht : XTm e) (hk : Side (0 ≤ k ∧ k < 1000000000)) (hc : Side (a[k.toNat]? = some c)) (hn : Look (noSlice i)) : XE K rho (.Subscript e i pos) (tS [c]) true :=
  ⟨ev_item_str h.out h2.out hk.out (by rw [sL_list]; exact hc.out) hn.out ht.out⟩
theorem split (hb : XAb K o) (h : XE K rho o (tS a) f) (h2 : XE K rho e (tS sep) g) (hy : Side ((sep.length == 0) = false)) (hl : Side (a.length ≤ 100000)) (hn : Look (noStar e)) (hline : Look (apos.endLine == cpos.line)) :
    XE K rho (.Call (.Attribute o "split" apos) [e] [] cpos) (.list ((splitL a sep).map tS)) true := by
  have := ev_split (apos := apos) (cpos := cpos) hb.out h.out h2.out (by rw [sL_len]; exact hy.out) (by rw [sL_len]; exact hl.out) hn.out hline.out
  have e : (Txt.split (sL a) (sL sep)).map PyData.str = (splitL a sep).map tS := by
    unfold splitL
    rw [List.map_map]
    exact List.map_congr_left fun q _ => by show _ = PyData.str (sL q.cps.toList); rw [sL_of]
  rw [e] at this
  exact ⟨this⟩
theorem sjoin (hb : XAb K o) (h : XE K rho o (tS sep) f) (h2 : XE K rho e (.list (ts.map tS)) g) (hl : Side ((ts.map (·.length)).sum + ts.length * sep.length ≤ 100000)) (hn : Look (noStar e)) (hline : Look (apos.endLine == cpos.line)) :
    XE K rho (.Call (.Attribute o "join" apos) [e] [] cpos) (tS (joinL sep ts)) true := by
  have e1 : ts.map tS = (ts.map sL).map PyData.str := by rw [List.map_map]; rfl
  have h2 := h2.out
  rw [e1] at h2
  have := ev_join (apos := apos) (cpos := cpos) hb.out h.out h2 (by
    have q : (ts.map sL).map (·.length) = ts.map (·.length) := by rw [List.map_map]; exact List.map_congr_left fun a _ => sL_len a
    rw [q, sL_len, List.length_map]
    exact hl.out) hn.out hline.out
  rw [← sL_of (Txt.join _ _)] at this
  exact ⟨this⟩
theorem cins : XC K .In (tS [c]) (tS a) (decide (c ∈ a)) := by
  have := cmp_in_str (K := K) (c := c) (x := sL a)
  rw [sL_list] at this
  exact ⟨this⟩
theorem cnins : XC K .NotIn (tS [c]) (tS a) (!decide (c ∈ a)) := by
  have := cmp_notin_str (K := K) (c := c) (x := sL a)
  rw [sL_list] at this
  exact ⟨this⟩
theorem ceqs : XC K .Eq (tS a) (tS b) (decide (a = b)) := by
  have := cmp_eq (K := K) (d1 := tS a) (d2 := tS b) (Nat.zero_le _) rfl rfl
  rw [eqv_tS] at this
  exact ⟨this⟩
theorem cnes : XC K .NotEq (tS a) (tS b) (!decide (a = b)) := by
  have := cmp_ne (K := K) (d1 := tS a) (d2 := tS b) (Nat.zero_le _) rfl rfl
  rw [eqv_tS] at this
  exact ⟨this⟩
theorem its (h : XE K rho e (tS a) f) (hh : XH K) : XIt K rho e (a.map fun c => tS [c]) := by
  have := it_str hh.out h.out
  rw [sL_list] at this
  exact ⟨this⟩
end
end V
section
open PyProof.Rows
variable {K : Fm} {rho : List (Str × Option D)} {e i : Expr} {f g : Bool} {pos p : Pos} {ds : List D} {lower upper : Option Expr} {lo hi : Option Int} {k : Int} {α : Type} {T : α → D} {L : List α}
theorem ev_slice_listN (h : EV K rho e (.list ds) f) (h1 : EVP K rho lower lo) (h2 : EVP K rho upper hi) (hl : ds.length ≤ sizeLine) :
    EV K rho (.Subscript e (.Slice lower upper none p) pos) (.list (slc lo hi ds)) false := fun W s R E =>
  Subscript_ (h.bind R fun v s1 R1 g1 => wpAny_Slice (wpAny_mono (h1 W s1 R1 E) (fun vl s2 q2 => wpAny_mono (h2 W s2 (R1.step q2.1) E) (fun vu s3 q3 => by
    obtain ⟨st2, pl⟩ := q2
    obtain ⟨st3, pu⟩ := q3
    obtain ⟨st1, as, rd, _⟩ := g1
    rw [evalPart_none]
    refine wpAny_pure ?_
    obtain ⟨a, vs, n, bs, rfl, rfl, ho, hr, haW⟩ := ((rd.kf st2.kf).kf st3.kf).list_inv
    have sp := step_push (fr := K.fr) s3 { cls := .type "slice", data := .fields #[vl, vu, .none] }
    have ho' := sp.kf.solid (.inl ⟨_, _, rfl⟩) ho
    have hL := isList_of ho'
    refine tail_any hL.typeIs slot_list_getitem.lookup (wpAny_getItem_list_slice hL (Heap.IsSliceOf.new ..) pl pu .none (by simp) ?_ (by rw [List.size_toArray, hr.length]; exact hl)) subscripted_slice
    rw [slicePick_slc]
    obtain ⟨cs, hc⟩ := hr.slc lo hi
    have R4 := ((R1.step st2).step st3).step sp
    refine Got.newList (s1 := { s3 with heap := s3.heap.push { cls := .type "slice", data := .fields #[vl, vu, .none] } }) R4.off ⟨((st1.trans st2).trans st3).trans sp, cs, hc.kf sp.kf, fun e => nomatch e⟩) fun _ _ q => q) fun _ _ q => q))
theorem V.slice_fromN (h : XE K rho e (.list (L.map T)) f) (h2 : XE K rho i (.int k) g) (hk : Side (0 ≤ k)) (hl : Side (L.length ≤ sizeLine)) : XE K rho (.Subscript e (.Slice (some i) none none p) pos) (.list ((L.drop k.toNat).map T)) false := by
  have := ev_slice_listN (p := p) (pos := pos) h.out (evp_some h2.out) evp_none (by simpa using hl.out)
  rw [V.slc_map, V.slc_from hk.out] at this
  exact ⟨this⟩
end
end Mine
end

namespace Mine
open PySem PySem.W PyProof.Rows
abbrev view14 : Program := view PySem.Challenge.pw_uf010034_14 [1, 2, 3, 4, 5, 6, 7, 9, 11, 12, 13, 14, 15, 16, 17, 18, 20, 21, 22, 23, 24, 26, 27, 28, 29, 30, 31, 32, 33, 34, 35, 36, 37, 38, 39, 40, 41, 42]
def ctab14 : ClsTab := [("GridError", 24, vmro), ("BadRows", 37, .ref 24 :: vmro), ("BadPoint", 49, .ref 24 :: vmro), ("BadWeights", 61, .ref 24 :: vmro), ("BadSpot", 73, .ref 24 :: vmro), ("BadText", 85, .ref 24 :: vmro), ("TooMany", 97, .ref 24 :: vmro)]
def ntab14 : NumTab := []

theorem said14 : PySem.Challenge.rw_uf010034_14.wellSaid = true := by decide +kernel
set_option maxHeartbeats 0 in
theorem left14 : LeftO PySem.Challenge.pw_uf010034_14 view14 [] (fun _ => true) (Obs ctab14 ntab14) (fun _ => ObsVal ctab14 ntab14) 4750 := fun w => by kernel_rfl
end Mine

section
set_option autoImplicit false
namespace Mine

structure N13 (n : Nat) : Prop where
  out : n = 1 ∨ n = 2 ∨ n = 3
theorem N13.le {n : Nat} (h : N13 n) : n ≤ 3 := by rcases h.out with rfl | rfl | rfl <;> decide
theorem N13.ge {n : Nat} (h : N13 n) : 1 ≤ n := by rcases h.out with rfl | rfl | rfl <;> decide
theorem nabs_le {x B : Int} (h : -B ≤ x ∧ x ≤ B) : x.natAbs ≤ B.natAbs := by
  refine Int.ofNat_le.mp (Int.le_trans ?_ Int.le_natAbs)
  rcases Int.natAbs_eq x with e | e
  · exact Int.le_trans (Int.le_of_eq e.symm) h.2
  · rw [← Int.neg_eq_comm.mp e.symm]
    exact Int.neg_le_of_neg_le h.1
def sgn (k : Nat) : Int := if k % 2 = 0 then 1 else -1
def sumTo (f : Nat → Int) : Nat → Int
  | 0 => 0
  | n + 1 => sumTo f n + f n
def wo (r : List Int) (k : Nat) : List Int := r.take k ++ r.drop (k + 1)
def without (R : List (List Int)) (k : Nat) : List (List Int) := R.map fun r => wo r k
def detF : Nat → List (List Int) → Int
  | 0, _ => 1
  | _ + 1, [] => 1
  | n + 1, r :: rs => sumTo (fun k => sgn k * r.getD k 0 * detF n (without rs k)) (rs.length + 1)
def det (R : List (List Int)) : Int := detF R.length R
structure Grid (n : Nat) (B : Int) (R : List (List Int)) : Prop where
  len : R.length = n
  row : ∀ r ∈ R, r.length = n ∧ ∀ x ∈ r, -B ≤ x ∧ x ≤ B
structure Rect (m n : Nat) (B : Int) (R : List (List Int)) : Prop where
  len : R.length = m
  row : ∀ r ∈ R, r.length = n ∧ ∀ x ∈ r, -B ≤ x ∧ x ≤ B
theorem wo_len {r : List Int} {k n : Nat} (h : r.length = n + 1) (hk : k < n + 1) : (wo r k).length = n := by
  simp [wo]; lia
theorem mem_wo {r : List Int} {k : Nat} {x : Int} (h : x ∈ wo r k) : x ∈ r := by
  rcases List.mem_append.mp h with h | h
  · exact List.mem_of_mem_take h
  · exact List.mem_of_mem_drop h
theorem Rect.without {m n : Nat} {B : Int} {R : List (List Int)} (g : Rect m (n + 1) B R) {k : Nat} (hk : k < n + 1) : Rect m n B (without R k) where
  len := by simp [Mine.without, g.len]
  row := fun r hr => by
    obtain ⟨q, hq, rfl⟩ := List.mem_map.mp hr
    exact ⟨wo_len (g.row q hq).1 hk, fun x hx => (g.row q hq).2 x (mem_wo hx)⟩
theorem Rect.grid {n : Nat} {B : Int} {R : List (List Int)} (g : Rect n n B R) : Grid n B R := ⟨g.len, g.row⟩
theorem Grid.rect {n : Nat} {B : Int} {R : List (List Int)} (g : Grid n B R) : Rect n n B R := ⟨g.len, g.row⟩
theorem Rect.tail {m n : Nat} {B : Int} {r : List Int} {R : List (List Int)} (g : Rect (m + 1) n B (r :: R)) : Rect m n B R :=
  ⟨by have := g.len; simpa using this, fun q hq => g.row q (.tail _ hq)⟩
theorem det_cons {n : Nat} {B : Int} {r : List Int} {rs : List (List Int)} (g : Grid (n + 1) B (r :: rs)) : det (r :: rs) = sumTo (fun k => sgn k * r.getD k 0 * det (without rs k)) (n + 1) := by
  have hl : rs.length = n := by have := g.len; simpa using this
  show sumTo (fun k => sgn k * r.getD k 0 * detF rs.length (without rs k)) (rs.length + 1) = _
  rw [hl]
  have e : (fun k => sgn k * r.getD k 0 * detF n (without rs k)) = (fun k => sgn k * r.getD k 0 * det (without rs k)) := by
    funext k
    have : (without rs k).length = n := by simp [without, hl]
    unfold det; rw [this]
  rw [e]
theorem det_step {n : Nat} {B : Int} {R : List (List Int)} (g : Grid (n + 1) B R) : det R = sumTo (fun k => sgn k * (R.getD 0 []).getD k 0 * det (without (R.drop 1) k)) (n + 1) := by
  cases R with
  | nil => exact absurd g.len (by simp)
  | cons r rs => exact det_cons g

def less1 (R : List (List Int)) (i : Nat) : List (List Int) := R.take i ++ R.drop (i + 1)
def cof (R : List (List Int)) (i j : Nat) : Int := sgn (i + j) * det (without (less1 R i) j)
def cofRow (R : List (List Int)) (i : Nat) : List Int := (List.range R.length).map fun j => cof R i j
def cofs (R : List (List Int)) : List (List Int) := (List.range R.length).map fun i => cofRow R i
def inner (a b : List Int) : Int := sumTo (fun k => a.getD k 0 * b.getD k 0) a.length
def comb (R : List (List Int)) (w : List Int) : List Int := (List.range R.length).map fun j => sumTo (fun k => w.getD k 0 * (R.getD k []).getD j 0) R.length

theorem det1 (a : Int) : det [[a]] = a := by simp [det, detF, sumTo, sgn, without]
theorem det2 (a b c d : Int) : det [[a, b], [c, d]] = a * d - b * c := by
  show (0 + 1 * a * (0 + 1 * d * 1)) + -1 * b * (0 + 1 * c * 1) = _
  grind
theorem det3 (a b c d e f h i j : Int) : det [[a, b, c], [d, e, f], [h, i, j]] = a * (e * j - f * i) - b * (d * j - f * h) + c * (d * i - e * h) := by
  simp [det, detF, sumTo, sgn, without, wo]; grind
end Mine
end

section
set_option autoImplicit false
namespace Mine
open PySem PySem.NumText

def natL (m : Nat) : List Nat := (Nat.toDigits 10 m).map Char.toNat
theorem numL_nat (m : Nat) : numL (m : Int) = natL m := PySem.W.KIN.signs_num m
theorem numL_neg (m : Nat) : numL (-((m + 1 : Nat) : Int)) = 45 :: natL (m + 1) := by
  show (Str.ofString (toString (Int.negSucc m))).cps.toList = _
  rw [Str.ofString_eq_toList]
  show ((("-" ++ Nat.repr (m + 1)) : String).toList.map Char.toNat).toArray.toList = _
  rw [String.toList_append, Nat.toList_repr]
  rfl
theorem char_back : ∀ d : Nat, d < 10 → (Char.ofNat (48 + d)).toNat = 48 + d := by decide
theorem natL_val {cs : List Nat} (h : AllDigits cs) : natL (digitsVal cs) = if cs.dropWhile (· == 48) = [] then [48] else cs.dropWhile (· == 48) := by
  have back : ∀ l : List Nat, AllDigits l → (l.map Char.ofNat).map Char.toNat = l := fun l hl => by
    rw [List.map_map]
    refine (List.map_congr_left (g := id) fun c hc => ?_).trans (List.map_id _)
    have h1 := hl c hc
    have h2 := char_back (c - 48) (by omega)
    rw [show 48 + (c - 48) = c by omega] at h2
    exact h2
  unfold natL
  rw [toDigits_all cs h]
  have hd : AllDigits (cs.dropWhile (· == 48)) := fun c hc => h c ((List.dropWhile_suffix _).subset hc)
  cases q : cs.dropWhile (· == 48) with
  | nil => rfl
  | cons c r => rw [if_neg (List.cons_ne_nil _ _)]; exact back _ (q ▸ hd)
def lean (cs : List Nat) : Prop := cs.head? ≠ some 48 ∨ cs = [48]
theorem natL_lean {cs : List Nat} (h : AllDigits cs) (hn : cs ≠ []) (hl : lean cs) : natL (digitsVal cs) = cs := by
  rw [natL_val h]
  cases cs with
  | nil => exact absurd rfl hn
  | cons c r =>
    rcases hl with hl | hl
    · have q : (c :: r).dropWhile (· == 48) = c :: r := by
        rw [List.dropWhile_cons]
        exact if_neg (by simpa using hl)
      rw [q, if_neg (List.cons_ne_nil _ _)]
    · rw [hl]; rfl
theorem natL_short {cs : List Nat} (h : AllDigits cs) (hl : ¬ lean cs) : (natL (digitsVal cs)).length < cs.length := by
  rw [natL_val h]
  cases cs with
  | nil => exact absurd (.inl (by simp)) hl
  | cons c r =>
    have hc : c = 48 := Decidable.byContradiction fun q => hl (.inl (by simpa using q))
    have hr : r ≠ [] := fun q => hl (.inr (by rw [hc, q]))
    have hp : 0 < r.length := List.length_pos_iff.mpr hr
    have q : (c :: r).dropWhile (· == 48) = r.dropWhile (· == 48) := by
      rw [List.dropWhile_cons]
      exact if_pos (by simpa using hc)
    rw [q]
    split
    · exact Nat.succ_lt_succ hp
    · exact Nat.lt_succ_of_le (List.dropWhile_suffix _).length_le
theorem val_zero {cs : List Nat} (h : AllDigits cs) (hn : cs ≠ []) (hz : digitsVal cs = 0) (hl : lean cs) : cs = [48] := by
  have := natL_lean h hn hl
  rw [hz] at this
  exact this.symm

def figs (w : List Nat) : List Nat := if w.take 1 = [45] then w.drop 1 else w
def valW (w : List Nat) : Int := if w.take 1 = [45] then -((digitsVal (w.drop 1) : Nat) : Int) else (digitsVal w : Nat)
def figures : List Nat := [48, 49, 50, 51, 52, 53, 54, 55, 56, 57]
theorem mem_figures {c : Nat} : c ∈ figures ↔ 48 ≤ c ∧ c ≤ 57 := by
  simp only [figures, List.mem_cons, List.not_mem_nil, or_false]
  omega
structure OkW (m : Nat) (w : List Nat) : Prop where
  ne : figs w ≠ []
  len : (figs w).length ≤ m
  all : ∀ c ∈ figs w, c ∈ figures
theorem OkW.digits {m : Nat} {w : List Nat} (h : OkW m w) : AllDigits (figs w) := fun c hc => mem_figures.mp (h.all c hc)
theorem OkW.cases {m : Nat} {w : List Nat} (h : OkW m w) : (w = 45 :: figs w ∧ valW w = -((digitsVal (figs w) : Nat) : Int)) ∨ (w = figs w ∧ valW w = ((digitsVal (figs w) : Nat) : Int)) := by
  unfold figs valW
  by_cases q : w.take 1 = [45]
  · rw [if_pos q, if_pos q]
    refine .inl ⟨?_, rfl⟩
    have := (List.take_append_drop 1 w).symm
    rw [q] at this
    exact this
  · rw [if_neg q, if_neg q]
    exact .inr ⟨rfl, rfl⟩
theorem OkW.int {m : Nat} {w : List Nat} (h : OkW m w) (hm : m ≤ 100) : intText? (sL w) = some (valW w) := by
  have hl := h.len
  rcases h.cases with ⟨e, v⟩ | ⟨e, v⟩
  · rw [v]
    refine intText_neg (cs := figs w) (by rw [sL_list]; exact e) h.digits h.ne ?_
    rw [sL_len, e, List.length_cons]; lia
  · rw [v]
    have e2 : (sL w).cps.toList = figs w := by rw [sL_list]; exact e
    have := intText_digits (x := sL w) (by rw [e2]; exact h.digits) (by rw [e2]; exact h.ne) (by rw [sL_len, e]; lia)
    rw [e2] at this
    exact this
def Due (w : List Nat) : Prop := (figs w).head? ≠ some 48 ∨ w = [48]
theorem OkW.due {m : Nat} {w : List Nat} (h : OkW m w) (hd : Due w) : numL (valW w) = w := by
  rcases h.cases with ⟨e, v⟩ | ⟨e, v⟩
  · have hl : (figs w).head? ≠ some 48 := hd.elim id fun q => by rw [q] at e; cases e
    have hnl := natL_lean h.digits h.ne (.inl hl)
    rw [v]
    cases q : digitsVal (figs w) with
    | zero =>
      have := val_zero h.digits h.ne q (.inl hl)
      rw [this] at hl
      exact absurd rfl hl
    | succ k =>
      rw [numL_neg, ← q, hnl]
      exact e.symm
  · rw [v, numL_nat]
    have hl : lean (figs w) := hd.imp id fun q => by rw [← e]; exact q
    rw [natL_lean h.digits h.ne hl]
    exact e.symm
theorem OkW.short {m : Nat} {w : List Nat} (h : OkW m w) (hd : ¬ Due w) : (numL (valW w)).length < w.length := by
  rcases h.cases with ⟨e, v⟩ | ⟨e, v⟩
  · have hh : (figs w).head? = some 48 := Decidable.byContradiction fun q => hd (.inl q)
    rw [v]
    cases q : digitsVal (figs w) with
    | zero =>
      show [48].length < _
      rw [e, List.length_cons]
      exact Nat.succ_lt_succ (List.length_pos_iff.mpr h.ne)
    | succ k =>
      rw [numL_neg, ← q, e, List.length_cons, List.length_cons, ← e]
      refine Nat.succ_lt_succ (natL_short h.digits fun z => ?_)
      rcases z with z | z
      · exact z hh
      · rw [z] at q; cases q
  · rw [v, numL_nat]
    have : ¬ lean (figs w) := fun z => hd (z.imp id fun z => e.trans z)
    have := natL_short h.digits this
    rw [← e] at this ⊢
    exact this
theorem OkW.le {m : Nat} {w : List Nat} (h : OkW m w) : (numL (valW w)).length ≤ w.length := by
  by_cases q : Due w
  · rw [h.due q]; exact Nat.le_refl _
  · exact Nat.le_of_lt (h.short q)
end Mine
end

section
set_option autoImplicit false
namespace Mine
open PySem PySem.NumText

theorem join_cons (sep p : List Nat) (ps : List (List Nat)) : joinL sep (p :: ps) = p ++ ps.flatMap fun q => sep ++ q := by
  have key : ∀ (ps : List (List Nat)) (a : Array Nat), ((ps.map sL).foldl (fun acc p => acc ++ (sL sep).cps ++ p.cps) a).toList = a.toList ++ ps.flatMap fun q => sep ++ q := by
    intro ps
    induction ps with
    | nil => intro a; simp
    | cons q ps ih =>
      intro a
      rw [List.map_cons, List.foldl_cons, ih]
      simp [sL]
  show (((ps.map sL).foldl (fun acc p => acc ++ (sL sep).cps ++ p.cps) (sL p).cps)).toList = _
  rw [key, sL_list]
theorem join_splitL (t sep : List Nat) : joinL sep (splitL t sep) = t := by
  unfold joinL splitL
  rw [List.map_map]
  have : (Txt.split (sL t) (sL sep)).map (sL ∘ fun x => x.cps.toList) = Txt.split (sL t) (sL sep) := (List.map_congr_left (g := id) fun q _ => sL_of q).trans (List.map_id _)
  rw [this, join_split, sL_list]
theorem splitL_ne (t sep : List Nat) : splitL t sep ≠ [] := fun h => split_ne (List.map_eq_nil_iff.mp h)
def wLen (sep : List Nat) (ts : List (List Nat)) : Nat := (ts.map fun q => sep.length + q.length).sum
theorem join_len (sep : List Nat) {ts : List (List Nat)} (h : ts ≠ []) : (joinL sep ts).length + sep.length = wLen sep ts := by
  cases ts with
  | nil => exact absurd rfl h
  | cons p ps =>
    rw [join_cons]
    have key : ∀ ps : List (List Nat), (ps.flatMap fun q => sep ++ q).length = wLen sep ps := by
      intro ps
      induction ps with
      | nil => rfl
      | cons q ps ih => simp [wLen] at ih ⊢; lia
    rw [List.length_append, key]
    simp [wLen]; lia
theorem sum_le {α : Type} {f g : α → Nat} : ∀ {L : List α}, (∀ a ∈ L, f a ≤ g a) → (L.map f).sum ≤ (L.map g).sum
  | [], _ => Nat.le_refl _
  | a :: L, h => by
    simp only [List.map_cons, List.sum_cons]
    exact Nat.add_le_add (h a (.head _)) (sum_le fun b hb => h b (.tail _ hb))
theorem sum_eq {α : Type} {f g : α → Nat} : ∀ {L : List α}, (∀ a ∈ L, f a ≤ g a) → (L.map f).sum = (L.map g).sum → ∀ a ∈ L, f a = g a
  | [], _, _, _, hm => nomatch hm
  | b :: L, h, e, a, hm => by
    simp only [List.map_cons, List.sum_cons] at e
    have h1 := h b (.head _)
    have h2 := sum_le fun c hc => h c (.tail _ hc)
    rcases List.mem_cons.mp hm with rfl | hm
    · lia
    · exact sum_eq (fun c hc => h c (.tail _ hc)) (by lia) a hm

def wordsT (t : List Nat) : List (List (List Nat)) := (splitL t [59, 32]).map fun l => splitL l [32]
def showT (R : List (List Int)) : List Nat := joinL [59, 32] (R.map fun r => joinL [32] (r.map numL))
def valsT (t : List Nat) : List (List Int) := (wordsT t).map fun l => l.map valW
theorem words_back (t : List Nat) : joinL [59, 32] ((wordsT t).map (joinL [32])) = t := by
  unfold wordsT
  rw [List.map_map]
  have : (splitL t [59, 32]).map (joinL [32] ∘ fun l => splitL l [32]) = splitL t [59, 32] := (List.map_congr_left (g := id) fun q _ => join_splitL q [32]).trans (List.map_id _)
  rw [this, join_splitL]
theorem words_ne {t : List Nat} : wordsT t ≠ [] := fun h => splitL_ne t _ (List.map_eq_nil_iff.mp h)
theorem line_ne {t : List Nat} {l : List (List Nat)} (h : l ∈ wordsT t) : l ≠ [] := by
  obtain ⟨q, _, rfl⟩ := List.mem_map.mp h
  exact splitL_ne _ _
theorem show_due {t : List Nat} (h : ∀ l ∈ wordsT t, ∀ w ∈ l, numL (valW w) = w) : showT (valsT t) = t := by
  refine Eq.trans ?_ (words_back t)
  unfold showT valsT
  rw [List.map_map]
  congr 1
  refine List.map_congr_left fun l hl => ?_
  show joinL [32] ((l.map valW).map numL) = _
  rw [List.map_map]
  congr 1
  exact (List.map_congr_left (g := id) fun w hw => h l hl w hw).trans (List.map_id _)
theorem due_show {m : Nat} {t : List Nat} (ok : ∀ l ∈ wordsT t, ∀ w ∈ l, OkW m w) (h : showT (valsT t) = t) : ∀ l ∈ wordsT t, ∀ w ∈ l, Due w := by
  have vals : showT (valsT t) = joinL [59, 32] ((wordsT t).map fun l => joinL [32] ((l.map valW).map numL)) := by
    unfold showT valsT; rw [List.map_map]; rfl
  have ll : ∀ l ∈ wordsT t, (joinL [32] ((l.map valW).map numL)).length ≤ (joinL [32] l).length := fun l hl => by
    have hn := line_ne hl
    have e1 := join_len [32] hn
    have e2 := join_len [32] (ts := (l.map valW).map numL) (by simpa using hn)
    have : wLen [32] ((l.map valW).map numL) ≤ wLen [32] l := by
      unfold wLen
      rw [List.map_map, List.map_map]
      exact sum_le fun w hw => Nat.add_le_add_left (ok l hl w hw).le _
    lia
  have e1 := join_len [59, 32] (ts := (wordsT t).map (joinL [32])) (by simpa using words_ne)
  have e2 := join_len [59, 32] (ts := (wordsT t).map fun l => joinL [32] ((l.map valW).map numL)) (by simpa using words_ne)
  rw [words_back] at e1
  rw [← vals, h] at e2
  have e3 := e2.symm.trans e1
  unfold wLen at e3
  rw [List.map_map, List.map_map] at e3
  have e4 := sum_eq (f := fun l => 2 + (joinL [32] ((l.map valW).map numL)).length) (g := fun l => 2 + (joinL [32] l).length) (fun l hl => Nat.add_le_add_left (ll l hl) _) e3
  intro l hl w hw
  have hn := line_ne hl
  have f1 := join_len [32] hn
  have f2 := join_len [32] (ts := (l.map valW).map numL) (by simpa using hn)
  have f3 : wLen [32] ((l.map valW).map numL) = wLen [32] l := by
    rw [← f1, ← f2]; exact congrArg (· + 1) (Nat.add_left_cancel (e4 l hl))
  unfold wLen at f3
  rw [List.map_map, List.map_map] at f3
  have f4 := sum_eq (f := fun w => 1 + (numL (valW w)).length) (g := fun w => 1 + w.length) (fun w hw => Nat.add_le_add_left (ok l hl w hw).le _) f3 w hw
  refine Classical.byContradiction fun q => ?_
  have := (ok l hl w hw).short q
  have f4 : 1 + (numL (valW w)).length = 1 + w.length := f4
  lia
end Mine
end

section
set_option compiler.extract_closed false
open Mine PySem PyProof.Rows
set_option hygiene false
local macro_rules | `(tactic| walk_at "mem") => `(tactic| (repeat (first | exact V.m_fz | apply V.m_tl | exact V.z_fz | apply V.z_tl | exact V.o_hd | apply V.o_tl)))
local macro_rules | `(tactic| walk_at "len") => `(tactic| first | exact mul01R | exact mul01L)
local macro_rules | `(tactic| walk_at "ad") => `(tactic| first | assumption | decide | lia)
local macro_rules | `(tactic| walk_at "side") => `(tactic| first | assumption | exact room_ok (by assumption) (by decide) | exact len_line (by assumption) (by assumption) | exact len_bil (by assumption) (by assumption) | exact three_bil (by assumption) | exact ix_lt (by assumption) | exact ix_eq (by assumption) (by assumption) | exact h_bil (by assumption) | exact h_bil2 (by assumption) (by assumption) | exact cast_nn | exact td_line (by assumption) (by decide) | exact IntMulOk.of_left (by decide) | exact IntMulOk.of_right (by decide) | decide | with_reducible rfl | lia | (simp only [sizeLine, List.length_cons, List.length_nil, List.length_map, List.length_range, List.length_append, List.length_take, List.length_drop]; lia) | (walk_at "len"; done) | skip)
local macro_rules | `(tactic| walk_at "calls") => `(tactic| first | assumption | (first | apply cell_ok | apply more_ok | apply lwo_ok | apply drawn_ok | apply rows_ok) <;> walk_at "ad")
local macro_rules | `(tactic| walk_at "fk") => `(tactic| first | exact V.fk_int | exact V.fk_tI | exact V.fk_bool)
local macro_rules | `(tactic| walk_at "stor") => `(tactic| first | (apply V.o_loc; assumption; rfl) | (apply V.o_own; assumption; rfl))
local macro_rules | `(tactic| walk_at "it") => `(tactic| focus (first
  | (first | (apply V.it_any; apply V.ia_rangeN) | apply V.ia_rangeN | apply V.it_list) <;> walk_at "ev"
  | (first | (apply V.it_any; apply V.ia_range1) | apply V.ia_range1 | apply V.it_tuple | apply V.iw_enumT) <;> walk_at "ev"))
local macro_rules | `(tactic| walk_at "cp") => `(tactic| focus (first
  | exact V.cp_nil
  | exact V.p_hd
  | (apply V.p_tl; walk_at "cp")
  | (apply V.cp_cons <;> walk_at "cp")
  | (show XM _ _ _; walk_at "mem"; done)
  | exact XF.mk (fun _ => rfl)
  | (apply XH.mk; assumption)
  | (apply Side.mk; walk_at "side")
  | walk_at "stor"
  | walk_at "it"
  | assumption
  | exact Look.mk (by decide +kernel)))
local macro_rules | `(tactic| walk_at "ev") => `(tactic| focus (first
  | exact Look.mk rfl
  | (apply Look.mk; assumption)
  | (apply Side.mk; walk_at "side")
  | walk_at "fk"
  | exact V.cint
  | solve | (apply V.name_int; walk_at "mem") | (apply V.name_bool; walk_at "mem") | (apply V.name_tI; walk_at "mem") | (apply V.name; walk_at "mem") | (apply XK.of; assumption; walk_at "calls") | (apply XN.of <;> assumption) | (apply V.gn; assumption; first | rfl | decide +kernel) | (apply XH.mk; assumption) | exact V.cbool | exact V.cnone | exact V.i_nil | exact V.l_nil | exact V.clt | exact V.cle | exact V.cgt | exact V.cge | exact V.ceq | exact V.cne | exact V.cisn | exact V.ceq_rows | exact V.cne_rows
  | apply holdk
  | (apply Imp.mk; intro _; walk_at "ev")
  | (first | apply V.i_cons | apply V.l_cons | apply V.neg | apply V.enot | apply V.sub | apply V.mul | apply V.mod | apply V.fdiv | apply V.lints | apply V.isint | apply V.isbool | apply V.istuple | apply V.islist | apply V.isstr | apply V.abs | apply V.max2 | apply V.min2 | apply V.all | apply V.int_bool | apply V.tuple_k | apply V.boolop | apply V.eand | apply V.eone | apply V.ecmp | apply V.ecmp2) <;> walk_at "ev"
  | (apply V.cstr; exact ⟨by decide +kernel⟩)
  | (show XE _ _ (.Subscript _ (.Slice none (some (.UnaryOp .USub (.Constant (.int 1) _ _) _)) none _) _) _ _; apply V.slice_last <;> walk_at "ev")
  | (first | apply V.add | apply V.rep0 | apply V.pick | apply V.slice_to | apply V.slice_from | apply V.len_k | apply V.list_copy) <;> walk_at "ev"
  | (first | apply V.addt | apply V.slice_toT | apply V.slice_fromT | apply V.item_int | apply V.len_kT) <;> walk_at "ev"
  | (first | apply V.addl | apply V.item_intT) <;> walk_at "ev"
  | (first | apply V.addn | apply V.item_row) <;> walk_at "ev"
  | (first | apply V.call1 | apply V.call2 | apply V.call3 | apply V.call4 | apply V.const) <;> walk_at "ev"
  | ((first | apply V.ceq_nil | apply V.cne_nil); walk_at "fk"; done)
  | (first | apply V.list | apply V.tuple) <;> walk_at "ev"
  | (first | apply V.hold)
  | show (_ : Type)
  | show Type
  | show _ → _))
local macro_rules | `(tactic| walk_at "ts") => `(tactic| focus (first
  | (apply Imp.mk; intro _; walk_at "ts")
  | (apply V.tcmp <;> walk_at "ev")
  | (apply V.tcmp2 <;> walk_at "ev")
  | (apply V.tnot; walk_at "ts")
  | (apply V.tall; walk_at "ts")
  | (apply V.tany; walk_at "ts")
  | exact V.tnil
  | exact V.tonil
  | (apply V.tand <;> walk_at "ts")
  | (apply V.tor <;> walk_at "ts")
  | (apply V.tval <;> walk_at "ev")))
local macro_rules | `(tactic| walk_at "start") => `(tactic| (intro K eG eS eO eR hh; dsimp only at eS; simp only [gStart_cons, gStart_nil, gRest]))
local macro_rules | `(tactic| walk_at "st") => `(tactic| focus (first
  | apply V.keep
  | exact V.p_hd
  | (apply V.p_tl; walk_at "st")
  | walk_at "stor"
  | exact V.o_hd
  | (apply V.o_tl; walk_at "st")
  | walk_at "ev"))
local macro_rules | `(tactic| walk_at "set") => `(tactic| (apply V.set <;> walk_at "st"))
local macro_rules | `(tactic| walk_at "own") => `(tactic| (apply V.set_own <;> walk_at "st"))
local macro_rules | `(tactic| walk_at "ret") => `(tactic| (apply V.sret; walk_at "ev"; exact rets_ok))
local macro_rules | `(tactic| walk_at "reto") => `(tactic| (apply V.sreto; (focus (walk_at "mem"; done)); exact rets_ok))
local macro_rules | `(tactic| walk_at "evc") => `(tactic| (apply V.cast; walk_at "ev"; first | exact ⟨rfl⟩ | skip))

section
set_option autoImplicit false
open PySem PyProof.Rows
namespace Mine
abbrev P14 := PyProof.Rows.recsOf PySem.Challenge.pw_uf010034_14

theorem bits_of_lt {a : Int} {n : Nat} (h : a.natAbs < 2 ^ n) : Builtin.Int.intBits a ≤ n := by
  unfold Builtin.Int.intBits
  split
  · exact Nat.zero_le _
  · rename_i h0
    have hp : a.natAbs ≠ 0 := by simpa using h0
    have := (Nat.log2_lt hp).mpr h
    lia
theorem mulL {a b : Int} (ha : a.natAbs < 2 ^ 63) : IntMulOk a b := .of_left (Nat.le_trans (bits_of_lt ha) (by decide))
theorem mulR {a b : Int} (hb : b.natAbs < 2 ^ 63) : IntMulOk a b := .of_right (Nat.le_trans (bits_of_lt hb) (by decide))

def cell (L : List Int) (k : Int) : Int := if k < L.length then L.getD k.toNat 0 else 0
theorem cell_ok {G : Gx} (H : Has G P14) (L : List Int) (hL : L.length ≤ 63) (k : Int) (hk : 0 ≤ k) : Calls G 1 "_law_cell" [.list (L.map .int), .int k] (.int (cell L k)) true := by
  refine calls_def H "_law_cell" ["_law_script", "_law_k"] [] [] rfl (by decide +kernel) rfl (bd2 fun _ _ => fun _ _ _ => rfl) ?_
  walk_at "start"
  have hl : (L.map PyData.int).length ≤ sizeLine := by simp [sizeLine]; lia
  apply V.sif
  · walk_at "ts"
  · refine ⟨fun h => ?_⟩
    have h' : k < L.length := by simpa using h
    refine V.sret (d := .int (cell L k)) (f := true) ?_ ⟨rfl, fun _ => rfl⟩
    unfold cell; rw [if_pos h']
    walk_at "ev"
  · refine ⟨fun h => ?_⟩
    have h' : ¬ k < L.length := by simpa using h
    refine V.snil ?_
    refine V.sret (d := .int (cell L k)) (f := true) ?_ ⟨rfl, fun _ => rfl⟩
    unfold cell; rw [if_neg h']
    walk_at "ev"
def more (L : List Int) (k : Int) : Int := (cell L k * 48271 + cell L (k % 5) * 16807 + 7919 * k * k + 12345) % 2147483647
theorem more_ok {G : Gx} (H : Has G P14) (L : List Int) (hL : L.length ≤ 63) (k : Int) (hk : 0 ≤ k) (hk2 : k < 1000) : Calls G 2 "_law_more" [.list (L.map .int), .int k] (.int (more L k)) true := by
  refine calls_def H "_law_more" ["_law_script", "_law_k"] ["_law_first"] [] rfl (by decide +kernel) rfl (bd2 fun _ _ => fun _ _ _ => rfl) ?_
  walk_at "start"
  walk_at "set"
  have h2 : IntMulOk (7919 * k) k := mulR (by lia)
  walk_at "ret"
theorem whole_ok {G : Gx} (H : Has G P14) (n : Int) : Calls G 1 "_law_whole" [.int n] (.bool true) true := by
  refine calls_def H "_law_whole" ["_law_found"] [] [] rfl (by decide +kernel) rfl (bd1 fun _ => fun _ _ _ => rfl) ?_
  walk_at "start"
  apply V.sret
  · walk_at "ev"
  · exact ⟨rfl, fun _ => rfl⟩
theorem lwo_ok {G : Gx} (H : Has G P14) (r : List Int) (hr : r.length ≤ 8) (k : Nat) (hk : k ≤ 8) : Calls G 1 "_law_without" [tI r, .int (k : Int)] (tI (wo r k)) true := by
  refine calls_def H "_law_without" ["_law_row", "_law_k"] [] [] rfl (by decide +kernel) rfl (bd2 fun _ _ => fun _ _ _ => rfl) ?_
  walk_at "start"
  have e : wo r k = r.take (k : Int).toNat ++ r.drop ((k : Int) + 1).toNat := by
    have e1 : ((k : Int) + 1).toNat = k + 1 := by lia
    rw [e1]; simp [wo]
  refine V.sret (f := true) ?_ ⟨rfl, fun _ => rfl⟩
  rw [e]
  walk_at "ev"
end Mine
end

section
set_option autoImplicit false
open PySem PyProof.Rows
namespace Mine
theorem pick_sgn (p : Int) (i : Nat) : [p, -p].getD ((i : Int) % 2).toNat 0 = sgn i * p := by
  have h : i % 2 = 0 ∨ i % 2 = 1 := by lia
  rcases h with h | h
  · have e : ((i : Int) % 2).toNat = 0 := by lia
    rw [e]; simp [sgn, h]
  · have e : ((i : Int) % 2).toNat = 1 := by lia
    rw [e]; simp [sgn, h]
abbrev Big : Int := 2 ^ 63 - 1
theorem Rect.at {m n : Nat} {B : Int} {R : List (List Int)} (g : Rect m n B R) {j k : Nat} (hj : j < m) : (R.getD j []).length = n ∧ ((R.getD j []).getD k 0).natAbs ≤ B.natAbs := by
  have hj' : j < R.length := by rw [g.len]; exact hj
  have e : R.getD j [] = R[j] := by simp [List.getD, hj']
  have := g.row R[j] (List.getElem_mem hj')
  rw [e]
  refine ⟨this.1, ?_⟩
  by_cases hk : k < R[j].length
  · have e2 : R[j].getD k 0 = R[j][k] := by simp [List.getD, hk]
    have := this.2 R[j][k] (List.getElem_mem hk)
    rw [e2]; exact nabs_le this
  · have e2 : R[j].getD k 0 = 0 := by simp [List.getD, hk]
    rw [e2]; simp
theorem lbulk_ok {G : Gx} (H : Has G P14) : ∀ (n : Nat) (R : List (List Int)), n ≤ 8 → Grid n Big R → Calls G (n + 2) "_law_bulk" [.list (R.map tI)] (.int (det R)) true := by
  intro n
  induction n with
  | zero =>
    intro R _ g
    have hR : R = [] := List.eq_nil_of_length_eq_zero g.len
    refine calls_def H "_law_bulk" ["_law_rows_here"] ["_law_found", "_law_k", "_law_part"] ["_law_k"] rfl (by decide +kernel) rfl (bd1 fun _ => fun _ _ _ => rfl) ?_
    walk_at "start"
    apply V.sif
    · walk_at "ts"
    · refine ⟨fun _ => ?_⟩
      rw [hR]
      walk_at "ret"
    · refine ⟨fun h => ?_⟩
      rw [hR] at h; cases h
  | succ n ih =>
    intro R hn g
    have hlen := g.len
    refine calls_def H "_law_bulk" ["_law_rows_here"] ["_law_found", "_law_k", "_law_part"] ["_law_k"] rfl (by decide +kernel) rfl (bd1 fun _ => fun _ _ _ => rfl) ?_
    walk_at "start"
    apply V.sif
    · walk_at "ts"
    · refine ⟨fun h => ?_⟩
      cases R with
      | nil => simp at hlen
      | cons => cases h
    refine ⟨fun _ => V.snil ?_⟩
    walk_at "set"
    apply V.forr fun i g => ∃ ok op, g = ([("_law_rows_here", .fz (.list (R.map tI))), ("_law_found", .fz (.int (sumTo (fun k => sgn k * (R.getD 0 []).getD k 0 * det (without (R.drop 1) k)) i))), ("_law_k", ok), ("_law_part", op)] : Sg)
    · walk_at "it"
    · walk_at "stor"
    · exact ⟨fun _ => rfl⟩
    · exact ⟨_, _, rfl⟩
    · rintro i hi g1 ⟨ok, op, rfl⟩
      have hi' : i < n + 1 := by lia
      refine ⟨_, V.p_tl (V.p_tl V.p_hd), ?_⟩
      have h0 := g.rect.at (j := Int.toNat 0) (k := i) (by simp)
      have h1 := h0.1
      have h2 : IntMulOk ((R.getD (Int.toNat 0) []).getD (i : Int).toNat 0) (det (without (R.drop 1) i)) := mulL (Nat.lt_of_le_of_lt h0.2 (by decide))
      have gg : Grid n Big (without (R.drop 1) i) := by
        have : Rect n (n + 1) Big (R.drop 1) := ⟨by simp [hlen], fun r hr => g.row r (List.mem_of_mem_drop hr)⟩
        exact (this.without hi').grid
      walk_at "set"
      · apply V.comp (T := tI) (fun r => wo r i) ["_law_k"] []
        all_goals try walk_at "cp"
        intro K2 eG eS eO eR hh r hr
        have hr' := (g.row r (List.mem_of_mem_drop hr)).1
        simp only [capG]
        walk_at "ev"
      · exact XK.of (by assumption) (ih _ (by lia) gg)
      · lia
      walk_at "set"
      have e : sumTo (fun k => sgn k * (R.getD 0 []).getD k 0 * det (without (R.drop 1) k)) i + [(R.getD (Int.toNat 0) []).getD (i : Int).toNat 0 * det (without (R.drop 1) i), -((R.getD (Int.toNat 0) []).getD (i : Int).toNat 0 * det (without (R.drop 1) i))].getD ((i : Int) % 2).toNat 0 =
          sumTo (fun k => sgn k * (R.getD 0 []).getD k 0 * det (without (R.drop 1) k)) (i + 1) := by
        rw [pick_sgn, sumTo, Int.mul_assoc]
        rfl
      rw [e]
      exact V.snil ⟨_, _, rfl⟩
    · rintro g' ⟨ok, op, rfl⟩
      rw [det_step g]
      have e : R.length = n + 1 := by lia
      rw [e]
      walk_at "ret"
end Mine
end

section
set_option autoImplicit false
open PySem PyProof.Rows
namespace Mine
def drawE (L : List Int) (first most : Int) (k j : Nat) : Int := more L (first + 3 * k + j) / 7 % (2 * most + 1) - most
def drawR (L : List Int) (first most : Int) (n k : Nat) : List Int := (List.range n).map fun j => drawE L first most k j
def drawn (L : List Int) (first most : Int) (n : Nat) : List (List Int) := (List.range n).map fun k => drawR L first most n k
theorem range_app {α : Type} (f : Nat → α) (i : Nat) : (List.range i).map f ++ [f i] = (List.range (i + 1)).map f := by rw [List.range_succ, List.map_append]; rfl
theorem drawn_ok {G : Gx} (H : Has G P14) (L : List Int) (hL : L.length ≤ 63) (first most : Int) (n : Nat) (hf : 0 ≤ first ∧ first ≤ 100) (hm : 1 ≤ most) (hn : n ≤ 3) : Calls G 4 "_law_drawn" [.list (L.map .int), .int first, .int n, .int most] (.list ((drawn L first most n).map tI)) true := by
  refine calls_def H "_law_drawn" ["_law_script", "_law_first", "_law_many", "_law_most"] ["_law_rows_here", "_law_k", "_law_row", "_law_j"] [] rfl (by decide +kernel) rfl (bd4 fun _ _ _ _ => fun _ _ _ => rfl) ?_
  walk_at "start"
  walk_at "own"
  apply V.forr fun i g => ∃ o1 o2 o3, g = ([("_law_script", .fz (.list (L.map .int))), ("_law_first", .fz (.int first)), ("_law_many", .fz (.int n)), ("_law_most", .fz (.int most)), ("_law_rows_here", .ow (.list (((List.range i).map fun k => drawR L first most n k).map tI))), ("_law_k", o1), ("_law_row", o2), ("_law_j", o3)] : Sg)
  · walk_at "it"
  · walk_at "stor"
  · exact ⟨fun _ => rfl⟩
  · exact ⟨_, _, _, rfl⟩
  · rintro i hi g1 ⟨o1, o2, o3, rfl⟩
    refine ⟨_, V.p_tl (V.p_tl (V.p_tl (V.p_tl (V.p_tl V.p_hd)))), ?_⟩
    walk_at "own"
    apply V.forr fun j g => ∃ o3, g = ([("_law_script", .fz (.list (L.map .int))), ("_law_first", .fz (.int first)), ("_law_many", .fz (.int n)), ("_law_most", .fz (.int most)), ("_law_rows_here", .ow (.list (((List.range i).map fun k => drawR L first most n k).map tI))), ("_law_k", .fz (.int i)), ("_law_row", .ow (.list (((List.range j).map fun j => drawE L first most i j).map .int))), ("_law_j", o3)] : Sg)
    · walk_at "it"
    · walk_at "stor"
    · exact ⟨fun _ => rfl⟩
    · exact ⟨_, rfl⟩
    · rintro j hj g1 ⟨o3, rfl⟩
      refine ⟨_, V.p_tl (V.p_tl (V.p_tl (V.p_tl (V.p_tl (V.p_tl (V.p_tl V.p_hd)))))), ?_⟩
      apply V.append (a := drawE L first most i j) <;> walk_at "st"
      rw [range_app]
      exact V.snil ⟨_, rfl⟩
    · rintro g' ⟨o3, rfl⟩
      have hlr : (drawR L first most n i).length = n := by simp [drawR]
      apply V.append (T := tI) (a := drawR L first most n i) <;> walk_at "st"
      rw [range_app]
      exact V.snil ⟨_, _, _, rfl⟩
  · rintro g' ⟨o1, o2, o3, rfl⟩
    walk_at "reto"
end Mine
end

section
set_option autoImplicit false
open PySem PyProof.Rows
namespace Mine
def at2 (R : List (List Int)) (k j : Nat) : Int := (R.getD k []).getD j 0
def mk2 (n : Nat) (f : Nat → Nat → Int) : List (List Int) := (List.range n).map fun k => (List.range n).map fun j => f k j
theorem mk2_grid {n : Nat} {f : Nat → Nat → Int} {B : Int} (h : ∀ k j, k < n → j < n → -B ≤ f k j ∧ f k j ≤ B) : Grid n B (mk2 n f) where
  len := by simp [mk2]
  row := fun r hr => by
    obtain ⟨k, hk, rfl⟩ := List.mem_map.mp hr
    refine ⟨by simp, fun x hx => ?_⟩
    obtain ⟨j, hj, rfl⟩ := List.mem_map.mp hx
    exact h k j (List.mem_range.mp hk) (List.mem_range.mp hj)
theorem Grid.at {n : Nat} {B : Int} {R : List (List Int)} (g : Grid n B R) {k j : Nat} (hk : k < n) (hj : j < n) : -B ≤ at2 R k j ∧ at2 R k j ≤ B := by
  have hk' : k < R.length := by rw [g.len]; exact hk
  have e : R.getD k [] = R[k] := by simp [List.getD, hk']
  obtain ⟨hl, hx⟩ := g.row R[k] (List.getElem_mem hk')
  have hj' : j < R[k].length := by rw [hl]; exact hj
  have e2 : R[k].getD j 0 = R[k][j] := by simp [List.getD, hj']
  unfold at2
  rw [e, e2]
  exact hx _ (List.getElem_mem hj')
theorem Grid.rowlen {n : Nat} {B : Int} {R : List (List Int)} (g : Grid n B R) {k : Nat} (hk : k < n) : (R.getD k []).length = n := by
  have hk' : k < R.length := by rw [g.len]; exact hk
  have e : R.getD k [] = R[k] := by simp [List.getD, hk']
  rw [e]; exact (g.row R[k] (List.getElem_mem hk')).1
theorem Grid.mono {n : Nat} {B C : Int} {R : List (List Int)} (g : Grid n B R) (h : B ≤ C) : Grid n C R := ⟨g.len, fun r hr => ⟨(g.row r hr).1, fun x hx => by have := (g.row r hr).2 x hx; lia⟩⟩
def rowsW1 (n : Nat) (R : List (List Int)) : List (List Int) := mk2 n fun k j => at2 R k j * (if decide ((j : Int) ≥ (k : Int)) then 1 else 0)
def rowsW2 (n : Nat) (most t : Int) (R : List (List Int)) : List (List Int) := R.set 0 ((List.range n).map fun j => max (-most) (min most (at2 R 1 j * t + at2 R 0 j % 3)))
def rowsZ1 (n : Nat) (R : List (List Int)) : List (List Int) := mk2 n fun k j => (if ((j : Int) == (k : Int)) then 1 else 0) * (1 + ((at2 R k j).natAbs : Int))
def rowsZ (n : Nat) (most : Int) (R : List (List Int)) : List (List Int) := (rowsZ1 n R).map fun r => r.map fun x => min most x
def rows1 (L : List Int) (first most : Int) (n : Nat) : List (List Int) := if (cell L first % 5 == 1) = true then rowsW1 n (drawn L first most n) else drawn L first most n
def rows2 (L : List Int) (first most : Int) (n : Nat) : List (List Int) := if ((cell L first % 5 == 2) && (decide ((n : Int) > 1) && true)) = true then rowsW2 n most (1 + cell L first / 5 % 3) (rows1 L first most n) else rows1 L first most n
def rowsF (L : List Int) (first most : Int) (n : Nat) : List (List Int) := if (det (rows2 L first most n) == 0) = true then rowsZ n most (rows2 L first most n) else rows2 L first most n
theorem drawn_grid {L : List Int} {first most : Int} {n : Nat} (hm : 1 ≤ most) : Grid n most (drawn L first most n) := mk2_grid (f := fun k j => drawE L first most k j) fun k j _ _ => by
  unfold drawE
  have := Int.emod_nonneg (more L (first + 3 * k + j) / 7) (show 2 * most + 1 ≠ 0 by lia)
  have := Int.emod_lt_of_pos (more L (first + 3 * k + j) / 7) (show 0 < 2 * most + 1 by lia)
  lia
theorem rows1_grid {L : List Int} {first most : Int} {n : Nat} (hm : 1 ≤ most) : Grid n most (rows1 L first most n) := by
  unfold rows1
  have g := drawn_grid (L := L) (first := first) (n := n) hm
  split
  · refine mk2_grid fun k j hk hj => ?_
    have := g.at hk hj
    split <;> simp <;> omega
  · exact g
theorem rows2_grid {L : List Int} {first most : Int} {n : Nat} (hm : 1 ≤ most) : Grid n most (rows2 L first most n) := by
  unfold rows2
  have g := rows1_grid (L := L) (first := first) (n := n) hm
  split
  · refine ⟨by simp [rowsW2, g.len], fun r hr => ?_⟩
    rcases List.mem_or_eq_of_mem_set hr with h | rfl
    · exact g.row r h
    · refine ⟨by simp, fun x hx => ?_⟩
      obtain ⟨j, hj, rfl⟩ := List.mem_map.mp hx
      exact ⟨Int.le_max_left _ _, Int.max_le.mpr ⟨by lia, Int.min_le_left _ _⟩⟩
  · exact g
theorem rowsZ_eq (n : Nat) (most : Int) (R : List (List Int)) (hm : 1 ≤ most) : rowsZ n most R = mk2 n fun k j => if j = k then min most (1 + ((at2 R k j).natAbs : Int)) else 0 := by
  unfold rowsZ rowsZ1 mk2
  simp only [List.map_map]
  refine List.map_congr_left fun k _ => ?_
  simp only [Function.comp, List.map_map]
  refine List.map_congr_left fun j _ => ?_
  simp only [Function.comp]
  by_cases h : j = k
  · subst h; simp
  · have h' : ¬ (j : Int) = k := by lia
    simp [h, h']; lia
theorem rowsF_good {L : List Int} {first most : Int} {n : Nat} (hm : 1 ≤ most) (hn : N13 n) : Grid n most (rowsF L first most n) ∧ det (rowsF L first most n) ≠ 0 := by
  have hn3 := hn.le
  have hn1 := hn.ge
  unfold rowsF
  have g := rows2_grid (L := L) (first := first) (n := n) hm
  split
  · rw [rowsZ_eq _ _ _ hm]
    refine ⟨mk2_grid fun k j hk hj => ?_, ?_⟩
    · split
      · exact ⟨Int.le_min.mpr ⟨by lia, by lia⟩, Int.min_le_left _ _⟩
      · exact ⟨by lia, by lia⟩
    · generalize rows2 L first most n = R
      have pos : ∀ x : Int, min most (1 + (x.natAbs : Int)) ≠ 0 := fun x => Int.ne_of_gt (Int.lt_of_lt_of_le Int.zero_lt_one (Int.le_min.mpr ⟨hm, by lia⟩))
      rcases hn.out with rfl | rfl | rfl
      · simp only [mk2, List.range_succ, List.range_zero, List.nil_append, List.map_cons, List.map_nil, if_true]
        rw [det1]; exact pos _
      · simp [mk2, List.range_succ, det2]
        exact ⟨pos _, pos _⟩
      · simp [mk2, List.range_succ, det3]
        exact ⟨pos _, pos _, pos _⟩
  · rename_i h
    exact ⟨g, by simpa using h⟩
theorem mul01R {a : Int} {b : Bool} : IntMulOk a (if b then 1 else 0) := mulR (by split <;> decide)
theorem mul01L {a : Int} {b : Bool} : IntMulOk (if b then 1 else 0) a := mulL (by split <;> decide)
end Mine
end

section
set_option autoImplicit false
open PySem PyProof.Rows
namespace Mine
abbrev rG (L : List Int) (first most : Int) (n : Nat) (R : List (List Int)) (w t : Sl) : Sg := [("_law_script", .fz (.list (L.map .int))), ("_law_first", .fz (.int first)), ("_law_many", .fz (.int n)), ("_law_most", .fz (.int most)), ("_law_rows_here", .ow (.list (R.map tI))), ("_law_way", w), ("_law_times", t)]
theorem rows_ok {G : Gx} (H : Has G P14) (L : List Int) (hL : L.length ≤ 63) (first most : Int) (n : Nat) (hf : 0 ≤ first ∧ first ≤ 100) (hm : 1 ≤ most ∧ most ≤ 1000000) (hn : N13 n) :
    Calls G 7 "_law_rows" [.list (L.map .int), .int first, .int n, .int most] (.list ((rowsF L first most n).map tI)) true := by
  have hn3 := hn.le
  have hn1 := hn.ge
  refine calls_def H "_law_rows" ["_law_script", "_law_first", "_law_many", "_law_most"] ["_law_rows_here", "_law_way", "_law_times"] ["_law_rows_here", "_law_times"] rfl (by decide +kernel) rfl (bd4 fun _ _ _ _ => fun _ _ _ => rfl) ?_
  walk_at "start"
  have hm1 := hm.1
  walk_at "own"
  walk_at "set"
  apply V.sif_join fun g => g = rG L first most n (rows1 L first most n) (.fz (.int (cell L first % 5))) .no
  · walk_at "ts"
  · refine ⟨fun h => ?_⟩
    have g0 := drawn_grid (L := L) (first := first) (n := n) hm.1
    have e : rows1 L first most n = rowsW1 n (drawn L first most n) := by unfold rows1; rw [if_pos h]
    revert g0 e
    generalize drawn L first most n = R
    intro g0 e
    have hl := g0.len
    apply V.setc (S := natD) (T := tI) (xs := List.range n) (fun (k : Nat) => (List.range n).map fun j => at2 R k j * (if decide ((j : Int) ≥ (k : Int)) then 1 else 0)) ["_law_rows_here", "_law_many"] ["_law_k"] (.inr rfl)
    all_goals try walk_at "cp"
    · intro K2 eG eS eO eR hh k hk
      have hk := List.mem_range.mp hk
      have hrl := g0.rowlen (k := (k : Int).toNat) (by lia)
      simp only [capG]
      walk_at "ev"
      apply V.comp (S := natD) (T := PyData.int) (xs := List.range n) (fun j => at2 R k j * (if decide ((j : Int) ≥ (k : Int)) then 1 else 0)) ["_law_k", "_law_rows_here"] []
      all_goals try walk_at "cp"
      intro K3 eG eS eO eR hh j hj
      have hj := List.mem_range.mp hj
      simp only [capG]
      walk_at "evc"
    · rw [e]; exact V.snil rfl
  · refine ⟨fun h => V.snil ?_⟩
    show _ = _
    unfold rows1
    rw [if_neg (by rw [h]; decide)]
  rintro _ rfl
  apply V.sif_join fun g => ∃ t, g = rG L first most n (rows2 L first most n) (.fz (.int (cell L first % 5))) t
  · walk_at "ts"
  · refine ⟨fun h => ?_⟩
    have g0 := rows1_grid (L := L) (first := first) (n := n) hm.1
    have e : rows2 L first most n = rowsW2 n most (1 + cell L first / 5 % 3) (rows1 L first most n) := by unfold rows2; rw [if_pos h]
    have hn1 : 1 < n := by simp at h; lia
    revert g0 e
    generalize rows1 L first most n = R
    intro g0 e
    have hl := g0.len
    walk_at "set"
    have hr0 := g0.rowlen (k := (0 : Int).toNat) (by simp; lia)
    have hr1 := g0.rowlen (k := (1 : Int).toNat) (by simp; lia)
    apply V.setitem (T := tI) (a := (List.range n).map fun j => max (-most) (min most (at2 R 1 j * (1 + cell L first / 5 % 3) + at2 R 0 j % 3))) <;> walk_at "st"
    · apply V.comp (S := natD) (T := PyData.int) (xs := List.range n) (fun j => max (-most) (min most (at2 R 1 j * (1 + cell L first / 5 % 3) + at2 R 0 j % 3))) ["_law_most", "_law_rows_here", "_law_times"] []
      all_goals try walk_at "cp"
      intro K3 eG eS eO eR hh j hj
      have hj := List.mem_range.mp hj
      have hq : IntMulOk ((R.getD (1 : Int).toNat []).getD (j : Int).toNat 0) (1 + cell L first / 5 % 3) := mulR (by lia)
      simp only [capG]
      walk_at "evc"
    · rw [e]; exact V.snil ⟨_, rfl⟩
  · refine ⟨fun h => ?_⟩
    have e : rows2 L first most n = rows1 L first most n := by unfold rows2; rw [if_neg (by rw [h]; decide)]
    rw [e]; exact V.snil ⟨_, rfl⟩
  rintro _ ⟨t, rfl⟩
  have g0 := rows2_grid (L := L) (first := first) (n := n) hm.1
  have hb := lbulk_ok H n _ (by lia) (g0.mono (C := Big) (by have := hm.2; show most ≤ 9223372036854775807; lia))
  have hF : rowsF L first most n = if (det (rows2 L first most n) == 0) = true then rowsZ n most (rows2 L first most n) else rows2 L first most n := rfl
  revert g0 hb hF
  generalize rows2 L first most n = R
  intro g0 hb hF
  have hl := g0.len
  apply V.sif_join fun g => ∃ t w, g = rG L first most n (rowsF L first most n) w t
  · walk_at "ts"
  · refine ⟨fun h => ?_⟩
    rw [if_pos h] at hF
    apply V.setc (S := natD) (T := tI) (xs := List.range n) (fun (k : Nat) => (List.range n).map fun (j : Nat) => (if ((j : Int) == (k : Int)) then 1 else 0) * (1 + ((at2 R k j).natAbs : Int))) ["_law_rows_here", "_law_many"] ["_law_k"] (.inr rfl)
    all_goals try walk_at "cp"
    · intro K2 eG eS eO eR hh k hk
      have hk := List.mem_range.mp hk
      have hrl := g0.rowlen (k := (k : Int).toNat) (by lia)
      simp only [capG]
      walk_at "ev"
      apply V.comp (S := natD) (T := PyData.int) (xs := List.range n) (fun (j : Nat) => (if ((j : Int) == (k : Int)) then 1 else 0) * (1 + ((at2 R k j).natAbs : Int))) ["_law_k", "_law_rows_here"] []
      all_goals try walk_at "cp"
      intro K3 eG eS eO eR hh j hj
      have hj := List.mem_range.mp hj
      simp only [capG]
      walk_at "evc"
    · have hz : (rowsZ1 n R).length = n := by simp [rowsZ1, mk2]
      apply V.setc (S := tI) (T := tI) (xs := rowsZ1 n R) (fun r => r.map fun x => min most x) ["_law_most"] [] (.inr rfl)
      all_goals try walk_at "cp"
      · intro K2 eG eS eO eR hh r hr
        have hrl : r.length ≤ 100 := by
          obtain ⟨k, _, rfl⟩ := List.mem_map.mp hr
          simp; lia
        simp only [capG]
        walk_at "ev"
        apply V.comp (S := PyData.int) (T := PyData.int) (xs := r) (fun x => min most x) ["_law_most"] []
        all_goals try walk_at "cp"
        intro K3 eG eS eO eR hh x hx
        simp only [capG]
        walk_at "evc"
      · rw [hF]; exact V.snil ⟨_, _, rfl⟩
  · refine ⟨fun h => ?_⟩
    rw [if_neg (by rw [h]; decide)] at hF
    rw [hF]; exact V.snil ⟨_, _, rfl⟩
  rintro _ ⟨t, w, rfl⟩
  walk_at "reto"
end Mine
end

section
set_option autoImplicit false
open PySem PyProof.Rows
namespace Mine
def amongB (x lo hi : Int) : Bool := decide (lo ≤ x) && decide (x ≤ hi)
theorem among_ok {G : Gx} (H : Has G P14) (x lo hi : Int) : Calls G 1 "is_among" [.int x, .int lo, .int hi] (.bool (amongB x lo hi)) true := by
  refine calls_def H "is_among" ["thing", "least", "most"] [] [] rfl (by decide +kernel) rfl (bd3 fun _ _ _ => fun _ _ _ => rfl) ?_
  walk_at "start"
  walk_at "ret"
def stepB (r : List Int) (n : Nat) (most : Int) : Bool := decide (r.length = n) && r.all fun x => amongB x (0 - most) most
theorem step_ok {G : Gx} (H : Has G P14) (r : List Int) (n : Nat) (most : Int) (hr : r.length ≤ 1000) : Calls G 2 "is_step" [.tuple (r.map .int), .int n, .int most] (.bool (stepB r n most)) true := by
  refine calls_def H "is_step" ["thing", "many", "most"] [] [] rfl (by decide +kernel) rfl (bd3 fun _ _ _ => fun _ _ _ => rfl) ?_
  walk_at "start"
  apply V.sif
  · walk_at "ts"
  · refine ⟨fun h => ?_⟩
    have : r.length ≠ n := by simp [isA, clsOf] at h; lia
    have e : stepB r n most = false := by simp [stepB, this]
    rw [e]
    walk_at "ret"
  · refine ⟨fun h => V.snil ?_⟩
    have : r.length = n := by simp [isA, clsOf] at h; lia
    have e : stepB r n most = (r.map fun x => amongB x (0 - most) most).all id := by simp [stepB, this, List.all_map]
    rw [e]
    apply V.sret
    · walk_at "ev"
      apply V.comp (S := PyData.int) (T := PyData.bool) (fun x => amongB x (0 - most) most) ["most"] []
      all_goals try walk_at "cp"
      intro K2 eG eS eO eR hh x hx
      simp only [capG]
      have := among_ok H x (0 - most) most
      walk_at "ev"
    · exact ⟨rfl, fun _ => rfl⟩
theorem without_ok {G : Gx} (H : Has G P14) (R : List (List Int)) (k : Nat) (hl : R.length ≤ 1000) (hr : ∀ r ∈ R, r.length ≤ 1000) (hk : k ≤ 1000) : Calls G 1 "without" [.list (R.map tI), .int (k : Int)] (.list ((without R k).map tI)) true := by
  refine calls_def H "without" ["rows", "place"] [] [] rfl (by decide +kernel) rfl (bd2 fun _ _ => fun _ _ _ => rfl) ?_
  walk_at "start"
  apply V.sret
  · apply V.comp (S := tI) (T := tI) (fun r => wo r k) ["place"] []
    all_goals try walk_at "cp"
    intro K2 eG eS eO eR hh r hr2
    have := hr r hr2
    simp only [capG]
    walk_at "evc"
  · exact ⟨rfl, fun _ => rfl⟩
theorem zipIdx_get (r : List Int) (i : Nat) (h : i < r.zipIdx.length) : r.zipIdx[i] = (r.getD i 0, i) := by
  have h' : i < r.length := by simpa using h
  rw [List.getElem_zipIdx]; simp [List.getD, h']
theorem sgn_small (i : Nat) : (sgn i).natAbs ≤ 1 := by unfold sgn; split <;> simp
theorem sgn_succ (i : Nat) : 0 - sgn i = sgn (i + 1) := by
  unfold sgn
  have : i % 2 = 0 ∨ i % 2 = 1 := by lia
  rcases this with h | h
  · have : (i + 1) % 2 = 1 := by lia
    simp [h, this]
  · have : (i + 1) % 2 = 0 := by lia
    simp [h, this]
theorem bulkof_ok {G : Gx} (H : Has G P14) : ∀ (n : Nat) (R : List (List Int)), n ≤ 8 → Grid n Big R → Calls G (n + 2) "bulk_of" [.list (R.map tI)] (.int (det R)) true := by
  intro n
  induction n with
  | zero =>
    intro R _ g
    have hlen := g.len
    have hR : R = [] := List.eq_nil_of_length_eq_zero g.len
    refine calls_def H "bulk_of" ["rows"] ["total", "sign", "place", "number"] [] rfl (by decide +kernel) rfl (bd1 fun _ => fun _ _ _ => rfl) ?_
    walk_at "start"
    apply V.sif
    · walk_at "ts"
    · refine ⟨fun _ => ?_⟩
      rw [hR]
      walk_at "ret"
    · refine ⟨fun h => ?_⟩
      rw [hlen] at h; cases h
  | succ n ih =>
    intro R hn g
    have hlen := g.len
    refine calls_def H "bulk_of" ["rows"] ["total", "sign", "place", "number"] [] rfl (by decide +kernel) rfl (bd1 fun _ => fun _ _ _ => rfl) ?_
    walk_at "start"
    apply V.sif
    · walk_at "ts"
    · refine ⟨fun h => ?_⟩
      rw [hlen] at h; simp at h; lia
    refine ⟨fun _ => V.snil ?_⟩
    have h0 := g.rect.at (j := Int.toNat 0) (k := 0) (by simp)
    have h1 := h0.1
    walk_at "set"
    walk_at "set"
    apply V.forw fun i g => ∃ o1 o2, g = ([("rows", .fz (.list (R.map tI))), ("total", .fz (.int (sumTo (fun k => sgn k * (R.getD 0 []).getD k 0 * det (without (R.drop 1) k)) i))), ("sign", .fz (.int (sgn i))), ("place", o1), ("number", o2)] : Sg)
    · walk_at "it"
    · walk_at "cp"
    · walk_at "stor"
    · walk_at "stor"
    · exact ⟨fun _ => rfl⟩
    · exact ⟨_, _, rfl⟩
    · rintro i hi g1 ⟨o1, o2, rfl⟩
      have hi' : i < n + 1 := by rw [List.length_zipIdx] at hi; lia
      refine ⟨_, _, V.p_tl (V.p_tl (V.p_tl V.p_hd)), V.p_tl (V.p_tl (V.p_tl (V.p_tl V.p_hd))), ?_⟩
      have hx := (g.rect.at (j := 0) (k := i) (by lia)).2
      have hB : Big.natAbs = 9223372036854775807 := by decide
      rw [hB] at hx
      have gg : Grid n Big (without (R.drop 1) i) := by
        have : Rect n (n + 1) Big (R.drop 1) := ⟨by simp [hlen], fun r hr => g.row r (List.mem_of_mem_drop hr)⟩
        exact (this.without hi').grid
      have hw := without_ok H (R.drop (Int.toNat 1)) i (by simp [hlen]; lia) (fun r hr => by have := (g.row r (List.mem_of_mem_drop hr)).1; lia) (by lia)
      have hb := ih _ (by lia) gg
      simp only [zipIdx_get]
      have hs := sgn_small i
      have m1 : IntMulOk (sgn i) ((R.getD 0 []).getD i 0) := mulL (by lia)
      have m2 : IntMulOk (sgn i * (R.getD 0 []).getD i 0) (det (without (R.drop 1) i)) := mulL (by
        rw [Int.natAbs_mul]
        have : (sgn i).natAbs * ((R.getD 0 []).getD i 0).natAbs ≤ 1 * ((R.getD 0 []).getD i 0).natAbs := Nat.mul_le_mul_right _ hs
        lia)
      walk_at "set"
      walk_at "set"
      rw [sgn_succ]
      exact V.snil ⟨_, _, rfl⟩
    · rintro g' ⟨o1, o2, rfl⟩
      rw [det_step g]
      have e : (R.getD (Int.toNat 0) []).zipIdx.length = n + 1 := by rw [List.length_zipIdx]; exact h1
      rw [e]
      walk_at "ret"
end Mine
end

section
set_option autoImplicit false
open PySem PyProof.Rows
namespace Mine
theorem stepB_row {n : Nat} {B : Int} {R : List (List Int)} (g : Grid n B R) : ∀ r ∈ R, stepB r n B = true := fun r hr => by
  obtain ⟨h1, h2⟩ := g.row r hr
  simp only [stepB, h1, decide_true, Bool.true_and, List.all_eq_true, amongB, Bool.and_eq_true, decide_eq_true_eq]
  exact fun x hx => by have := h2 x hx; lia
theorem needl_ok {G : Gx} (H : Has G P14) (N : Nums G) (n : Nat) (R : List (List Int)) (hn : N13 n) (g : Grid n 1000000 R) : Calls G 3 "need_list" [.list (R.map tI)] .none true := by
  have hn3 := hn.le
  have hn1 := hn.ge
  have hl := g.len
  refine calls_def H "need_list" ["rows"] [] [] rfl (by decide +kernel) rfl (bd1 fun _ => fun _ _ _ => rfl) ?_
  walk_at "start"
  have n1 := N.rows
  have n2 := N.great
  apply V.sif
  · walk_at "ts"
  · refine ⟨fun h => ?_⟩
    simp [isA, clsOf] at h; lia
  refine ⟨fun _ => V.snil ?_⟩
  apply V.sif
  · walk_at "ts"
    apply V.comp (S := tI) (T := PyData.bool) (fun r => stepB r R.length 1000000) ["rows"] []
    all_goals try walk_at "cp"
    intro K2 eG eS eO eR hh r hr
    have hr1 := (g.row r hr).1
    have hs := step_ok H r R.length 1000000 (by lia)
    simp only [capG]
    walk_at "ev"
  · refine ⟨fun h => ?_⟩
    have : (List.map (fun r => stepB r R.length 1000000) R).all id = true := by
      rw [List.all_map, List.all_eq_true]
      intro r hr
      have := stepB_row g r hr
      rw [hl]; exact this
    rw [this] at h; cases h
  · exact ⟨fun _ => V.snil (V.snil rfl)⟩
theorem bulk_ok {G : Gx} (H : Has G P14) (N : Nums G) (n : Nat) (R : List (List Int)) (hn : N13 n) (g : Grid n 1000000 R) : Calls G 6 "bulk" [.list (R.map tI)] (.int (det R)) true := by
  have hn3 := hn.le
  have hn1 := hn.ge
  refine calls_def H "bulk" ["rows"] [] [] rfl (by decide +kernel) rfl (bd1 fun _ => fun _ _ _ => rfl) ?_
  walk_at "start"
  have h1 := needl_ok H N n R hn g
  have h2 := bulkof_ok H n R (by lia) (g.mono (by decide))
  apply V.sexpr
  · walk_at "ev"
  · exact ⟨rfl⟩
  walk_at "ret"
end Mine
end

section
set_option autoImplicit false
open PySem PyProof.Rows
namespace Mine
theorem needr_ok {G : Gx} (H : Has G P14) (N : Nums G) (n : Nat) (R : List (List Int)) (hn : N13 n) (g : Grid n 1000000 R) (hd : det R ≠ 0) : Calls G 7 "need_rows" [.list (R.map tI)] .none true := by
  have hn3 := hn.le
  have hn1 := hn.ge
  refine calls_def H "need_rows" ["rows"] [] [] rfl (by decide +kernel) rfl (bd1 fun _ => fun _ _ _ => rfl) ?_
  walk_at "start"
  have h1 := bulk_ok H N n R hn g
  apply V.sif
  · walk_at "ts"
  · refine ⟨fun h => ?_⟩
    simp at h; exact absurd h hd
  · exact ⟨fun _ => V.snil (V.snil rfl)⟩
end Mine
end

section
set_option autoImplicit false
open PySem PyProof.Rows
namespace Mine
def idD (d : D) : D := d
theorem map_idD (ds : List D) : ds.map idD = ds := by
  rw [show idD = id from rfl, List.map_id]
def amongD (d : D) (lo hi : Int) : Bool := match d with
  | .int x => amongB x lo hi
  | _ => false
theorem among_any {G : Gx} (H : Has G P14) (d : D) (hd : notDict d = true) (lo hi : Int) : Calls G 1 "is_among" [d, .int lo, .int hi] (.bool (amongD d lo hi)) true := by
  by_cases hi1 : isA d "int" = true
  · by_cases hb1 : isA d "bool" = true
    · have e : amongD d lo hi = false := by cases d <;> first | rfl | (simp [isA, clsOf] at hb1)
      rw [e]
      refine calls_def H "is_among" ["thing", "least", "most"] [] [] rfl (by decide +kernel) rfl (bd3 fun _ _ _ => fun _ _ _ => rfl) ?_
      walk_at "start"
      refine V.sret (d := .bool false) (f := true) ?_ ⟨rfl, fun _ => rfl⟩
      refine V.cast (d := .bool (isA d "int" && (!isA d "bool" && false))) ?_ ⟨by simp⟩
      apply V.boolop
      apply V.eand
      · walk_at "ev"
      refine ⟨fun _ => ?_⟩
      apply V.eand
      · walk_at "ev"
      · exact ⟨fun h => by rw [hb1] at h; cases h⟩
    · have e : ∃ x, d = .int x := by cases d <;> first | exact ⟨_, rfl⟩ | (simp [isA, clsOf] at hi1 hb1)
      obtain ⟨x, rfl⟩ := e
      exact among_ok H x lo hi
  · have e : amongD d lo hi = false := by cases d <;> first | rfl | (simp [isA, clsOf] at hi1)
    rw [e]
    refine calls_def H "is_among" ["thing", "least", "most"] [] [] rfl (by decide +kernel) rfl (bd3 fun _ _ _ => fun _ _ _ => rfl) ?_
    walk_at "start"
    refine V.sret (d := .bool false) (f := true) ?_ ⟨rfl, fun _ => rfl⟩
    refine V.cast (d := .bool (isA d "int" && false)) ?_ ⟨by simp⟩
    apply V.boolop
    apply V.eand
    · walk_at "ev"
    · exact ⟨fun h => absurd h hi1⟩
def stepD (d : D) (n : Nat) (most : Int) : Bool := match d with
  | .tuple ds => decide (ds.length = n) && ds.all fun x => amongD x (0 - most) most
  | _ => false
inductive Tame : D → Prop
  | tup {ds : List D} : ds.length ≤ 1000 → (∀ x ∈ ds, notDict x = true) → Tame (.tuple ds)
  | oth {d : D} : isA d "tuple" = false → notDict d = true → Tame d
theorem step_any {G : Gx} (H : Has G P14) (d : D) (t : Tame d) (n : Nat) (most : Int) : Calls G 2 "is_step" [d, .int n, .int most] (.bool (stepD d n most)) true := by
  cases t with
  | @tup ds hr hx =>
    obtain ⟨es, rfl⟩ : ∃ es : List D, ds = es.map idD := ⟨ds, (map_idD ds).symm⟩
    rw [List.length_map] at hr
    refine calls_def H "is_step" ["thing", "many", "most"] [] [] rfl (by decide +kernel) rfl (bd3 fun _ _ _ => fun _ _ _ => rfl) ?_
    walk_at "start"
    apply V.sif
    · walk_at "ts"
    · refine ⟨fun h => ?_⟩
      have : es.length ≠ n := by simp [isA, clsOf] at h; lia
      have e : stepD (.tuple (es.map idD)) n most = false := by simp [stepD, this]
      rw [e]
      walk_at "ret"
    · refine ⟨fun h => V.snil ?_⟩
      have : es.length = n := by simp [isA, clsOf] at h; lia
      have e : stepD (.tuple (es.map idD)) n most = (es.map fun x => amongD x (0 - most) most).all id := by simp [stepD, this, List.all_map, idD, Function.comp_def]
      rw [e]
      apply V.sret
      · walk_at "ev"
        apply V.comp (S := idD) (T := PyData.bool) (fun x => amongD x (0 - most) most) ["most"] []
        all_goals try walk_at "cp"
        intro K2 eG eS eO eR hh x hx2
        simp only [capG]
        have := among_any H x (hx x (by rw [map_idD]; exact hx2)) (0 - most) most
        unfold idD
        walk_at "ev"
      · exact ⟨rfl, fun _ => rfl⟩
  | @oth d h1 h2 =>
    have e : stepD d n most = false := by cases d <;> first | rfl | (simp [isA, clsOf] at h1)
    rw [e]
    refine calls_def H "is_step" ["thing", "many", "most"] [] [] rfl (by decide +kernel) rfl (bd3 fun _ _ _ => fun _ _ _ => rfl) ?_
    walk_at "start"
    apply V.sif (b := !isA d "tuple" || false)
    · apply V.tany
      apply V.tor
      · walk_at "ts"
      · exact ⟨fun h => by rw [h1] at h; cases h⟩
    · exact ⟨fun _ => by walk_at "ret"⟩
    · exact ⟨fun h => by rw [h1] at h; cases h⟩
def listD (d : D) : Bool := match d with
  | .list rows => decide (1 ≤ rows.length) && decide (rows.length ≤ 3) && rows.all fun r => stepD r rows.length 1000000
  | _ => false
inductive TameL : D → Prop
  | lst {ds : List D} : ds.length ≤ 1000 → (∀ x ∈ ds, Tame x) → TameL (.list ds)
  | oth {d : D} : isA d "list" = false → notDict d = true → TameL d
theorem needl_raises {G : Gx} (H : Has G P14) (N : Nums G) {C : Addr} {bm : List Value} (c : Cls G "BadRows" C bm) (d : D) (t : TameL d) (hd : listD d = false) : Raises G 4 "need_list" [d] C := by
  refine raises_def H "need_list" ["rows"] [] [] rfl (by decide +kernel) rfl (bd1 fun _ => fun _ _ _ => rfl) ?_
  intro K eG eS eO eR hh
  dsimp only at eS
  simp only [gStart_cons, gStart_nil, gRest]
  have n1 := N.rows
  have n2 := N.great
  have c' : XCl K.G "BadRows" C bm := ⟨eG ▸ c⟩
  cases t with
  | @lst ds hl hx =>
    obtain ⟨es, rfl⟩ : ∃ es : List D, ds = es.map idD := ⟨ds, (map_idD ds).symm⟩
    rw [List.length_map] at hl
    apply V.rif
    · walk_at "ts"
    · refine ⟨fun _ => ?_⟩
      apply V.rraise _ c' <;> walk_at "ev"
    refine ⟨fun h => ?_⟩
    apply V.rif
    · walk_at "ts"
      apply V.comp (S := idD) (T := PyData.bool) (fun r => stepD r es.length 1000000) ["rows"] []
      all_goals try walk_at "cp"
      intro K2 eG eS eO eR hh r hr
      have hs := step_any H r (hx r (by rw [map_idD]; exact hr)) es.length 1000000
      simp only [capG]
      unfold idD
      walk_at "ev"
    · refine ⟨fun _ => ?_⟩
      apply V.rraise _ c' <;> walk_at "ev"
    · refine ⟨fun h2 => ?_⟩
      exfalso
      have e1 : listD (.list (es.map idD)) = (decide (1 ≤ es.length) && decide (es.length ≤ 3) && es.all fun r => stepD r es.length 1000000) := by simp only [listD, map_idD]
      rw [e1] at hd
      have h3 : 1 ≤ es.length ∧ es.length ≤ 3 := by simp [isA, clsOf] at h; lia
      have h4 : (es.all fun r => stepD r es.length 1000000) = true := by simpa [List.all_map, Function.comp_def] using h2
      rw [h4] at hd
      simp at hd
      lia
  | @oth d h1 h2 =>
    apply V.rif (b := !isA d "list" || false)
    · apply V.tany
      apply V.tor
      · walk_at "ts"
      · exact ⟨fun h => by rw [h1] at h; cases h⟩
    · refine ⟨fun _ => ?_⟩
      apply V.rraise _ c' <;> walk_at "ev"
    · exact ⟨fun h => by rw [h1] at h; cases h⟩
theorem bulk_raises {G : Gx} (H : Has G P14) {C : Addr} {d : D} (h : Raises G 4 "need_list" [d] C) : Raises G 5 "bulk" [d] C := by
  refine raises_def H "bulk" ["rows"] [] [] rfl (by decide +kernel) rfl (bd1 fun _ => fun _ _ _ => rfl) ?_
  intro K eG eS eO eR hh
  dsimp only at eS
  simp only [gStart_cons, gStart_nil, gRest]
  apply V.rexpr
  · apply V.rcall1 (k := 4)
    · walk_at "ev"
    · walk_at "ev"
    · exact ⟨eG ▸ h⟩
    all_goals walk_at "ev"
  · exact ⟨rfl⟩
end Mine
end

section
set_option autoImplicit false
open PySem PyProof.Rows
namespace Mine
structure Errs (G : Gx) (Cg Cr Cp Cw Cs Ct Cm : Addr) : Prop where
  grid : Cls G "GridError" Cg vmro
  rows : Cls G "BadRows" Cr (.ref Cg :: vmro)
  point : Cls G "BadPoint" Cp (.ref Cg :: vmro)
  weights : Cls G "BadWeights" Cw (.ref Cg :: vmro)
  spot : Cls G "BadSpot" Cs (.ref Cg :: vmro)
  text : Cls G "BadText" Ct (.ref Cg :: vmro)
  many : Cls G "TooMany" Cm (.ref Cg :: vmro)
abbrev isOf (C Cg CX : Addr) : Bool := (Value.ref C :: .ref Cg :: vmro).contains (.ref CX)
theorem isOf_self {C Cg : Addr} : isOf C Cg C = true := by simp [isOf]
theorem isOf_ne {C Cg CX : Addr} (h1 : CX ≠ C) (h2 : CX ≠ Cg) : isOf C Cg CX = false := by
  have h3 : (Value.ref CX == Value.ref C) = false := by rw [beq_eq_false_iff_ne]; intro e; exact h1 (Value.ref.inj e)
  have h4 : (Value.ref CX == Value.ref Cg) = false := by rw [beq_eq_false_iff_ne]; intro e; exact h2 (Value.ref.inj e)
  unfold isOf
  rw [List.contains_cons, List.contains_cons, h3, h4]
  rfl
def nameAt (j : Nat) : Str := (["rows", "point", "weights", "spot", "text", "many"] : List Str).getD j "rows"
local macro_rules | `(tactic| walk_at "nx") => `(tactic| focus (first
  | exact V.k_nil
  | (apply V.k_cons <;> walk_at "nx")
  | (apply V.isx <;> walk_at "nx")
  | (apply V.isve <;> walk_at "nx")
  | (apply V.count_true <;> walk_at "nx")
  | exact XAb.mk (fun _ _ => rfl)
  | assumption
  | walk_at "ev"))
theorem names_ok {G : Gx} (H : Has G P14) {Cg Cr Cp Cw Cs Ct Cm C : Addr} (E : Errs G Cg Cr Cp Cw Cs Ct Cm) (c : ClsObj G.base C (.ref Cg :: vmro)) (B : List Bool) (hB : B = [isOf C Cg Cr, isOf C Cg Cp, isOf C Cg Cw, isOf C Cg Cs] ++ [isOf C Cg Ct, isOf C Cg Cm])
    (j : Nat) (hc : B.count true = 1) (hj : B[j]? = some true) (hno : ∀ m, m < j → B[m]? = some false) (hj6 : j < 6) : CallsH G 1 "_law_names" [excD C] (.tuple [.str (nameAt j)]) true := by
  refine calls_defH H "_law_names" ["_law_e"] ["_law_some"] [] rfl (by decide +kernel) rfl (bd1 fun _ => fun _ _ _ => rfl) ?_
  intro K eG eS eO eR
  dsimp only at eS
  simp only [gStart_cons, gStart_nil, gRest]
  have c' : ClsObj K.G.base C (.ref Cg :: vmro) := eG ▸ c
  have c1 : XCl K.G "BadRows" Cr (.ref Cg :: vmro) := ⟨eG ▸ E.rows⟩
  have c2 : XCl K.G "BadPoint" Cp (.ref Cg :: vmro) := ⟨eG ▸ E.point⟩
  have c3 : XCl K.G "BadWeights" Cw (.ref Cg :: vmro) := ⟨eG ▸ E.weights⟩
  have c4 : XCl K.G "BadSpot" Cs (.ref Cg :: vmro) := ⟨eG ▸ E.spot⟩
  have c5 : XCl K.G "BadText" Ct (.ref Cg :: vmro) := ⟨eG ▸ E.text⟩
  have c6 : XCl K.G "TooMany" Cm (.ref Cg :: vmro) := ⟨eG ▸ E.many⟩
  apply V.set (d := .list ([isOf C Cg Cr, isOf C Cg Cp, isOf C Cg Cw, isOf C Cg Cs].map .bool))
  · apply V.list
    · walk_at "nx"
    · walk_at "ev"
  · walk_at "st"
  · walk_at "st"
  · walk_at "st"
  apply V.set (d := .list (([isOf C Cg Cr, isOf C Cg Cp, isOf C Cg Cw, isOf C Cg Cs] ++ [isOf C Cg Ct, isOf C Cg Cm]).map .bool))
  · apply V.addl
    · walk_at "ev"
    · apply V.list
      · walk_at "nx"
      · walk_at "ev"
    · walk_at "ev"
    · walk_at "ev"
  · walk_at "st"
  · walk_at "st"
  · walk_at "st"
  rw [← hB]
  apply V.sif (b := !true || ((((B.count true : Nat) : Int) != 1) || false))
  · apply V.tany
    apply V.tor
    · apply V.tnot
      apply V.tval
      · walk_at "nx"
      · walk_at "ev"
    refine ⟨fun _ => ?_⟩
    apply V.tor
    · apply V.tcmp
      · walk_at "nx"
      · walk_at "ev"
      · walk_at "ev"
      · walk_at "ev"
    · exact ⟨fun _ => V.tonil⟩
  · exact ⟨fun h => by rw [hc] at h; cases h⟩
  refine ⟨fun _ => V.snil ?_⟩
  apply V.sret (d := .tuple [.str (nameAt j)]) (f := true)
  · apply V.up (f := false)
    · apply V.tuple
      · apply V.l_cons (f := false) (g := true)
        · apply V.item_list (ds := (["rows", "point", "weights", "spot", "text", "many"] : List Str).map .str) (k := (j : Nat))
          · apply V.list
            · walk_at "ev"
            · walk_at "ev"
          · apply V.index_true
            · exact XAb.mk (fun _ _ => rfl)
            · walk_at "ev"
            · walk_at "ev"
            · exact ⟨by rw [hB]; simpa using hj6, by lia⟩
            · exact ⟨hj⟩
            · exact ⟨hno⟩
            · walk_at "ev"
            · walk_at "ev"
          · exact ⟨by lia, by lia⟩
          · refine ⟨?_⟩
            have e : ((j : Nat) : Int).toNat = j := by lia
            have e2 : (["rows", "point", "weights", "spot", "text", "many"] : List Str)[j]? = some (nameAt j) := by unfold nameAt; simp [List.getD, hj6]
            rw [e, List.getElem?_map, e2]
            rfl
          · walk_at "ev"
        · exact V.l_nil
        · walk_at "ev"
      · walk_at "ev"
    · exact .tuple fun d hd => by
        obtain rfl := List.mem_singleton.mp hd
        exact .str _
  · exact ⟨⟨rfl, fun _ => rfl⟩⟩
end Mine
end

section
set_option autoImplicit false
open PySem PyProof.Rows
namespace Mine
theorem needr_zero {G : Gx} (H : Has G P14) (N : Nums G) {C : Addr} {bm : List Value} (c : Cls G "BadRows" C bm) (n : Nat) (R : List (List Int)) (hn : N13 n) (g : Grid n 1000000 R) (hd : det R = 0) : Raises G 7 "need_rows" [.list (R.map tI)] C := by
  have hn3 := hn.le
  refine raises_def H "need_rows" ["rows"] [] [] rfl (by decide +kernel) rfl (bd1 fun _ => fun _ _ _ => rfl) ?_
  intro K eG eS eO eR hh
  dsimp only at eS
  simp only [gStart_cons, gStart_nil, gRest]
  have c' : XCl K.G "BadRows" C bm := ⟨eG ▸ c⟩
  have h1 := bulk_ok H N n R hn g
  apply V.rif
  · walk_at "ts"
  · refine ⟨fun _ => ?_⟩
    apply V.rraise _ c' <;> walk_at "ev"
  · refine ⟨fun h => ?_⟩
    rw [hd] at h; cases h
end Mine
end

section
set_option autoImplicit false
open PySem PyProof.Rows PySem.W
namespace Mine
theorem ltuple_ok {G : Gx} (H : Has G P14) (r : List Int) (n : Nat) (hr : r.length = n) (hn : n ≤ 100) : Calls G 2 "_law_tuple" [tI r, .int n] (.bool true) true := by
  refine calls_def H "_law_tuple" ["_law_found", "_law_many"] [] [] rfl (by decide +kernel) rfl (bd2 fun _ _ => fun _ _ _ => rfl) ?_
  walk_at "start"
  apply V.sif
  · walk_at "ts"
  · refine ⟨fun h => ?_⟩
    simp [isA, clsOf, hr] at h
  refine ⟨fun _ => V.snil ?_⟩
  apply V.sret
  · apply V.ecmp
    · apply V.compf (fr := true) (S := PyData.int) (T := PyData.int) (xs := r) (fun x => !true) (fun x => x) [] []
      all_goals try walk_at "cp"
      intro K2 eG eS eO eR hh x hx
      have := whole_ok H x
      simp only [capG]
      exact ⟨by walk_at "ts", fun h => nomatch h⟩
    · walk_at "ev"
    · exact V.ceq_nil V.fk_int
    · walk_at "ev"
  · exact ⟨⟨by simp, fun _ => rfl⟩⟩
theorem lrows_told {G : Gx} (H : Has G P14) (F : List (List Int)) (n : Nat) (hF : F.length = n) (w : ∀ r ∈ F, r.length = n) (hn : n ≤ 100) : Calls G 3 "_law_rows_told" [.list (F.map tI), .int n] (.bool true) true := by
  refine calls_def H "_law_rows_told" ["_law_found", "_law_many"] [] [] rfl (by decide +kernel) rfl (bd2 fun _ _ => fun _ _ _ => rfl) ?_
  walk_at "start"
  apply V.sif
  · walk_at "ts"
  · refine ⟨fun h => ?_⟩
    simp [isA, clsOf, hF] at h
  refine ⟨fun _ => V.snil ?_⟩
  apply V.sret
  · apply V.ecmp
    · apply V.compf (fr := true) (S := tI) (T := tI) (xs := F) (fun x => !true) (fun x => x) ["_law_many"] []
      all_goals try walk_at "cp"
      intro K2 eG eS eO eR hh r hr
      have := ltuple_ok H r n (w r hr) hn
      simp only [capG]
      exact ⟨by walk_at "ts", fun h => nomatch h⟩
    · walk_at "ev"
    · exact V.ceq_nil V.fk_tI
    · walk_at "ev"
  · exact ⟨⟨by simp, fun _ => rfl⟩⟩
end Mine
end

open PySem.W
local macro_rules | `(tactic| walk_at "ev") => `(tactic| focus (first
  | exact V.tm_name
  | exact V.cstrL (a := []) ⟨by decide +kernel⟩ ⟨by decide +kernel⟩
  | exact V.cstrL (a := [45]) ⟨by decide +kernel⟩ ⟨by decide +kernel⟩
  | exact V.ab_const
  | exact XAb.mk fun _ _ => rfl
  | exact V.ceqs
  | exact V.cnes
  | exact V.cins
  | exact V.cnins
  | solve | (apply V.name_s; walk_at "mem") | (apply XSg.of <;> assumption)
  | (first | apply V.sto | apply V.sfrom | apply V.lens | apply V.consts | apply V.adds | apply V.intstr | apply V.strint) <;> walk_at "ev"))

section
set_option autoImplicit false
open PySem PyProof.Rows PySem.W
namespace Mine
structure Sgs (G : Gx) : Prop where
  most : XN G "MOST_SIGNS" 8
  figs : XSg G "FIGURES" figures
def figB (m : Nat) (w : List Nat) : Bool := !decide (figs w = []) && decide ((figs w).length ≤ m) && (figs w).all fun c => decide (c ∈ figures)
theorem figB_ok {m : Nat} {w : List Nat} : figB m w = true ↔ OkW m w := by
  simp only [figB, Bool.and_eq_true, Bool.not_eq_true', decide_eq_false_iff_not, decide_eq_true_eq, List.all_eq_true]
  exact ⟨fun ⟨⟨a, b⟩, c⟩ => ⟨a, b, c⟩, fun h => ⟨⟨h.ne, h.len⟩, h.all⟩⟩
theorem OkW.wlen {m : Nat} {w : List Nat} (h : OkW m w) : w.length ≤ m + 1 := by
  have hl := h.len
  rcases h.cases with ⟨e, _⟩ | ⟨e, _⟩
  · rw [e, List.length_cons]; exact Nat.succ_le_succ hl
  · rw [e]; exact Nat.le_succ_of_le hl
theorem numin_ok {G : Gx} (H : Has G P14) (S : Sgs G) (w : List Nat) (ok : OkW 8 w) (hl : w.length ≤ 1000) : Calls G 1 "number_in" [tS w] (.int (valW w)) true := by
  refine calls_def H "number_in" ["word"] ["figures"] [] rfl (by decide +kernel) rfl (bd1 fun _ => fun _ _ _ => rfl) ?_
  walk_at "start"
  have n1 := S.most
  have n2 := S.figs
  walk_at "set"
  apply V.sif_join fun g => g = ([("word", .fz (tS w)), ("figures", .fz (tS (figs w)))] : Sg)
  · apply V.tcmp
    · walk_at "ev"
    · exact V.cstrL (a := [45]) ⟨by decide +kernel⟩ ⟨by decide +kernel⟩
    · walk_at "ev"
    all_goals walk_at "ev"
  · refine ⟨fun h => ?_⟩
    have h : w.take 1 = [45] := by simpa using h
    have e : figs w = w.drop 1 := by unfold figs; rw [if_pos h]
    rw [e]
    walk_at "set"
    exact V.snil rfl
  · refine ⟨fun h => V.snil ?_⟩
    have h : ¬ w.take 1 = [45] := by simpa using h
    have e : figs w = w := by unfold figs; rw [if_neg h]
    show _ = _
    rw [e]
  rintro _ rfl
  have fl := ok.len
  have hf : PyData.canLay0 (tS figures) = true := by decide +kernel
  have hi := ok.int (by decide)
  have hl6 : w.length ≤ 640 := Nat.le_trans ok.wlen (by decide)
  apply V.sif
  · apply V.tany
    apply V.tor
    · walk_at "ts"
    · refine ⟨fun _ => ?_⟩
      apply V.tor
      · walk_at "ts"
      · refine ⟨fun _ => ?_⟩
        apply V.tor
        · walk_at "ts"
          apply V.comp (S := fun c => tS [c]) (T := PyData.bool) (xs := figs w) (fun c => decide (c ∈ figures)) [] []
          · exact V.its (by walk_at "ev") ⟨hh⟩
          all_goals try walk_at "cp"
          intro K2 eG eS eO eR hh c hc
          simp only [capG]
          walk_at "ev"
        · exact ⟨fun _ => V.tonil⟩
  · refine ⟨fun h => ?_⟩
    exfalso
    have h1 := ok.ne
    have h3 := ok.all
    simp [h1] at h
    rcases h with h | ⟨x, hx, q⟩
    · lia
    · exact q (h3 x hx)
  · refine ⟨fun _ => V.snil ?_⟩
    walk_at "ret"
theorem figs_len {w : List Nat} : (figs w).length ≤ w.length := by
  unfold figs
  split
  · rw [List.length_drop]; exact Nat.sub_le _ _
  · exact Nat.le_refl _
theorem numin_raises {G : Gx} (H : Has G P14) (S : Sgs G) {C : Addr} {bm : List Value} (c : Cls G "BadText" C bm) (w : List Nat) (no : ¬ OkW 8 w) (hl : w.length ≤ 1000) : Raises G 1 "number_in" [tS w] C := by
  refine raises_def H "number_in" ["word"] ["figures"] [] rfl (by decide +kernel) rfl (bd1 fun _ => fun _ _ _ => rfl) ?_
  intro K eG eS eO eR hh
  dsimp only at eS
  simp only [gStart_cons, gStart_nil, gRest]
  have n1 := S.most
  have n2 := S.figs
  have c' : XCl K.G "BadText" C bm := ⟨eG ▸ c⟩
  apply V.rpre fun g => g = ([("word", .fz (tS w)), ("figures", .fz (tS w))] : Sg)
  · walk_at "set"
    exact V.snil rfl
  rintro _ rfl
  apply V.rpre fun g => g = ([("word", .fz (tS w)), ("figures", .fz (tS (figs w)))] : Sg)
  · apply V.sif_join fun g => g = ([("word", .fz (tS w)), ("figures", .fz (tS (figs w)))] : Sg)
    · walk_at "ts"
    · refine ⟨fun h => ?_⟩
      have h : w.take 1 = [45] := by simpa using h
      have e : figs w = w.drop 1 := by unfold figs; rw [if_pos h]
      rw [e]
      walk_at "set"
      exact V.snil rfl
    · refine ⟨fun h => V.snil ?_⟩
      have h : ¬ w.take 1 = [45] := by simpa using h
      have e : figs w = w := by unfold figs; rw [if_neg h]
      show _ = _
      rw [e]
    · rintro _ rfl
      exact V.snil rfl
  rintro _ rfl
  have hf : PyData.canLay0 (tS figures) = true := by decide +kernel
  have fl : (figs w).length ≤ 1000 := Nat.le_trans figs_len hl
  apply V.rif
  · apply V.tany
    apply V.tor
    · walk_at "ts"
    · refine ⟨fun _ => ?_⟩
      apply V.tor
      · walk_at "ts"
      · refine ⟨fun _ => ?_⟩
        apply V.tor
        · walk_at "ts"
          apply V.comp (S := fun c => tS [c]) (T := PyData.bool) (xs := figs w) (fun c => decide (c ∈ figures)) [] []
          · exact V.its (by walk_at "ev") ⟨hh⟩
          all_goals try walk_at "cp"
          intro K2 eG eS eO eR hh c hc
          simp only [capG]
          walk_at "ev"
        · exact ⟨fun _ => V.tonil⟩
  · refine ⟨fun _ => ?_⟩
    apply V.rraise _ c' <;> walk_at "ev"
  · refine ⟨fun h => ?_⟩
    exfalso
    simp at h
    exact no ⟨h.1, by lia, fun x hx => h.2.2 x hx⟩
end Mine
end

section
set_option autoImplicit false
open PySem PyProof.Rows PySem.W
namespace Mine
theorem needr_raises {G : Gx} (H : Has G P14) {C : Addr} {d : D} (h : Raises G 5 "bulk" [d] C) : Raises G 7 "need_rows" [d] C := by
  refine raises_def H "need_rows" ["rows"] [] [] rfl (by decide +kernel) rfl (bd1 fun _ => fun _ _ _ => rfl) ?_
  intro K eG eS eO eR hh
  dsimp only at eS
  simp only [gStart_cons, gStart_nil, gRest]
  have h' : XRK K.G 5 "bulk" [d] C := ⟨eG ▸ h⟩
  apply V.rif_cmp
  · apply V.rcall1 _ _ h' <;> walk_at "ev"
  · walk_at "ev"
theorem shown_raises {G : Gx} (H : Has G P14) {C : Addr} {d : D} (h : Raises G 7 "need_rows" [d] C) : Raises G 8 "shown" [d] C := by
  refine raises_def H "shown" ["rows"] [] [] rfl (by decide +kernel) rfl (bd1 fun _ => fun _ _ _ => rfl) ?_
  intro K eG eS eO eR hh
  dsimp only at eS
  simp only [gStart_cons, gStart_nil, gRest]
  have h' : XRK K.G 7 "need_rows" [d] C := ⟨eG ▸ h⟩
  apply V.rexpr
  · apply V.rcall1 _ _ h' <;> walk_at "ev"
  · walk_at "ev"
theorem num_len {a : Int} (h : a.natAbs ≤ 1000000) : (numL a).length ≤ 8 := by
  have key : ∀ m : Nat, m ≤ 1000000 → (natL m).length ≤ 7 := fun m hm => by
    have h := toString_length_le (v := (m : Int)) (k := 7) (Int.natCast_nonneg _) (by decide) (by lia)
    rw [← numL_nat]
    unfold numL
    rw [Array.length_toList]
    exact h
  cases a with
  | ofNat m =>
    have : numL (m : Int) = natL m := numL_nat m
    show (numL (m : Int)).length ≤ 8
    rw [this]
    exact Nat.le_succ_of_le (key m h)
  | negSucc m =>
    have : numL (Int.negSucc m) = 45 :: natL (m + 1) := numL_neg m
    rw [this, List.length_cons]
    exact Nat.succ_le_succ (key (m + 1) h)
theorem log_fit {k : Nat} (h : k ≤ 1000000) : k.log2 < 1920 := by
  by_cases q : k = 0
  · rw [q]; decide
  · exact Nat.lt_trans ((Nat.log2_lt q).mpr (Nat.lt_of_le_of_lt h (show 1000000 < 2 ^ 20 by decide))) (by decide)
theorem showline_len {r : List Int} (hr : r.length ≤ 3) (h : ((r.map numL).map (·.length)).sum ≤ 24) : (joinL [32] (r.map numL)).length ≤ 27 := by
  cases r with
  | nil => exact Nat.zero_le _
  | cons a r =>
    have e := join_len [32] (ts := (a :: r).map numL) (by simp)
    have key : ∀ ts : List (List Nat), wLen [32] ts = ts.length + (ts.map (·.length)).sum := fun ts => by
      induction ts with
      | nil => rfl
      | cons t ts ih => simp [wLen] at ih ⊢; lia
    rw [key, List.length_map] at e
    lia
theorem showrow_len {r : List Int} (hr : r.length ≤ 3) (h : ∀ x ∈ r, x.natAbs ≤ 1000000) : ((r.map numL).map (·.length)).sum ≤ 24 := by
  have : ∀ (r : List Int), (∀ x ∈ r, x.natAbs ≤ 1000000) → ((r.map numL).map (·.length)).sum ≤ 8 * r.length := fun r => by
    induction r with
    | nil => intro _; exact Nat.le_refl _
    | cons a r ih =>
      intro h
      have h1 := num_len (h a (.head _))
      have h2 := ih fun x hx => h x (.tail _ hx)
      simp only [List.map_cons, List.sum_cons, List.length_cons]
      lia
  exact Nat.le_trans (this r h) (by lia)
theorem showsum_len (R : List (List Int)) : (∀ r ∈ R, r.length ≤ 3 ∧ ∀ x ∈ r, x.natAbs ≤ 1000000) → ((R.map fun r => joinL [32] (r.map numL)).map (·.length)).sum ≤ 27 * R.length := by
  induction R with
  | nil => intro _; exact Nat.le_refl _
  | cons r R ih =>
    intro h
    have h1 := showline_len (h r (.head _)).1 (showrow_len (h r (.head _)).1 (h r (.head _)).2)
    have h2 := ih fun x hx => h x (.tail _ hx)
    simp only [List.map_cons, List.sum_cons, List.length_cons] at h2 ⊢
    lia
theorem shown_ok {G : Gx} (H : Has G P14) (N : Nums G) (n : Nat) (R : List (List Int)) (hn : N13 n) (g : Grid n 1000000 R) (hd : det R ≠ 0) : Calls G 8 "shown" [.list (R.map tI)] (tS (showT R)) true := by
  refine calls_def H "shown" ["rows"] [] [] rfl (by decide +kernel) rfl (bd1 fun _ => fun _ _ _ => rfl) ?_
  walk_at "start"
  have hnr := needr_ok H N n R hn g hd
  have hn3 := hn.le
  have hl := g.len
  have hrow : ∀ r ∈ R, r.length ≤ 3 ∧ ∀ x ∈ r, x.natAbs ≤ 1000000 := fun r hr => ⟨by rw [(g.row r hr).1]; exact hn3, fun x hx => nabs_le ((g.row r hr).2 x hx)⟩
  apply V.sexpr
  · walk_at "ev"
  · walk_at "ev"
  apply V.sret
  · apply V.sjoin (ts := R.map fun r => joinL [32] (r.map numL))
    · walk_at "ev"
    · exact V.cstrL (a := [59, 32]) ⟨by decide +kernel⟩ ⟨by decide +kernel⟩
    · apply V.comp (fr := true) (S := tI) (T := tS) (xs := R) (fun r => joinL [32] (r.map numL)) [] []
      all_goals try walk_at "cp"
      intro K2 eG eS eO eR hh r hr
      simp only [capG]
      obtain ⟨h1, h2⟩ := hrow r hr
      have h3 := showrow_len h1 h2
      apply V.sjoin (ts := r.map numL)
      · walk_at "ev"
      · exact V.cstrL (a := [32]) ⟨by decide +kernel⟩ ⟨by decide +kernel⟩
      · apply V.comp (fr := true) (S := PyData.int) (T := tS) (xs := r) numL [] []
        all_goals try walk_at "cp"
        intro K3 eG eS eO eR hh x hx
        simp only [capG]
        have hb := log_fit (h2 x hx)
        walk_at "ev"
      · refine ⟨?_⟩
        rw [List.length_map, List.length_singleton]
        lia
      · walk_at "ev"
      · walk_at "ev"
    · refine ⟨?_⟩
      have k := showsum_len R hrow
      rw [List.length_map]
      show _ + R.length * 2 ≤ _
      lia
    · walk_at "ev"
    · walk_at "ev"
  · exact rets_ok
end Mine
end

section
set_option autoImplicit false
open PySem PyProof.Rows PySem.W
namespace Mine
theorem split_le {t sep p : List Nat} (h : p ∈ splitL t sep) : p.length ≤ t.length := by
  have e := join_len sep (splitL_ne t sep)
  rw [join_splitL] at e
  have key : ∀ ts : List (List Nat), p ∈ ts → p.length + sep.length ≤ wLen sep ts := fun ts => by
    induction ts with
    | nil => intro h; cases h
    | cons q ts ih =>
      intro h
      have e : wLen sep (q :: ts) = sep.length + q.length + wLen sep ts := by simp [wLen]
      rcases List.mem_cons.mp h with rfl | h
      · lia
      · have := ih h; lia
  have := key _ h
  lia
theorem split_many {t sep : List Nat} : (splitL t sep).length ≤ t.length + 2 := by
  unfold splitL
  rw [List.length_map]
  have := split_len (x := sL t) (y := sL sep)
  rwa [sL_len] at this
theorem vals_eq {t : List Nat} : valsT t = (splitL t [59, 32]).map fun l => (splitL l [32]).map valW := by
  unfold valsT wordsT; rw [List.map_map]; rfl
theorem read_ok {G : Gx} (H : Has G P14) (N : Nums G) (S : Sgs G) (t : List Nat) (ht : t.length ≤ 900) (ok : ∀ l ∈ splitL t [59, 32], ∀ w ∈ splitL l [32], OkW 8 w) (n : Nat) (hn : N13 n) (g : Grid n 1000000 (valsT t)) (hd : det (valsT t) ≠ 0) (hs : showT (valsT t) = t) : Calls G 10 "read" [tS t] (.list ((valsT t).map tI)) true := by
  refine calls_def H "read" ["text"] ["rows"] [] rfl (by decide +kernel) rfl (bd1 fun _ => fun _ _ _ => rfl) ?_
  walk_at "start"
  have hsh := shown_ok H N n _ hn g hd
  have hnr := needr_ok H N n _ hn g hd
  have hm := split_many (t := t) (sep := [59, 32])
  rw [vals_eq] at hsh hnr hs ⊢
  apply V.sif
  · walk_at "ts"
  · exact ⟨fun h => by cases h⟩
  refine ⟨fun _ => V.snil ?_⟩
  apply V.setc (S := tS) (T := tI) (xs := splitL t [59, 32]) (fun l => (splitL l [32]).map valW) [] [] (.inr rfl)
  · apply V.it_list
    apply V.split
    · walk_at "ev"
    · walk_at "ev"
    · exact V.cstrL (a := [59, 32]) ⟨by decide +kernel⟩ ⟨by decide +kernel⟩
    all_goals walk_at "ev"
  all_goals try walk_at "cp"
  · intro K2 eG eS eO eR hh l hl
    simp only [capG]
    have hl1 := split_le hl
    have hm2 := split_many (t := l) (sep := [32])
    apply V.tuple_ints
    · walk_at "ev"
    · apply V.comp (fr := true) (S := tS) (T := PyData.int) (xs := splitL l [32]) valW [] []
      · apply V.it_list
        apply V.split
        · walk_at "ev"
        · walk_at "ev"
        · exact V.cstrL (a := [32]) ⟨by decide +kernel⟩ ⟨by decide +kernel⟩
        all_goals walk_at "ev"
      all_goals try walk_at "cp"
      intro K3 eG eS eO eR hh w hw
      simp only [capG]
      have hw1 := split_le hw
      have hc := numin_ok H S w (ok l hl w hw) (by lia)
      walk_at "ev"
    all_goals walk_at "ev"
  apply V.stry_pass
  · walk_at "ev"
  · walk_at "ev"
  apply V.sif
  · walk_at "ts"
  · refine ⟨fun h => ?_⟩
    exfalso
    rw [hs] at h
    simp at h
  refine ⟨fun _ => V.snil ?_⟩
  walk_at "reto"
theorem read_notext {G : Gx} (H : Has G P14) {C : Addr} {bm : List Value} (c : Cls G "BadText" C bm) (d : D) (h1 : isA d "str" = false) (h2 : notDict d = true) : Raises G 1 "read" [d] C := by
  refine raises_def H "read" ["text"] ["rows"] [] rfl (by decide +kernel) rfl (bd1 fun _ => fun _ _ _ => rfl) ?_
  intro K eG eS eO eR hh
  dsimp only at eS
  simp only [gStart_cons, gStart_nil, gRest]
  have c' : XCl K.G "BadText" C bm := ⟨eG ▸ c⟩
  apply V.rif
  · walk_at "ts"
  · refine ⟨fun _ => ?_⟩
    apply V.rraise _ c' <;> walk_at "ev"
  · exact ⟨fun h => by rw [h1] at h; cases h⟩
theorem read_word {G : Gx} (H : Has G P14) (S : Sgs G) {C : Addr} {bm : List Value} (c : Cls G "BadText" C bm) (t : List Nat) (ht : t.length ≤ 900) (no : ∃ l ∈ splitL t [59, 32], ((splitL l [32]).all (figB 8)) = false) : Raises G 2 "read" [tS t] C := by
  refine raises_defT H "read" ["text"] ["rows"] [] rfl (by decide +kernel) rfl (bd1 fun _ => fun _ _ _ => rfl) ?_
  intro K eG eS eO eR hh tk
  dsimp only at eS
  simp only [gStart_cons, gStart_nil, gRest]
  have hm := split_many (t := t) (sep := [59, 32])
  apply V.rif
  · walk_at "ts"
  · exact ⟨fun h => by cases h⟩
  refine ⟨fun _ => ?_⟩
  apply V.rsetc (fr := true) (S := tS) (T := tI) (xs := splitL t [59, 32]) (fun l => (splitL l [32]).all (figB 8)) (fun l => (splitL l [32]).map valW) [] [] no tk.frk
  · apply V.it_list
    apply V.split
    · walk_at "ev"
    · walk_at "ev"
    · exact V.cstrL (a := [59, 32]) ⟨by decide +kernel⟩ ⟨by decide +kernel⟩
    all_goals walk_at "ev"
  all_goals try walk_at "cp"
  intro K2 eG eS eO eR hh fk l hl
  simp only [capG]
  have hl1 := split_le hl
  have hm2 := split_many (t := l) (sep := [32])
  refine ⟨fun ok => ?_, fun bad => ?_⟩
  · have ok : ∀ w ∈ splitL l [32], OkW 8 w := fun w hw => figB_ok.mp (List.all_eq_true.mp ok w hw)
    apply V.tuple_ints
    · walk_at "ev"
    · apply V.comp (fr := true) (S := tS) (T := PyData.int) (xs := splitL l [32]) valW [] []
      · apply V.it_list
        apply V.split
        · walk_at "ev"
        · walk_at "ev"
        · exact V.cstrL (a := [32]) ⟨by decide +kernel⟩ ⟨by decide +kernel⟩
        all_goals walk_at "ev"
      all_goals try walk_at "cp"
      intro K3 eG eS eO eR hh w hw
      simp only [capG]
      have hw1 := split_le hw
      have hc := numin_ok H S w (ok w hw) (by lia)
      walk_at "ev"
    all_goals walk_at "ev"
  · apply V.rtuple
    · walk_at "ev"
    · apply V.rcomp (fr := true) (S := tS) (T := PyData.int) (xs := splitL l [32]) (figB 8) valW [] [] (List.all_eq_false.mp bad |>.imp fun w h => ⟨h.1, by simpa using h.2⟩) fk
      · apply V.it_list
        apply V.split
        · walk_at "ev"
        · walk_at "ev"
        · exact V.cstrL (a := [32]) ⟨by decide +kernel⟩ ⟨by decide +kernel⟩
        all_goals walk_at "ev"
      all_goals try walk_at "cp"
      intro K3 eG3 eS eO eR hh fk w hw
      simp only [capG]
      have hw1 := split_le hw
      refine ⟨fun q => ?_, fun q => ?_⟩
      · have hc := numin_ok H S w (figB_ok.mp q) (by lia)
        walk_at "ev"
      · have hr : XRK K3.G 1 "number_in" [tS w] C := ⟨eG3 ▸ numin_raises H S c w (fun z => by rw [figB_ok.mpr z] at q; cases q) (by lia)⟩
        apply V.rcall1 _ _ hr <;> walk_at "ev"
    · walk_at "ev"
theorem read_rows {G : Gx} (H : Has G P14) (S : Sgs G) {Cr Ct : Addr} {bmr bm : List Value} (cr : Cls G "BadRows" Cr bmr) (ct : Cls G "BadText" Ct bm) (hC : Cr ≠ chained) (hCt : Ct = chained) (t : List Nat) (ht : t.length ≤ 900) (ok : ∀ l ∈ splitL t [59, 32], ∀ w ∈ splitL l [32], OkW 8 w)
    (h : Raises G 7 "need_rows" [.list ((valsT t).map tI)] Cr) : Raises G 8 "read" [tS t] Ct := by
  refine raises_defT H "read" ["text"] ["rows"] [] rfl (by decide +kernel) rfl (bd1 fun _ => fun _ _ _ => rfl) ?_
  intro K eG eS eO eR hh tk
  dsimp only at eS
  simp only [gStart_cons, gStart_nil, gRest]
  have hm := split_many (t := t) (sep := [59, 32])
  rw [vals_eq] at h
  apply V.rif
  · walk_at "ts"
  · exact ⟨fun h => by cases h⟩
  refine ⟨fun _ => ?_⟩
  apply V.rpre fun g => g = ([("text", .fz (tS t)), ("rows", .ow (.list (((splitL t [59, 32]).map fun l => (splitL l [32]).map valW).map tI)))] : Sg)
  · apply V.setc (S := tS) (T := tI) (xs := splitL t [59, 32]) (fun l => (splitL l [32]).map valW) [] [] (.inr rfl)
    · apply V.it_list
      apply V.split
      · walk_at "ev"
      · walk_at "ev"
      · exact V.cstrL (a := [59, 32]) ⟨by decide +kernel⟩ ⟨by decide +kernel⟩
      all_goals walk_at "ev"
    all_goals try walk_at "cp"
    · intro K2 eG eS eO eR hh l hl
      simp only [capG]
      have hl1 := split_le hl
      have hm2 := split_many (t := l) (sep := [32])
      apply V.tuple_ints
      · walk_at "ev"
      · apply V.comp (fr := true) (S := tS) (T := PyData.int) (xs := splitL l [32]) valW [] []
        · apply V.it_list
          apply V.split
          · walk_at "ev"
          · walk_at "ev"
          · exact V.cstrL (a := [32]) ⟨by decide +kernel⟩ ⟨by decide +kernel⟩
          all_goals walk_at "ev"
        all_goals try walk_at "cp"
        intro K3 eG eS eO eR hh w hw
        simp only [capG]
        have hw1 := split_le hw
        have hc := numin_ok H S w (ok l hl w hw) (by lia)
        walk_at "ev"
      all_goals walk_at "ev"
    · exact V.snil rfl
  rintro _ rfl
  have cr' : XCl K.G "BadRows" Cr bmr := ⟨eG ▸ cr⟩
  have ct' : XCl K.G "BadText" Ct bm := ⟨eG ▸ ct⟩
  have h' : XRK K.G 7 "need_rows" [.list (((splitL t [59, 32]).map fun l => (splitL l [32]).map valW).map tI)] Cr := ⟨eG ▸ h⟩
  apply V.rtry tk _ _ cr' cr'.out.obj ⟨by simp⟩ hC _ ct' hCt
  · intro K' e1 e2 e3 e4
    exact V.cstr ⟨by decide +kernel⟩
  · walk_at "ev"
  · walk_at "ev"
  · walk_at "ev"
  · walk_at "ev"
  · apply V.fcall1 _ _ h' <;> walk_at "ev"
  · walk_at "ev"
  · walk_at "ev"
theorem read_other {G : Gx} (H : Has G P14) (N : Nums G) (S : Sgs G) {Ct : Addr} {bm : List Value} (ct : Cls G "BadText" Ct bm) (t : List Nat) (ht : t.length ≤ 900) (ok : ∀ l ∈ splitL t [59, 32], ∀ w ∈ splitL l [32], OkW 8 w)
    (n : Nat) (hn : N13 n) (g : Grid n 1000000 (valsT t)) (hd : det (valsT t) ≠ 0) (hs : showT (valsT t) ≠ t) : Raises G 10 "read" [tS t] Ct := by
  refine raises_defT H "read" ["text"] ["rows"] [] rfl (by decide +kernel) rfl (bd1 fun _ => fun _ _ _ => rfl) ?_
  intro K eG eS eO eR hh tk
  dsimp only at eS
  simp only [gStart_cons, gStart_nil, gRest]
  have hm := split_many (t := t) (sep := [59, 32])
  have hsh := shown_ok H N n _ hn g hd
  have hnr := needr_ok H N n _ hn g hd
  rw [vals_eq] at hsh hnr hs
  apply V.rif
  · walk_at "ts"
  · exact ⟨fun h => by cases h⟩
  refine ⟨fun _ => ?_⟩
  apply V.rpre fun g => g = ([("text", .fz (tS t)), ("rows", .ow (.list (((splitL t [59, 32]).map fun l => (splitL l [32]).map valW).map tI)))] : Sg)
  · apply V.setc (S := tS) (T := tI) (xs := splitL t [59, 32]) (fun l => (splitL l [32]).map valW) [] [] (.inr rfl)
    · apply V.it_list
      apply V.split
      · walk_at "ev"
      · walk_at "ev"
      · exact V.cstrL (a := [59, 32]) ⟨by decide +kernel⟩ ⟨by decide +kernel⟩
      all_goals walk_at "ev"
    all_goals try walk_at "cp"
    · intro K2 eG eS eO eR hh l hl
      simp only [capG]
      have hl1 := split_le hl
      have hm2 := split_many (t := l) (sep := [32])
      apply V.tuple_ints
      · walk_at "ev"
      · apply V.comp (fr := true) (S := tS) (T := PyData.int) (xs := splitL l [32]) valW [] []
        · apply V.it_list
          apply V.split
          · walk_at "ev"
          · walk_at "ev"
          · exact V.cstrL (a := [32]) ⟨by decide +kernel⟩ ⟨by decide +kernel⟩
          all_goals walk_at "ev"
        all_goals try walk_at "cp"
        intro K3 eG eS eO eR hh w hw
        simp only [capG]
        have hw1 := split_le hw
        have hc := numin_ok H S w (ok l hl w hw) (by lia)
        walk_at "ev"
      all_goals walk_at "ev"
    · exact V.snil rfl
  rintro _ rfl
  have ct' : XCl K.G "BadText" Ct bm := ⟨eG ▸ ct⟩
  apply V.rtry_pass
  · walk_at "ev"
  · walk_at "ev"
  apply V.rif
  · walk_at "ts"
  · refine ⟨fun _ => ?_⟩
    apply V.rraise _ ct' <;> walk_at "ev"
  · exact ⟨fun h => absurd (by simpa using h) hs⟩
end Mine
end

section
set_option autoImplicit false
open PySem PyProof.Rows PySem.W
namespace Mine
def dueW (w : List Nat) : Option Int := if figB 7 w then (if (figs w).head? = some 48 ∧ w ≠ [48] then none else some (valW w)) else none
def oD : Option Int → D
  | none => .none
  | some x => .int x
theorem fk_sgn : FlatK (fun c : Nat => tS [c]) := ⟨fun a => .str _, fun _ => rfl⟩
theorem lnum_ok {G : Gx} (H : Has G P14) (w : List Nat) (hl : w.length ≤ 1000) : Calls G 1 "_law_number" [tS w] (oD (dueW w)) true := by
  refine calls_def H "_law_number" ["_law_word"] ["_law_figures"] [] rfl (by decide +kernel) rfl (bd1 fun _ => fun _ _ _ => rfl) ?_
  walk_at "start"
  have fl : (figs w).length ≤ 1000 := Nat.le_trans figs_len hl
  walk_at "set"
  apply V.sif_join fun g => g = ([("_law_word", .fz (tS w)), ("_law_figures", .fz (tS (figs w)))] : Sg)
  · walk_at "ts"
  · refine ⟨fun h => ?_⟩
    have h : w.take 1 = [45] := by simpa using h
    have e : figs w = w.drop 1 := by unfold figs; rw [if_pos h]
    rw [e]
    walk_at "set"
    exact V.snil rfl
  · refine ⟨fun h => V.snil ?_⟩
    have h : ¬ w.take 1 = [45] := by simpa using h
    have e : figs w = w := by unfold figs; rw [if_neg h]
    show _ = _
    rw [e]
  rintro _ rfl
  apply V.sif
  · apply V.tany
    apply V.tor
    · walk_at "ts"
    · refine ⟨fun _ => ?_⟩
      apply V.tor
      · walk_at "ts"
      · refine ⟨fun _ => ?_⟩
        apply V.tor
        · apply V.tcmp
          · apply V.compf (fr := true) (S := fun c => tS [c]) (T := fun c => tS [c]) (xs := figs w) (fun c => !decide (c ∈ figures)) (fun c => c) [] []
            · exact V.its (by walk_at "ev") ⟨hh⟩
            all_goals try walk_at "cp"
            intro K2 eG eS eO eR hh c hc
            simp only [capG]
            refine ⟨?_, fun _ => by walk_at "ev"⟩
            apply V.tcmp
            · walk_at "ev"
            · exact V.cstrL (a := figures) ⟨by decide +kernel⟩ ⟨by decide +kernel⟩
            all_goals walk_at "ev"
          · walk_at "ev"
          · exact V.cne_nil fk_sgn
          all_goals walk_at "ev"
        · exact ⟨fun _ => V.tonil⟩
  · refine ⟨fun h => ?_⟩
    have e : dueW w = none := by
      unfold dueW
      rw [if_neg]
      intro q
      obtain ⟨h1, h2, h3⟩ := figB_ok.mp q
      simp [h1] at h
      rcases h with h | ⟨x, hx, q⟩
      · lia
      · exact q (h3 x hx)
    rw [e]
    walk_at "ret"
  refine ⟨fun h => V.snil ?_⟩
  have ok : OkW 7 w := by
    simp at h
    exact ⟨h.1, by lia, h.2.2⟩
  obtain ⟨c, r, hc⟩ : ∃ c r, figs w = c :: r := by
    cases q : figs w with
    | nil => exact absurd q ok.ne
    | cons c r => exact ⟨c, r, rfl⟩
  have hc0 : (figs w)[(0 : Int).toNat]? = some c := by rw [hc]; rfl
  have hi := ok.int (by decide)
  have hl6 : w.length ≤ 640 := Nat.le_trans ok.wlen (by decide)
  apply V.sif
  · apply V.tall
    apply V.tand
    · apply V.tcmp
      · apply V.sitem (c := c) <;> walk_at "ev"
      · exact V.cstrL (a := [48]) ⟨by decide +kernel⟩ ⟨by decide +kernel⟩
      all_goals walk_at "ev"
    · refine ⟨fun _ => ?_⟩
      apply V.tand
      · apply V.tcmp
        · walk_at "ev"
        · exact V.cstrL (a := [48]) ⟨by decide +kernel⟩ ⟨by decide +kernel⟩
        all_goals walk_at "ev"
      · exact ⟨fun _ => V.tnil⟩
  · refine ⟨fun h => ?_⟩
    have e : dueW w = none := by
      unfold dueW
      rw [if_pos (figB_ok.mpr ok), if_pos]
      simp at h
      exact ⟨by rw [hc, h.1]; rfl, h.2⟩
    rw [e]
    walk_at "ret"
  refine ⟨fun h => V.snil ?_⟩
  have e : dueW w = some (valW w) := by
    unfold dueW
    rw [if_pos (figB_ok.mpr ok), if_neg]
    rintro ⟨a, b⟩
    rw [hc] at a
    simp at h
    exact b (h (by simpa using a))
  rw [e]
  walk_at "ret"
end Mine
end

section
set_option autoImplicit false
open PySem PyProof.Rows PySem.W
namespace Mine
abbrev lI (w : List Int) : D := .list (w.map .int)
theorem clean_lI (w : List Int) : clean (lI w) = true := clean_ints w
theorem ceq_nilN {K : Fm} {L : List (List Int)} : XC K .Eq (.list (L.map lI)) (.list []) L.isEmpty := by
  have := V.cmp_eqR (K := K) (d1 := .list (L.map lI)) (d2 := .list []) (by decide) (clean_map clean_lI L) rfl
  rw [V.eqv_nil, List.isEmpty_map] at this
  exact ⟨this⟩
theorem item_lI {K : Fm} {rho : List (Str × Option D)} {e i : Expr} {pos : Pos} {f g : Bool} {R : List (List Int)} {k : Int} (h : XE K rho e (.list (R.map lI)) f) (h2 : XE K rho i (.int k) g) (hk : Side (0 ≤ k ∧ k < R.length)) (hl : Side (R.length < 1000000000)) (hn : Look (noSlice i)) : XE K rho (.Subscript e i pos) (lI (R.getD k.toNat [])) false := by
  have h0 := hk.out
  have h1 := hl.out
  exact V.item_list h h2 ⟨by lia⟩ ⟨by simp [List.getD, show k.toNat < R.length by lia]⟩ hn
theorem lwoL_ok {G : Gx} (H : Has G P14) (r : List Int) (hr : r.length ≤ 8) (k : Nat) (hk : k ≤ 8) : Calls G 1 "_law_without" [lI r, .int (k : Int)] (lI (wo r k)) true := by
  refine calls_def H "_law_without" ["_law_row", "_law_k"] [] [] rfl (by decide +kernel) rfl (bd2 fun _ _ => fun _ _ _ => rfl) ?_
  walk_at "start"
  have e : wo r k = r.take (k : Int).toNat ++ r.drop ((k : Int) + 1).toNat := by
    have e1 : ((k : Int) + 1).toNat = k + 1 := by lia
    rw [e1]; simp [wo]
  refine V.sret (f := true) ?_ ⟨rfl, fun _ => rfl⟩
  rw [e]
  walk_at "ev"
theorem lbulkL_ok {G : Gx} (H : Has G P14) : ∀ (n : Nat) (R : List (List Int)), n ≤ 8 → Grid n Big R → Calls G (n + 2) "_law_bulk" [.list (R.map lI)] (.int (det R)) true := by
  intro n
  induction n with
  | zero =>
    intro R _ g
    have hR : R = [] := List.eq_nil_of_length_eq_zero g.len
    refine calls_def H "_law_bulk" ["_law_rows_here"] ["_law_found", "_law_k", "_law_part"] ["_law_k"] rfl (by decide +kernel) rfl (bd1 fun _ => fun _ _ _ => rfl) ?_
    walk_at "start"
    apply V.sif
    · apply V.tcmp
      · walk_at "ev"
      · walk_at "ev"
      · exact ceq_nilN
      all_goals walk_at "ev"
    · refine ⟨fun _ => ?_⟩
      rw [hR]
      walk_at "ret"
    · refine ⟨fun h => ?_⟩
      rw [hR] at h; cases h
  | succ n ih =>
    intro R hn g
    have hlen := g.len
    refine calls_def H "_law_bulk" ["_law_rows_here"] ["_law_found", "_law_k", "_law_part"] ["_law_k"] rfl (by decide +kernel) rfl (bd1 fun _ => fun _ _ _ => rfl) ?_
    walk_at "start"
    apply V.sif
    · apply V.tcmp
      · walk_at "ev"
      · walk_at "ev"
      · exact ceq_nilN
      all_goals walk_at "ev"
    · refine ⟨fun h => ?_⟩
      cases R with
      | nil => simp at hlen
      | cons => cases h
    refine ⟨fun _ => V.snil ?_⟩
    walk_at "set"
    apply V.forr fun i g => ∃ ok op, g = ([("_law_rows_here", .fz (.list (R.map lI))), ("_law_found", .fz (.int (sumTo (fun k => sgn k * (R.getD 0 []).getD k 0 * det (without (R.drop 1) k)) i))), ("_law_k", ok), ("_law_part", op)] : Sg)
    · walk_at "it"
    · walk_at "stor"
    · exact ⟨fun _ => rfl⟩
    · exact ⟨_, _, rfl⟩
    · rintro i hi g1 ⟨ok, op, rfl⟩
      have hi' : i < n + 1 := by lia
      refine ⟨_, V.p_tl (V.p_tl V.p_hd), ?_⟩
      have h0 := g.rect.at (j := Int.toNat 0) (k := i) (by simp)
      have h1 := h0.1
      have h2 : IntMulOk ((R.getD (Int.toNat 0) []).getD (i : Int).toNat 0) (det (without (R.drop 1) i)) := mulL (Nat.lt_of_le_of_lt h0.2 (by decide))
      have gg : Grid n Big (without (R.drop 1) i) := by
        have : Rect n (n + 1) Big (R.drop 1) := ⟨by simp [hlen], fun r hr => g.row r (List.mem_of_mem_drop hr)⟩
        exact (this.without hi').grid
      apply V.set (d := .int ((R.getD (Int.toNat 0) []).getD (i : Int).toNat 0 * det (without (R.drop 1) i)))
      · apply V.mul
        · apply V.item_int
          · apply item_lI <;> walk_at "ev"
          all_goals walk_at "ev"
        · apply V.call1
          · walk_at "ev"
          · apply V.comp (S := lI) (T := lI) (xs := R.drop (1 : Int).toNat) (fun r => wo r i) ["_law_k"] []
            · apply V.it_list
              · apply V.slice_fromN <;> walk_at "ev"
              · exact ⟨hh⟩
            all_goals try walk_at "cp"
            intro K2 eG eS eO eR hh r hr
            have hr' := (g.row r (List.mem_of_mem_drop hr)).1
            have hw := lwoL_ok H r (by lia) i (by lia)
            simp only [capG]
            walk_at "ev"
          · exact XK.of (by assumption) (ih _ (by lia) gg)
          all_goals walk_at "ev"
        all_goals walk_at "ev"
      all_goals try walk_at "st"
      walk_at "set"
      have e : sumTo (fun k => sgn k * (R.getD 0 []).getD k 0 * det (without (R.drop 1) k)) i + [(R.getD (Int.toNat 0) []).getD (i : Int).toNat 0 * det (without (R.drop 1) i), -((R.getD (Int.toNat 0) []).getD (i : Int).toNat 0 * det (without (R.drop 1) i))].getD ((i : Int) % 2).toNat 0 =
          sumTo (fun k => sgn k * (R.getD 0 []).getD k 0 * det (without (R.drop 1) k)) (i + 1) := by
        rw [pick_sgn, sumTo, Int.mul_assoc]
        rfl
      rw [e]
      exact V.snil ⟨_, _, rfl⟩
    · rintro g' ⟨ok, op, rfl⟩
      rw [det_step g]
      have e : R.length = n + 1 := by lia
      rw [e]
      walk_at "ret"
end Mine
end

section
set_option autoImplicit false
open PySem PyProof.Rows PySem.W
namespace Mine
theorem lread_ok {G : Gx} (H : Has G P14) {d r : D} {fr : Bool} (h : Calls G 10 "read" [d] r fr) : Calls G 12 "_law_read" [d] r fr := by
  refine calls_defT H "_law_read" ["_law_text"] ["_law_e"] [] rfl (by decide +kernel) rfl (bd1 fun _ => fun _ _ _ => rfl) ?_
  intro K eG eS eO eR hh tk
  dsimp only at eS
  simp only [gStart_cons, gStart_nil, gRest]
  apply V.stry_ok
  · walk_at "ev"
  · exact ⟨⟨rfl, fun h => h⟩⟩
theorem lread_raises {G : Gx} (H : Has G P14) {Cg C : Addr} {d nm : D} {bm : List Value} {k : Nat} (hk : k ≤ 11) (cg : Cls G "GridError" Cg vmro) (c : ClsObj G.base C bm) (hb : (Value.ref C :: bm).contains (.ref Cg) = true) (h : Raises G k "read" [d] C) (hn : CallsH G 1 "_law_names" [excD C] nm true) : Calls G 12 "_law_read" [d] nm true := by
  refine calls_defT H "_law_read" ["_law_text"] ["_law_e"] [] rfl (by decide +kernel) rfl (bd1 fun _ => fun _ _ _ => rfl) ?_
  intro K eG eS eO eR hh tk
  dsimp only at eS
  simp only [gStart_cons, gStart_nil, gRest]
  have c1 : XCl K.G "GridError" Cg vmro := ⟨eG ▸ cg⟩
  have c2 : ClsObj K.G.base C bm := eG ▸ c
  have h1 : XRK K.G k "read" [d] C := ⟨eG ▸ h⟩
  have hk2 : k ≤ K.room := by rw [eR]; exact hk
  apply V.stry (C := C) (bm := bm) (CX := Cg) (bmX := vmro) (d := nm) (f := true) tk
  · apply V.fcall1 _ _ h1 <;> walk_at "ev"
  · walk_at "ev"
  · exact c1
  · exact c2
  · exact ⟨hb⟩
  · exact V.p_tl V.p_hd
  · exact ⟨by rw [eS]; rfl⟩
  · intro K' eG' eS' eO' eR'
    have h2 : CallsH K'.G 1 "_law_names" [excD C] nm true := by rw [eG', eG]; exact hn
    have eS := eS'.trans eS
    have eR := eR'.trans eR
    apply V.hcall1 _ _ h2
    all_goals walk_at "ev"
  · exact ⟨⟨rfl, fun _ => rfl⟩⟩
  · walk_at "ev"
theorem flist {K : Fm} {rho : List (Str × Option D)} {e : Expr} {pos : Pos} {C : Addr} (h : XRF K rho e C) (hn : Look (noStar e)) : XRF K rho (.List [e] pos) C := ⟨fun W s R Q E hE => wpAny_List (wpAny_items_cons (h.out W s R _ E hE) (starEach_cons hn.out))⟩
theorem lshown_ok {G : Gx} (H : Has G P14) {d : D} {t : List Nat} (h : Calls G 8 "shown" [d] (tS t) true) : Calls G 12 "_law_shown" [d] (.list [tS t]) true := by
  refine calls_defT H "_law_shown" ["_law_rows_here"] ["_law_e"] [] rfl (by decide +kernel) rfl (bd1 fun _ => fun _ _ _ => rfl) ?_
  intro K eG eS eO eR hh tk
  dsimp only at eS
  simp only [gStart_cons, gStart_nil, gRest]
  apply V.stry_ok (d := .list [tS t]) (f := true)
  · apply V.list
    · apply V.l_cons (f := true)
      · walk_at "ev"
      all_goals walk_at "ev"
    · walk_at "ev"
  · exact ⟨⟨rfl, fun h => h⟩⟩
theorem lshown_raises {G : Gx} (H : Has G P14) {Cg C : Addr} {d nm : D} {bm : List Value} {k : Nat} (hk : k ≤ 11) (cg : Cls G "GridError" Cg vmro) (c : ClsObj G.base C bm) (hb : (Value.ref C :: bm).contains (.ref Cg) = true) (h : Raises G k "shown" [d] C) (hn : CallsH G 1 "_law_names" [excD C] nm true) : Calls G 12 "_law_shown" [d] nm true := by
  refine calls_defT H "_law_shown" ["_law_rows_here"] ["_law_e"] [] rfl (by decide +kernel) rfl (bd1 fun _ => fun _ _ _ => rfl) ?_
  intro K eG eS eO eR hh tk
  dsimp only at eS
  simp only [gStart_cons, gStart_nil, gRest]
  have c1 : XCl K.G "GridError" Cg vmro := ⟨eG ▸ cg⟩
  have c2 : ClsObj K.G.base C bm := eG ▸ c
  have h1 : XRK K.G k "shown" [d] C := ⟨eG ▸ h⟩
  have hk2 : k ≤ K.room := by rw [eR]; exact hk
  apply V.stry (C := C) (bm := bm) (CX := Cg) (bmX := vmro) (d := nm) (f := true) tk
  · apply flist
    · apply V.fcall1 _ _ h1 <;> walk_at "ev"
    · walk_at "ev"
  · walk_at "ev"
  · exact c1
  · exact c2
  · exact ⟨hb⟩
  · exact V.p_tl V.p_hd
  · exact ⟨by rw [eS]; rfl⟩
  · intro K' eG' eS' eO' eR'
    have h2 : CallsH K'.G 1 "_law_names" [excD C] nm true := by rw [eG', eG]; exact hn
    have eS := eS'.trans eS
    have eR := eR'.trans eR
    apply V.hcall1 _ _ h2
    all_goals walk_at "ev"
  · exact ⟨⟨rfl, fun _ => rfl⟩⟩
  · walk_at "ev"
end Mine
end

section
set_option autoImplicit false
open PySem PyProof.Rows PySem.W
namespace Mine
def signsA : List Nat := [32, 33, 34, 35, 36, 38, 39, 40, 41, 42, 43, 44, 45, 46, 47, 48, 49, 50, 51, 52, 53, 54, 55, 56, 57, 58, 59, 60, 61, 62, 63, 64, 65, 66, 67, 68, 69, 70, 71, 72, 73, 74, 75, 76, 77, 78, 79, 80, 81, 82, 83, 84, 85, 86, 87, 88, 89, 90, 91, 92, 93, 94, 95, 96]
def signsB : List Nat := [97, 98, 99, 100, 101, 102, 103, 104, 105, 106, 107, 108, 109, 110, 111, 112, 113, 114, 115, 116, 117, 118, 119, 120, 121, 122, 123, 124, 125, 126, 10, 9]
def signF (c : Int) : Nat := (signsA ++ signsB).getD (c % 96).toNat 0
theorem lsign_ok {G : Gx} (H : Has G P14) (c : Int) : Calls G 1 "_law_sign" [.int c] (tS [signF c]) true := by
  refine calls_def H "_law_sign" ["_law_cell_here"] ["_law_some"] [] rfl (by decide +kernel) rfl (bd1 fun _ => fun _ _ _ => rfl) ?_
  walk_at "start"
  have h1 : 0 ≤ c % 96 := Int.emod_nonneg _ (by decide)
  have h2 : c % 96 < 96 := Int.emod_lt_of_pos _ (by decide)
  have hl : (signsA ++ signsB).length = 96 := by decide
  have hs : (signsA ++ signsB)[(c % 96).toNat]? = some (signF c) := by
    unfold signF
    have : (c % 96).toNat < (signsA ++ signsB).length := by lia
    rw [List.getD, List.getElem?_eq_getElem this]; rfl
  apply V.set (d := tS signsA)
  · exact V.cstrL (a := signsA) ⟨by decide +kernel⟩ ⟨by decide +kernel⟩
  all_goals try walk_at "st"
  apply V.set (d := tS (signsA ++ signsB))
  · apply V.adds
    · walk_at "ev"
    · exact V.cstrL (a := signsB) ⟨by decide +kernel⟩ ⟨by decide +kernel⟩
    · exact ⟨by decide⟩
  all_goals try walk_at "st"
  apply V.sret
  · apply V.sitem (c := signF c) <;> walk_at "ev"
  · exact rets_ok
end Mine
end

section
set_option autoImplicit false
open PySem PyProof.Rows PySem.W
namespace Mine
def oddA : List (List Nat) := [[], [48], [49, 32, 50], [49, 32, 50, 59, 32, 50, 32, 52], [45, 48], [48, 49], [49, 59], [49, 59, 32], [49, 32, 32, 48, 59, 32, 48, 32, 49], [49, 32, 48, 59, 48, 32, 49], [49, 48, 48, 48, 48, 48, 49], [43, 49]]
def oddB : List D := [.none, .int 5, .list [tS [49]], tS [49, 32, 48, 59, 32, 48, 32, 49, 32]]
def oddF (c : Int) : D := (oddA.map tS ++ oddB).getD (c % 16).toNat .none
theorem lodd_ok {G : Gx} (H : Has G P14) (c : Int) : Calls G 1 "_law_odd" [.int c] (oddF c) false := by
  refine calls_def H "_law_odd" ["_law_cell_here"] ["_law_some"] [] rfl (by decide +kernel) rfl (bd1 fun _ => fun _ _ _ => rfl) ?_
  walk_at "start"
  have h1 : 0 ≤ c % 16 := Int.emod_nonneg _ (by decide)
  have h2 : c % 16 < 16 := Int.emod_lt_of_pos _ (by decide)
  have hl : (oddA.map tS ++ oddB).length = 16 := rfl
  have hs : (oddA.map tS ++ oddB)[(c % 16).toNat]? = some (oddF c) := by
    unfold oddF
    have : (c % 16).toNat < (oddA.map tS ++ oddB).length := by lia
    rw [List.getD, List.getElem?_eq_getElem this]; rfl
  apply V.set (d := .list (oddA.map tS))
  · exact V.list (V.l_cons (V.cstrL (a := []) ⟨by decide +kernel⟩ ⟨by decide +kernel⟩) (V.l_cons (V.cstrL (a := [48]) ⟨by decide +kernel⟩ ⟨by decide +kernel⟩) (V.l_cons (V.cstrL (a := [49, 32, 50]) ⟨by decide +kernel⟩ ⟨by decide +kernel⟩) (V.l_cons (V.cstrL (a := [49, 32, 50, 59, 32, 50, 32, 52]) ⟨by decide +kernel⟩ ⟨by decide +kernel⟩) (V.l_cons (V.cstrL (a := [45, 48]) ⟨by decide +kernel⟩ ⟨by decide +kernel⟩) (V.l_cons (V.cstrL (a := [48, 49]) ⟨by decide +kernel⟩ ⟨by decide +kernel⟩) (V.l_cons (V.cstrL (a := [49, 59]) ⟨by decide +kernel⟩ ⟨by decide +kernel⟩) (V.l_cons (V.cstrL (a := [49, 59, 32]) ⟨by decide +kernel⟩ ⟨by decide +kernel⟩) (V.l_cons (V.cstrL (a := [49, 32, 32, 48, 59, 32, 48, 32, 49]) ⟨by decide +kernel⟩ ⟨by decide +kernel⟩) (V.l_cons (V.cstrL (a := [49, 32, 48, 59, 48, 32, 49]) ⟨by decide +kernel⟩ ⟨by decide +kernel⟩) (V.l_cons (V.cstrL (a := [49, 48, 48, 48, 48, 48, 49]) ⟨by decide +kernel⟩ ⟨by decide +kernel⟩) (V.l_cons (V.cstrL (a := [43, 49]) ⟨by decide +kernel⟩ ⟨by decide +kernel⟩) (V.l_nil) ⟨rfl⟩) ⟨rfl⟩) ⟨rfl⟩) ⟨rfl⟩) ⟨rfl⟩) ⟨rfl⟩) ⟨rfl⟩) ⟨rfl⟩) ⟨rfl⟩) ⟨rfl⟩) ⟨rfl⟩) ⟨rfl⟩) ⟨by decide⟩
  all_goals try walk_at "st"
  apply V.sret (f := false)
  · apply V.item_list (ds := oddA.map tS ++ oddB)
    · apply V.addn
      · walk_at "ev"
      · exact V.list (V.l_cons V.cnone (V.l_cons V.cint (V.l_cons (V.list (V.l_cons (V.cstrL (a := [49]) ⟨by decide +kernel⟩ ⟨by decide +kernel⟩) V.l_nil ⟨rfl⟩) ⟨by decide⟩) (V.l_cons (V.cstrL (a := [49, 32, 48, 59, 32, 48, 32, 49, 32]) ⟨by decide +kernel⟩ ⟨by decide +kernel⟩) V.l_nil ⟨rfl⟩) ⟨rfl⟩) ⟨rfl⟩) ⟨rfl⟩) ⟨by decide⟩
      · exact ⟨by decide⟩
    all_goals walk_at "ev"
  · exact ⟨⟨rfl, fun h => nomatch h⟩⟩
end Mine
end

section
set_option autoImplicit false
open PySem PyProof.Rows PySem.W
namespace Mine
def dueR (t : List Nat) : List (List (Option Int)) := (splitL t [59, 32]).map fun l => (splitL l [32]).map dueW
def oL (l : List (Option Int)) : D := .list (l.map oD)
noncomputable def rowBad (n : Nat) (r : List (Option Int)) : Bool := ((r.length : Int) != (n : Int)) || (decide ((n : Int) > 3) || ((r.map oD).any (fun y => PyData.eqv y .none) || (decide (maxL (r.map fun x => ((x.getD 0).natAbs : Int)) > 1000000) || false)))
noncomputable def dueT (t : List Nat) : Option (List (List Int)) :=
  if (dueR t).any (rowBad (dueR t).length) then none else
    if det ((dueR t).map fun r => r.map (·.getD 0)) = 0 then none else some ((dueR t).map fun r => r.map (·.getD 0))
def dD : Option (List (List Int)) → D
  | none => .none
  | some R => .list (R.map tI)
theorem clean_oD (x : Option Int) : clean (oD x) = true := by cases x <;> rfl
theorem some_of : ∀ {r : List (Option Int)}, (r.map oD).any (fun y => PyData.eqv y .none) = false → ∃ xs : List Int, r = xs.map some
  | [], _ => ⟨[], rfl⟩
  | none :: r, h => by cases h
  | some x :: r, h => by
    obtain ⟨xs, e⟩ := some_of (r := r) (by simpa [oD, PyData.eqv] using h)
    exact ⟨x :: xs, by rw [e]; rfl⟩
theorem row_due {n : Nat} {r : List (Option Int)} (hr : 0 < r.length) (h : rowBad n r = false) : r.length = n ∧ n ≤ 3 ∧ ∃ xs : List Int, r = xs.map some ∧ ∀ x ∈ xs, -1000000 ≤ x ∧ x ≤ 1000000 := by
  unfold rowBad at h
  simp only [Bool.or_eq_false_iff] at h
  obtain ⟨h1, h2, h3, h4, -⟩ := h
  obtain ⟨xs, rfl⟩ := some_of h3
  have h1 : ((xs.map some).length : Int) = (n : Int) := by simpa using h1
  have h2 : ¬ (n : Int) > 3 := by simpa using h2
  have h4 : ¬ maxL ((xs.map some).map fun x => ((x.getD 0).natAbs : Int)) > 1000000 := of_decide_eq_false h4
  refine ⟨by omega, by omega, xs, rfl, fun x hx => ?_⟩
  have hne : ((xs.map some).map fun x => ((x.getD 0).natAbs : Int)) ≠ [] := fun q => by
    rw [List.map_eq_nil_iff] at q
    rw [q] at hr; cases hr
  have := (maxL_top hne).2 (x.natAbs : Int) (List.mem_map.mpr ⟨some x, List.mem_map.mpr ⟨x, hx, rfl⟩, rfl⟩)
  omega
theorem due_rows {n : Nat} : ∀ {Q : List (List (Option Int))}, (∀ r ∈ Q, 0 < r.length ∧ rowBad n r = false) → ∃ R : List (List Int), Q = R.map (List.map some) ∧ ∀ r ∈ R, r.length = n ∧ n ≤ 3 ∧ ∀ x ∈ r, -1000000 ≤ x ∧ x ≤ 1000000
  | [], _ => ⟨[], rfl, fun _ h => nomatch h⟩
  | r :: Q, h => by
    obtain ⟨R, e, hR⟩ := due_rows (Q := Q) fun q hq => h q (.tail _ hq)
    obtain ⟨h1, h2, xs, rfl, h3⟩ := row_due (h r (.head _)).1 (h r (.head _)).2
    refine ⟨xs :: R, by rw [e]; rfl, fun q hq => ?_⟩
    rcases List.mem_cons.mp hq with rfl | hq
    · exact ⟨by simpa using h1, h2, h3⟩
    · exact hR q hq
theorem ldue_ok {G : Gx} (H : Has G P14) (t : List Nat) (ht : t.length ≤ 900) : Calls G 8 "_law_due" [tS t] (dD (dueT t)) true := by
  refine calls_def H "_law_due" ["_law_text"] ["_law_rows_here", "_law_row"] [] rfl (by decide +kernel) rfl (bd1 fun _ => fun _ _ _ => rfl) ?_
  walk_at "start"
  have hm := split_many (t := t) (sep := [59, 32])
  apply V.sif
  · walk_at "ts"
  · exact ⟨fun h => by cases h⟩
  refine ⟨fun _ => V.snil ?_⟩
  apply V.setc (S := tS) (T := oL) (xs := splitL t [59, 32]) (fun l => (splitL l [32]).map dueW) [] [] (.inl rfl)
  · apply V.it_list
    apply V.split
    · walk_at "ev"
    · walk_at "ev"
    · exact V.cstrL (a := [59, 32]) ⟨by decide +kernel⟩ ⟨by decide +kernel⟩
    all_goals walk_at "ev"
  all_goals try walk_at "cp"
  · intro K2 eG eS eO eR hh l hl
    simp only [capG]
    have hl1 := split_le hl
    have hm2 := split_many (t := l) (sep := [32])
    apply V.comp (fr := true) (S := tS) (T := oD) (xs := splitL l [32]) dueW [] []
    · apply V.it_list
      apply V.split
      · walk_at "ev"
      · walk_at "ev"
      · exact V.cstrL (a := [32]) ⟨by decide +kernel⟩ ⟨by decide +kernel⟩
      all_goals walk_at "ev"
    all_goals try walk_at "cp"
    intro K3 eG eS eO eR hh w hw
    simp only [capG]
    have hw1 := split_le hw
    have hc := lnum_ok H w (by lia)
    walk_at "ev"
  have eR' : ((splitL t [59, 32]).map fun l => (splitL l [32]).map dueW) = dueR t := rfl
  rw [eR']
  have hdl : (dueR t).length ≤ 1000 := by unfold dueR; rw [List.length_map]; lia
  have hrl : ∀ r ∈ dueR t, 0 < r.length ∧ r.length ≤ 1000 := fun r hr => by
    obtain ⟨l, hl, rfl⟩ := List.mem_map.mp hr
    have h1 := split_le hl
    have h2 := split_many (t := l) (sep := [32])
    rw [List.length_map]
    exact ⟨List.length_pos_iff.mpr (splitL_ne _ _), by lia⟩
  generalize hD : dueR t = Q at *
  have hu : dueT t = if Q.any (rowBad Q.length) then none else if det (Q.map fun r => r.map (·.getD 0)) = 0 then none else some (Q.map fun r => r.map (·.getD 0)) := by
    unfold dueT; rw [hD]
  apply V.for1 (S := oL) (xs := Q) fun i g => (∀ r ∈ Q.take i, rowBad Q.length r = false) ∧ ∃ o, g = ([("_law_text", .fz (tS t)), ("_law_rows_here", .fz (.list (Q.map oL))), ("_law_row", o)] : Sg)
  · apply V.it_list
    · walk_at "ev"
    · exact ⟨hh⟩
  · walk_at "stor"
  · exact ⟨fun _ => rfl⟩
  · exact ⟨fun r hr => by simp at hr, _, rfl⟩
  · rintro i hi g1 ⟨hb, o, rfl⟩
    refine ⟨_, V.p_tl (V.p_tl V.p_hd), ?_⟩
    have hrr := hrl Q[i] (List.getElem_mem hi)
    generalize hr : Q[i] = r at *
    obtain ⟨hr0, hr1⟩ := hrr
    apply V.sif (b := rowBad Q.length r)
    · unfold rowBad
      apply V.tany
      apply V.tor
      · apply V.tcmp
        · apply V.len_k <;> walk_at "ev"
        · apply V.len_k <;> walk_at "ev"
        all_goals walk_at "ev"
      refine ⟨fun _ => ?_⟩
      apply V.tor
      · apply V.tcmp
        · apply V.len_k <;> walk_at "ev"
        all_goals walk_at "ev"
      refine ⟨fun _ => ?_⟩
      apply V.tor
      · apply V.tcmp
        · walk_at "ev"
        · walk_at "ev"
        · exact V.cinn ⟨clean_map clean_oD r⟩
        all_goals walk_at "ev"
      refine ⟨fun hno => ?_⟩
      apply V.tor
      · obtain ⟨xs, rfl⟩ : ∃ xs : List Int, r = xs.map some := some_of hno
        have hx1 : xs.length ≤ 1000 := by simpa using hr1
        have hx0 : 0 < (xs.map fun x : Int => (x.natAbs : Int)).length := by simpa using hr0
        have ed : oL (xs.map some) = lI xs := by
          show PyData.list ((xs.map some).map oD) = _
          rw [List.map_map]; rfl
        have em : ((xs.map some).map fun x => ((x.getD 0).natAbs : Int)) = xs.map fun x : Int => (x.natAbs : Int) := by
          rw [List.map_map]; rfl
        rw [em, ed]
        apply V.tcmp
        · apply V.maxl
          · walk_at "ev"
          · apply V.comp (fr := true) (S := PyData.int) (T := PyData.int) (xs := xs) (fun x => (x.natAbs : Int)) [] []
            · apply V.it_list
              · walk_at "ev"
              · exact ⟨hh⟩
            all_goals try walk_at "cp"
            intro K2 eG eS eO eR hh x hx
            simp only [capG]
            walk_at "ev"
          all_goals walk_at "ev"
        all_goals walk_at "ev"
      · exact ⟨fun _ => V.tonil⟩
    · refine ⟨fun h => ?_⟩
      have e : dueT t = none := by
        rw [hu, if_pos]
        exact List.any_eq_true.mpr ⟨r, hr ▸ List.getElem_mem hi, h⟩
      rw [e]
      walk_at "ret"
    · refine ⟨fun h => V.snil (V.snil ⟨fun q hq => ?_, _, rfl⟩)⟩
      rw [List.take_add_one, List.getElem?_eq_getElem hi, hr] at hq
      rcases List.mem_append.mp hq with hq | hq
      · exact hb q hq
      · simp at hq
        rw [hq]; exact h
  · rintro g' ⟨hb, o, rfl⟩
    rw [List.take_length] at hb
    obtain ⟨R, rfl, hR⟩ := due_rows fun r hr => ⟨(hrl r hr).1, hb r hr⟩
    rw [List.length_map] at hR hdl
    have hl3 : R.length ≤ 3 := by
      cases R with
      | nil => exact Nat.zero_le _
      | cons r R => exact (hR r (.head _)).2.1
    have gR : Grid R.length 1000000 R := ⟨rfl, fun r hr => ⟨(hR r hr).1, (hR r hr).2.2⟩⟩
    have e1 : (R.map (List.map some)).map oL = R.map lI := by
      rw [List.map_map]
      refine List.map_congr_left fun r _ => ?_
      show PyData.list ((r.map some).map oD) = _
      rw [List.map_map]; rfl
    have e2 : ((R.map (List.map some)).map fun r => r.map (·.getD 0)) = R := by
      rw [List.map_map]
      refine (List.map_congr_left (g := id) fun r _ => ?_).trans (List.map_id _)
      show (r.map some).map (·.getD 0) = _
      rw [List.map_map]
      exact List.map_id _
    have e3 : (R.map (List.map some)).any (rowBad (R.map (List.map some)).length) = false := by
      rw [List.any_eq_false]
      intro r hr
      rw [hb r hr]; decide
    rw [e2, e3] at hu
    rw [e1, hu]
    have hq := lbulkL_ok H R.length R (by lia) (gR.mono (by decide))
    have hq5 : R.length + 2 ≤ 5 := by lia
    apply V.sif (b := decide (det R = 0))
    · walk_at "ts"
    · refine ⟨fun h => ?_⟩
      rw [if_neg (by decide), if_pos (by simpa using h)]
      walk_at "ret"
    refine ⟨fun h => V.snil ?_⟩
    rw [if_neg (by decide), if_neg (by simpa using h)]
    apply V.sret
    · apply V.comp (fr := true) (S := lI) (T := tI) (xs := R) (fun r => r) [] []
      · apply V.it_list
        · walk_at "ev"
        · exact ⟨hh⟩
      all_goals try walk_at "cp"
      intro K2 eG eS eO eR hh r hr
      simp only [capG]
      have h1 := (hR r hr).1
      apply V.tuple_ints <;> walk_at "ev"
    · exact ⟨⟨by rw [List.map_id']; rfl, fun _ => rfl⟩⟩
theorem ldue_notext {G : Gx} (H : Has G P14) (d : D) (h1 : isA d "str" = false) (h2 : notDict d = true) : Calls G 1 "_law_due" [d] .none true := by
  refine calls_def H "_law_due" ["_law_text"] ["_law_rows_here", "_law_row"] [] rfl (by decide +kernel) rfl (bd1 fun _ => fun _ _ _ => rfl) ?_
  walk_at "start"
  apply V.sif
  · walk_at "ts"
  · refine ⟨fun _ => ?_⟩
    walk_at "ret"
  · exact ⟨fun h => by rw [h1] at h; cases h⟩
end Mine
end

section
set_option autoImplicit false
open PySem PyProof.Rows PySem.W PySem.NumText
namespace Mine
theorem natL_len {m : Nat} (hm : m ≤ 1000000) : (natL m).length ≤ 7 := by
  have h := toString_length_le (v := (m : Int)) (k := 7) (Int.natCast_nonneg _) (by decide) (by lia)
  rw [← numL_nat]
  unfold numL
  rw [Array.length_toList]
  exact h
theorem dueW_some {w : List Nat} {x : Int} (h : dueW w = some x) : OkW 7 w ∧ Due w ∧ x = valW w := by
  unfold dueW at h
  split at h
  · next q =>
    split at h
    · cases h
    · next z =>
      refine ⟨figB_ok.mp q, ?_, (Option.some.inj h).symm⟩
      by_cases y : (figs w).head? = some 48
      · exact .inr (Decidable.byContradiction fun p => z ⟨y, p⟩)
      · exact .inl y
  · cases h
theorem dueW_is {w : List Nat} (ok : OkW 7 w) (hd : Due w) : dueW w = some (valW w) := by
  unfold dueW
  rw [if_pos (figB_ok.mpr ok), if_neg]
  rintro ⟨a, b⟩
  rcases hd with hd | hd
  · exact hd a
  · exact b hd
theorem OkW.seven {w : List Nat} (ok : OkW 8 w) (hd : Due w) (hv : -1000000 ≤ valW w ∧ valW w ≤ 1000000) : OkW 7 w := by
  refine ⟨ok.ne, ?_, ok.all⟩
  rcases ok.cases with ⟨e, v⟩ | ⟨e, v⟩
  · have hl : lean (figs w) := .inl (hd.elim id fun q => by rw [q] at e; cases e)
    rw [← natL_lean ok.digits ok.ne hl]
    exact natL_len (by omega)
  · have hl : lean (figs w) := hd.imp id fun q => by rw [← e]; exact q
    rw [← natL_lean ok.digits ok.ne hl]
    exact natL_len (by omega)
theorem OkW.up {w : List Nat} (ok : OkW 7 w) : OkW 8 w := ⟨ok.ne, Nat.le_succ_of_le ok.len, ok.all⟩
theorem all_words {t : List Nat} {P : List Nat → Prop} : (∀ l ∈ wordsT t, ∀ w ∈ l, P w) ↔ ∀ l ∈ splitL t [59, 32], ∀ w ∈ splitL l [32], P w := by
  constructor
  · intro h l hl
    exact h _ (List.mem_map.mpr ⟨l, hl, rfl⟩)
  · intro h l hl
    obtain ⟨q, hq, rfl⟩ := List.mem_map.mp hl
    exact h q hq
theorem dueR_of {t : List Nat} (h : ∀ l ∈ splitL t [59, 32], ∀ w ∈ splitL l [32], dueW w = some (valW w)) : dueR t = (valsT t).map (List.map some) := by
  rw [vals_eq]
  unfold dueR
  rw [List.map_map]
  refine List.map_congr_left fun l hl => ?_
  show _ = ((splitL l [32]).map valW).map some
  rw [List.map_map]
  exact List.map_congr_left fun w hw => h l hl w hw
theorem getD_back (R : List (List Int)) : ((R.map (List.map some)).map fun r => r.map (·.getD 0)) = R := by
  rw [List.map_map]
  refine (List.map_congr_left (g := id) fun r _ => ?_).trans (List.map_id _)
  show (r.map some).map (·.getD 0) = _
  rw [List.map_map]
  exact List.map_id _
theorem dueT_some {t : List Nat} {R : List (List Int)} (h : dueT t = some R) : R = valsT t ∧ N13 R.length ∧ Grid R.length 1000000 R ∧ det R ≠ 0 ∧ (∀ l ∈ splitL t [59, 32], ∀ w ∈ splitL l [32], OkW 8 w) ∧ showT (valsT t) = t := by
  unfold dueT at h
  split at h
  · cases h
  next hb =>
  split at h
  · cases h
  next hd =>
  have hb : ∀ r ∈ dueR t, 0 < r.length ∧ rowBad (dueR t).length r = false := fun r hr => by
    refine ⟨?_, by simpa using fun q => hb (List.any_eq_true.mpr ⟨r, hr, q⟩)⟩
    obtain ⟨l, hl, rfl⟩ := List.mem_map.mp hr
    rw [List.length_map]
    exact List.length_pos_iff.mpr (splitL_ne _ _)
  obtain ⟨R0, e, hR⟩ := due_rows hb
  rw [e, getD_back] at h hd
  cases h
  have hw : ∀ l ∈ splitL t [59, 32], ∀ w ∈ splitL l [32], ∃ x, dueW w = some x := fun l hl w hw => by
    have h1 : (splitL l [32]).map dueW ∈ dueR t := List.mem_map.mpr ⟨l, hl, rfl⟩
    rw [e] at h1
    obtain ⟨r, _, q⟩ := List.mem_map.mp h1
    have h2 : dueW w ∈ (splitL l [32]).map dueW := List.mem_map.mpr ⟨w, hw, rfl⟩
    rw [← q] at h2
    obtain ⟨x, _, q⟩ := List.mem_map.mp h2
    exact ⟨x, q.symm⟩
  have hv : ∀ l ∈ splitL t [59, 32], ∀ w ∈ splitL l [32], dueW w = some (valW w) := fun l hl w hw' => by
    obtain ⟨x, q⟩ := hw l hl w hw'
    rw [q, (dueW_some q).2.2]
  have e2 := dueR_of hv
  rw [e] at e2
  have e3 : R = valsT t := by
    have := congrArg (fun Q : List (List (Option Int)) => Q.map fun r => r.map (·.getD 0)) e2
    simp only [getD_back] at this
    exact this
  have el : (dueR t).length = R.length := by rw [e, List.length_map]
  rw [el] at hR
  have h0 : 0 < R.length := by
    rw [← el]
    unfold dueR
    rw [List.length_map]
    exact List.length_pos_iff.mpr (splitL_ne _ _)
  have h3 : R.length ≤ 3 := by
    obtain ⟨r, hr⟩ := List.exists_mem_of_length_pos h0
    exact (hR r hr).2.1
  refine ⟨e3, ⟨by lia⟩, ⟨rfl, fun r hr => ⟨(hR r hr).1, (hR r hr).2.2⟩⟩, hd, fun l hl w hw' => (dueW_some (hv l hl w hw')).1.up, ?_⟩
  refine show_due (all_words.mpr fun l hl w hw' => ?_)
  have := dueW_some (hv l hl w hw')
  exact this.1.due this.2.1
theorem dueT_is {t : List Nat} (ok : ∀ l ∈ splitL t [59, 32], ∀ w ∈ splitL l [32], OkW 8 w) {n : Nat} (hn : N13 n) (g : Grid n 1000000 (valsT t)) (hd : det (valsT t) ≠ 0) (hs : showT (valsT t) = t) : dueT t ≠ none := by
  have du := all_words.mp (due_show (all_words.mpr ok) hs)
  have bd : ∀ l ∈ splitL t [59, 32], ∀ w ∈ splitL l [32], -1000000 ≤ valW w ∧ valW w ≤ 1000000 := fun l hl w hw => by
    have h1 : (splitL l [32]).map valW ∈ valsT t := by rw [vals_eq]; exact List.mem_map.mpr ⟨l, hl, rfl⟩
    exact (g.row _ h1).2 _ (List.mem_map.mpr ⟨w, hw, rfl⟩)
  have e := dueR_of fun l hl w hw => dueW_is ((ok l hl w hw).seven (du l hl w hw) (bd l hl w hw)) (du l hl w hw)
  have hn3 := hn.le
  have hn1 := hn.ge
  have hl := g.len
  unfold dueT
  rw [e, getD_back, if_neg, if_neg hd]
  · exact fun h => nomatch h
  intro q
  obtain ⟨r, hr, q⟩ := List.any_eq_true.mp q
  obtain ⟨xs, hx, rfl⟩ := List.mem_map.mp hr
  obtain ⟨g1, g2⟩ := g.row xs hx
  unfold rowBad at q
  rw [List.length_map, List.length_map, g1, hl] at q
  have e1 : ((xs.map some).map oD).any (fun y => PyData.eqv y .none) = false := by
    rw [List.any_eq_false]
    intro y hy
    obtain ⟨o, ho, rfl⟩ := List.mem_map.mp hy
    obtain ⟨x, _, rfl⟩ := List.mem_map.mp ho
    simp [oD, PyData.eqv]
  have hne : ((xs.map some).map fun x => ((x.getD 0).natAbs : Int)) ≠ [] := fun z => by
    rw [List.map_eq_nil_iff, List.map_eq_nil_iff] at z
    rw [z] at g1
    simp at g1
    lia
  have e2 : maxL ((xs.map some).map fun x => ((x.getD 0).natAbs : Int)) ≤ 1000000 := by
    obtain ⟨o, ho, z⟩ := List.mem_map.mp (maxL_top hne).1
    obtain ⟨x, hx, rfl⟩ := List.mem_map.mp ho
    rw [← z]
    have := g2 x hx
    show ((x.natAbs : Nat) : Int) ≤ _
    lia
  rw [e1] at q
  generalize maxL ((xs.map some).map fun x => ((x.getD 0).natAbs : Int)) = M at *
  simp at q
  lia
theorem listD_grid {R : List (List Int)} (h : listD (.list (R.map tI)) = true) : N13 R.length ∧ Grid R.length 1000000 R := by
  simp only [listD, List.length_map, Bool.and_eq_true, decide_eq_true_eq, List.all_eq_true] at h
  obtain ⟨⟨h1, h2⟩, h3⟩ := h
  refine ⟨⟨by lia⟩, rfl, fun r hr => ?_⟩
  have := h3 (tI r) (List.mem_map.mpr ⟨r, hr, rfl⟩)
  simp only [stepD, List.length_map, Bool.and_eq_true, decide_eq_true_eq, List.all_eq_true] at this
  refine ⟨this.1, fun x hx => ?_⟩
  have := this.2 (.int x) (List.mem_map.mpr ⟨x, hx, rfl⟩)
  simp [amongD, amongB] at this
  lia
theorem read_due {G : Gx} (H : Has G P14) (N : Nums G) (S : Sgs G) {t : List Nat} (ht : t.length ≤ 900) {R : List (List Int)} (h : dueT t = some R) : Calls G 10 "read" [tS t] (.list (R.map tI)) true := by
  obtain ⟨rfl, hn, g, hd, ok, hs⟩ := dueT_some h
  exact read_ok H N S t ht ok _ hn g hd hs
theorem read_undue {G : Gx} (H : Has G P14) (N : Nums G) (S : Sgs G) {Cr Ct : Addr} {bmr bm : List Value} (cr : Cls G "BadRows" Cr bmr) (ct : Cls G "BadText" Ct bm) (hC : Cr ≠ chained) (hCt : Ct = chained) {t : List Nat} (ht : t.length ≤ 900) (h : dueT t = none) : ∃ k, k ≤ 11 ∧ Raises G k "read" [tS t] Ct := by
  by_cases q : ∃ l ∈ splitL t [59, 32], ((splitL l [32]).all (figB 8)) = false
  · exact ⟨2, by decide, read_word H S ct t ht q⟩
  have ok : ∀ l ∈ splitL t [59, 32], ∀ w ∈ splitL l [32], OkW 8 w := fun l hl w hw => by
    have : ((splitL l [32]).all (figB 8)) = true := by
      cases z : (splitL l [32]).all (figB 8) with
      | true => rfl
      | false => exact absurd ⟨l, hl, z⟩ q
    exact figB_ok.mp (List.all_eq_true.mp this w hw)
  by_cases z : listD (.list ((valsT t).map tI)) = true
  · obtain ⟨hn, g⟩ := listD_grid z
    by_cases hd : det (valsT t) = 0
    · exact ⟨8, by decide, read_rows H S cr ct hC hCt t ht ok (needr_zero H N cr _ _ hn g hd)⟩
    · exact ⟨10, by decide, read_other H N S ct t ht ok _ hn g hd fun hs => dueT_is ok hn g hd hs h⟩
  · have tm : TameL (.list ((valsT t).map tI)) := by
      have hm := split_many (t := t) (sep := [59, 32])
      refine .lst ?_ fun d hx => ?_
      · rw [List.length_map, vals_eq, List.length_map]; lia
      · obtain ⟨r, hr, rfl⟩ := List.mem_map.mp hx
        refine .tup ?_ fun y hy => ?_
        · rw [vals_eq] at hr
          obtain ⟨l, hl, rfl⟩ := List.mem_map.mp hr
          have h1 := split_le hl
          have h2 := split_many (t := l) (sep := [32])
          rw [List.length_map, List.length_map]; lia
        · obtain ⟨x, _, rfl⟩ := List.mem_map.mp hy
          rfl
    exact ⟨8, by decide, read_rows H S cr ct hC hCt t ht ok (needr_raises H (bulk_raises H (needl_raises H N cr _ tm (by simpa using z))))⟩
end Mine
end

section
set_option autoImplicit false
open PySem PyProof.Rows PySem.W
namespace Mine
theorem pick6 {a b c d e f k : Int} (P : Int → Prop) (h : 0 ≤ k ∧ k < 6) (ha : P a) (hb : P b) (hc : P c) (hd : P d) (he : P e) (hf : P f) : P ([a, b, c, d, e, f].getD k.toNat 0) := by
  have : k.toNat = 0 ∨ k.toNat = 1 ∨ k.toNat = 2 ∨ k.toNat = 3 ∨ k.toNat = 4 ∨ k.toNat = 5 := by lia
  rcases this with e | e | e | e | e | e <;> rw [e] <;> assumption
theorem pick4 {a b c d k : Int} (P : Int → Prop) (h : 0 ≤ k ∧ k < 4) (ha : P a) (hb : P b) (hc : P c) (hd : P d) : P ([a, b, c, d].getD k.toNat 0) := by
  have : k.toNat = 0 ∨ k.toNat = 1 ∨ k.toNat = 2 ∨ k.toNat = 3 := by lia
  rcases this with e | e | e | e <;> rw [e] <;> assumption
theorem sumTo_zero {f : Nat → Int} : ∀ n, (∀ k, k < n → f k = 0) → sumTo f n = 0
  | 0, _ => rfl
  | n + 1, h => by rw [sumTo, sumTo_zero n fun k hk => h k (by lia), h n (by lia)]; rfl
theorem rep_getD {n k : Nat} : (List.replicate n (0 : Int)).getD k 0 = 0 := by
  by_cases h : k < n
  · simp [List.getD, h]
  · simp [List.getD, h]
theorem zero_grid {n : Nat} : Grid n 1000000 (List.replicate n (List.replicate n (0 : Int))) where
  len := List.length_replicate
  row := fun r hr => by
    obtain ⟨_, rfl⟩ := List.mem_replicate.mp hr
    refine ⟨List.length_replicate, fun x hx => ?_⟩
    obtain ⟨_, rfl⟩ := List.mem_replicate.mp hx
    decide
theorem zero_det {n : Nat} (hn : 1 ≤ n) : det (List.replicate n (List.replicate n (0 : Int))) = 0 := by
  have g := zero_grid (n := n)
  obtain ⟨m, rfl⟩ : ∃ m, n = m + 1 := ⟨n - 1, by lia⟩
  rw [List.replicate_succ] at g ⊢
  rw [det_cons g]
  exact sumTo_zero _ fun k _ => by rw [rep_getD, Int.mul_zero, Int.zero_mul]
theorem show_len {R : List (List Int)} (hl : R.length ≤ 3) (h : ∀ r ∈ R, r.length ≤ 3 ∧ ∀ x ∈ r, x.natAbs ≤ 1000000) : (showT R).length ≤ 100 := by
  cases R with
  | nil => exact Nat.zero_le _
  | cons r R =>
    have h1 := showsum_len _ h
    have h2 := join_len [59, 32] (ts := (r :: R).map fun r => joinL [32] (r.map numL)) (by simp)
    have key : ∀ ts : List (List Nat), wLen [59, 32] ts = 2 * ts.length + (ts.map (·.length)).sum := fun ts => by
      induction ts with
      | nil => rfl
      | cons t ts ih => simp [wLen] at ih ⊢; lia
    rw [key, List.length_map] at h2
    unfold showT
    lia
inductive Hnd : D → Prop
  | txt (t : List Nat) : t.length ≤ 104 → Hnd (tS t)
  | oth (d : D) : isA d "str" = false → notDict d = true → Hnd d
theorem odd_hnd (c : Int) : Hnd (oddF c) := by
  have key : ∀ d ∈ oddA.map tS ++ oddB, Hnd d := fun d hd => by
    rcases List.mem_append.mp hd with h | h
    · obtain ⟨t, ht, rfl⟩ := List.mem_map.mp h
      have : ∀ t ∈ oddA, t.length ≤ 104 := by decide
      exact .txt t (this t ht)
    · simp only [oddB, List.mem_cons, List.not_mem_nil, or_false] at h
      rcases h with rfl | rfl | rfl | rfl
      · exact .oth _ rfl rfl
      · exact .oth _ rfl rfl
      · exact .oth _ rfl rfl
      · exact .txt _ (by decide)
  have h1 := Int.emod_nonneg c (show (16 : Int) ≠ 0 by decide)
  have h2 := Int.emod_lt_of_pos c (show 0 < (16 : Int) by decide)
  have hl : (oddA.map tS ++ oddB).length = 16 := rfl
  refine key _ ?_
  unfold oddF
  have : (c % 16).toNat < (oddA.map tS ++ oddB).length := by lia
  rw [List.getD, List.getElem?_eq_getElem this]
  exact List.getElem_mem this
abbrev oneS : List (List Nat) := [[32], [10], [9], [59, 32]]
abbrev wG (L : List Int) (n : Nat) (R : List (List Int)) (od : Sl) (ot : Sl) (o1 o2 o3 o4 o5 : Sl) : Sg := [("_law_script", .fz (.list (L.map .int))), ("_law_many", .fz (.int n)), ("_law_rows_here", .fz (.list (R.map tI))), ("_law_handed", .fz (.list (R.map tI))), ("_law_told", od), ("_law_text", ot), ("_law_cell_here", o1), ("_law_place", o2), ("_law_way", o3), ("_law_due_here", o4), ("_law_found", o5)]
theorem law_ok {G : Gx} (H : Has G P14) (N : Nums G) (S : Sgs G) {Cg Cr Cp Cw Cs Ct Cm : Addr} (E : Errs G Cg Cr Cp Cw Cs Ct Cm) (ap : [Cg, Cr, Cp, Cw, Cs, Ct, Cm].Nodup) (hCt : Ct = chained) (L : List Int) (hL : L.length ≤ 63) : Calls G 20 "law" [.list (L.map .int)] (.bool true) true := by
  refine calls_def H "law" ["_law_script"] ["_law_many", "_law_rows_here", "_law_handed", "_law_told", "_law_text", "_law_cell_here", "_law_place", "_law_way", "_law_due_here", "_law_found"] [] rfl (by decide +kernel) rfl (bd1 fun _ => fun _ _ _ => rfl) ?_
  walk_at "start"
  walk_at "set"
  obtain ⟨n, en, hn⟩ : ∃ n : Nat, 1 + cell L 0 / 6 % 3 = (n : Int) ∧ N13 n := ⟨(1 + cell L 0 / 6 % 3).toNat, by lia, ⟨by lia⟩⟩
  have hn3 := hn.le
  have hn1 := hn.ge
  rw [en]
  have hm := pick6 (a := 3) (b := 9) (c := 60) (d := 1000) (e := 1000000) (f := 9) (k := cell L 0 % 6) (fun m => 1 ≤ m ∧ m ≤ 1000000) (by lia) (by decide) (by decide) (by decide) (by decide) (by decide) (by decide)
  walk_at "set"
  have hR := rowsF_good (L := L) (first := 3) (n := n) hm.1 hn
  revert hR
  generalize rowsF L 3 (([3, 9, 60, 1000, 1000000, 9] : List Int).getD (cell L 0 % 6).toNat 0) n = R
  rintro ⟨g, hd⟩
  replace g := g.mono hm.2
  clear hm
  have hl := g.len
  have ne : ∀ {i j : Nat} {x y : Addr}, i ≠ j → [Cg, Cr, Cp, Cw, Cs, Ct, Cm][i]? = some x → [Cg, Cr, Cp, Cw, Cs, Ct, Cm][j]? = some y → x ≠ y := fun hij hx hy e => hij ((List.getElem?_inj (List.getElem?_eq_some_iff.mp hx).1 ap).mp (by rw [hx, hy, e]))
  have hC : Cr ≠ chained := hCt ▸ ne (i := 1) (j := 5) (by decide) rfl rfl
  have hnr := names_ok H E E.rows.obj [true, false, false, false, false, false] (by
    rw [isOf_self, isOf_ne (CX := Cp) (ne (i := 2) (j := 1) (by decide) rfl rfl) (ne (i := 2) (j := 0) (by decide) rfl rfl), isOf_ne (CX := Cw) (ne (i := 3) (j := 1) (by decide) rfl rfl) (ne (i := 3) (j := 0) (by decide) rfl rfl), isOf_ne (CX := Cs) (ne (i := 4) (j := 1) (by decide) rfl rfl) (ne (i := 4) (j := 0) (by decide) rfl rfl),
      isOf_ne (CX := Ct) (ne (i := 5) (j := 1) (by decide) rfl rfl) (ne (i := 5) (j := 0) (by decide) rfl rfl), isOf_ne (CX := Cm) (ne (i := 6) (j := 1) (by decide) rfl rfl) (ne (i := 6) (j := 0) (by decide) rfl rfl)]
    rfl) 0 rfl rfl (fun m hm => absurd hm (by lia)) (by decide)
  have hnt := names_ok H E E.text.obj [false, false, false, false, true, false] (by
    rw [isOf_self, isOf_ne (CX := Cr) (ne (i := 1) (j := 5) (by decide) rfl rfl) (ne (i := 1) (j := 0) (by decide) rfl rfl), isOf_ne (CX := Cp) (ne (i := 2) (j := 5) (by decide) rfl rfl) (ne (i := 2) (j := 0) (by decide) rfl rfl), isOf_ne (CX := Cw) (ne (i := 3) (j := 5) (by decide) rfl rfl) (ne (i := 3) (j := 0) (by decide) rfl rfl),
      isOf_ne (CX := Cs) (ne (i := 4) (j := 5) (by decide) rfl rfl) (ne (i := 4) (j := 0) (by decide) rfl rfl), isOf_ne (CX := Cm) (ne (i := 6) (j := 5) (by decide) rfl rfl) (ne (i := 6) (j := 0) (by decide) rfl rfl)]
    rfl) 4 rfl rfl (by decide) (by decide)
  have hrow : ∀ r ∈ R, r.length ≤ 3 ∧ ∀ x ∈ r, x.natAbs ≤ 1000000 := fun r hr => ⟨by rw [(g.row r hr).1]; exact hn3, fun x hx => nabs_le ((g.row r hr).2 x hx)⟩
  have hshow := lshown_ok H (shown_ok H N n R hn g hd)
  walk_at "set"
  walk_at "set"
  apply V.set (d := tS (showT R))
  · apply V.sjoin (ts := R.map fun r => joinL [32] (r.map numL))
    · walk_at "ev"
    · exact V.cstrL (a := [59, 32]) ⟨by decide +kernel⟩ ⟨by decide +kernel⟩
    · apply V.comp (fr := true) (S := tI) (T := tS) (xs := R) (fun r => joinL [32] (r.map numL)) [] []
      all_goals try walk_at "cp"
      intro K2 eG eS eO eR hh r hr
      simp only [capG]
      obtain ⟨h1, h2⟩ := hrow r hr
      have h3 := showrow_len h1 h2
      apply V.sjoin (ts := r.map numL)
      · walk_at "ev"
      · exact V.cstrL (a := [32]) ⟨by decide +kernel⟩ ⟨by decide +kernel⟩
      · apply V.comp (fr := true) (S := PyData.int) (T := tS) (xs := r) numL [] []
        all_goals try walk_at "cp"
        intro K3 eG eS eO eR hh x hx
        simp only [capG]
        have hb := log_fit (h2 x hx)
        walk_at "ev"
      · refine ⟨?_⟩
        rw [List.length_map, List.length_singleton]
        lia
      · walk_at "ev"
      · walk_at "ev"
    · refine ⟨?_⟩
      have k := showsum_len R hrow
      rw [List.length_map]
      show _ + R.length * 2 ≤ _
      lia
    · walk_at "ev"
    · walk_at "ev"
  all_goals try walk_at "st"
  have hz := lshown_raises H (by decide) E.grid E.rows.obj (by simp) (shown_raises H (needr_zero H N E.rows n _ hn zero_grid (zero_det hn1))) hnr
  rw [List.map_replicate] at hz
  have hsl : (showT R).length ≤ 100 := show_len (by lia) hrow
  generalize showT R = t at *
  apply V.sif
  · apply V.tany
    apply V.tor
    · apply V.tcmp
      · walk_at "ev"
      · exact V.list (V.l_cons (V.name_s (by walk_at "mem")) V.l_nil ⟨rfl⟩) ⟨by show 1 ≤ sizeLine; decide⟩
      · exact V.cned ⟨by simp only [PyData.depth, PyData.depthAll]; decide⟩ ⟨rfl⟩ ⟨rfl⟩
      · walk_at "ev"
    refine ⟨fun _ => ?_⟩
    apply V.tor
    · walk_at "ts"
    refine ⟨fun _ => ?_⟩
    apply V.tor
    · apply V.tcmp
      · apply V.call1
        · walk_at "ev"
        · apply V.repd (d := tI (List.replicate n 0)) (x := (n : Int))
          · exact V.list (V.l_cons (V.rep0 (by walk_at "ev") (by walk_at "ev") ⟨by lia⟩) V.l_nil ⟨rfl⟩) ⟨by show 1 ≤ sizeLine; decide⟩
          · walk_at "ev"
          · exact ⟨V.fk_tI.1 _⟩
          · exact ⟨by lia⟩
        · exact XK.of (by assumption) hz
        all_goals walk_at "ev"
      · walk_at "ev"
      · exact V.cned ⟨by decide⟩ ⟨rfl⟩ ⟨rfl⟩
      · walk_at "ev"
    · exact ⟨fun _ => V.tonil⟩
  · refine ⟨fun h => ?_⟩
    exfalso
    simp [PyData.eqv, PyData.eqvAll, nameAt] at h
  refine ⟨fun _ => V.snil ?_⟩
  walk_at "set"
  generalize more L 2 = c
  have hp := pick4 (a := 0) (b := (t.length : Int)) (c := c / 28 % ((t.length : Int) + 1)) (d := c / 28 % ((t.length : Int) + 1)) (k := c / 7 % 4) (fun m => 0 ≤ m ∧ m ≤ t.length) (by lia) (by lia) (by lia)
    ⟨Int.emod_nonneg _ (by lia), Int.le_of_lt_add_one (Int.emod_lt_of_pos _ (by lia))⟩ ⟨Int.emod_nonneg _ (by lia), Int.le_of_lt_add_one (Int.emod_lt_of_pos _ (by lia))⟩
  walk_at "set"
  revert hp
  generalize ([0, (t.length : Int), c / 28 % ((t.length : Int) + 1), c / 28 % ((t.length : Int) + 1)] : List Int).getD (c / 7 % 4).toNat 0 = p
  rintro ⟨hp0, hp1⟩
  walk_at "set"
  apply V.sif_join fun g' => ∃ t1, g' = wG L n R (.fz (.list [tS t])) (.fz (tS t1)) (.fz (.int c)) (.fz (.int p)) (.fz (.int (cell L 1 % 8))) .no .no ∧ t1.length ≤ 102
  · walk_at "ts"
  · refine ⟨fun _ => ?_⟩
    have k0 := Int.emod_nonneg (c / 2800) (show (4 : Int) ≠ 0 by decide)
    have k4 := Int.emod_lt_of_pos (c / 2800) (show 0 < (4 : Int) by decide)
    have hs : (oneS.map tS)[(c / 2800 % 4).toNat]? = some (tS (oneS.getD (c / 2800 % 4).toNat [])) := by
      have : (c / 2800 % 4).toNat < oneS.length := by show _ < 4; lia
      rw [List.getElem?_map, List.getD, List.getElem?_eq_getElem this]; rfl
    have ho : (oneS.getD (c / 2800 % 4).toNat []).length ≤ 2 := by
      have : (c / 2800 % 4).toNat = 0 ∨ (c / 2800 % 4).toNat = 1 ∨ (c / 2800 % 4).toNat = 2 ∨ (c / 2800 % 4).toNat = 3 := by lia
      rcases this with e | e | e | e <;> rw [e] <;> decide
    revert hs ho
    generalize oneS.getD (c / 2800 % 4).toNat [] = z
    intro hs ho
    apply V.set (d := tS (t.take p.toNat ++ z ++ t.drop p.toNat))
    · apply V.adds
      · apply V.adds
        · walk_at "ev"
        · apply V.item_list (ds := oneS.map tS)
          · exact V.list (V.l_cons (V.cstrL (a := [32]) ⟨by decide +kernel⟩ ⟨by decide +kernel⟩) (V.l_cons (V.cstrL (a := [10]) ⟨by decide +kernel⟩ ⟨by decide +kernel⟩) (V.l_cons (V.cstrL (a := [9]) ⟨by decide +kernel⟩ ⟨by decide +kernel⟩) (V.l_cons (V.cstrL (a := [59, 32]) ⟨by decide +kernel⟩ ⟨by decide +kernel⟩) V.l_nil ⟨rfl⟩) ⟨rfl⟩) ⟨rfl⟩) ⟨rfl⟩) ⟨by decide⟩
          · walk_at "ev"
          · exact ⟨k0, Int.lt_trans k4 (by decide)⟩
          · exact ⟨hs⟩
          · walk_at "ev"
        · walk_at "ev"
      · walk_at "ev"
      · walk_at "ev"
    all_goals try walk_at "st"
    exact V.snil ⟨_, rfl, by simp only [List.length_append, List.length_take, List.length_drop]; lia⟩
  · exact ⟨fun _ => V.snil ⟨t, rfl, by lia⟩⟩
  rintro _ ⟨t1, rfl, h1⟩
  have hsg := lsign_ok H (c / 700)
  apply V.sif_join fun g' => ∃ t1, g' = wG L n R (.fz (.list [tS t])) (.fz (tS t1)) (.fz (.int c)) (.fz (.int p)) (.fz (.int (cell L 1 % 8))) .no .no ∧ t1.length ≤ 103
  · walk_at "ts"
  · refine ⟨fun _ => ?_⟩
    apply V.set (d := tS (t1.take p.toNat ++ [signF (c / 700)] ++ t1.drop p.toNat))
    · apply V.adds
      · apply V.adds
        · walk_at "ev"
        · walk_at "ev"
        · walk_at "ev"
      · walk_at "ev"
      · walk_at "ev"
    all_goals try walk_at "st"
    exact V.snil ⟨_, rfl, by simp only [List.length_append, List.length_take, List.length_drop, List.length_singleton]; lia⟩
  · exact ⟨fun _ => V.snil ⟨t1, rfl, by lia⟩⟩
  clear h1 t1
  rintro _ ⟨t1, rfl, h1⟩
  apply V.sif_join fun g' => ∃ t1, g' = wG L n R (.fz (.list [tS t])) (.fz (tS t1)) (.fz (.int c)) (.fz (.int p)) (.fz (.int (cell L 1 % 8))) .no .no ∧ t1.length ≤ 103
  · walk_at "ts"
  · refine ⟨fun _ => ?_⟩
    apply V.set (d := tS (t1.take p.toNat ++ t1.drop (p + 1).toNat))
    · apply V.adds
      · walk_at "ev"
      · walk_at "ev"
      · walk_at "ev"
    all_goals try walk_at "st"
    exact V.snil ⟨_, rfl, by simp only [List.length_append, List.length_take, List.length_drop]; lia⟩
  · exact ⟨fun _ => V.snil ⟨t1, rfl, by lia⟩⟩
  clear h1 t1
  rintro _ ⟨t1, rfl, h1⟩
  apply V.sif_join fun g' => ∃ t1, g' = wG L n R (.fz (.list [tS t])) (.fz (tS t1)) (.fz (.int c)) (.fz (.int p)) (.fz (.int (cell L 1 % 8))) .no .no ∧ t1.length ≤ 104
  · walk_at "ts"
  · refine ⟨fun _ => ?_⟩
    apply V.set (d := tS (t1.take p.toNat ++ [signF (c / 700)] ++ t1.drop (p + 1).toNat))
    · apply V.adds
      · apply V.adds
        · walk_at "ev"
        · walk_at "ev"
        · walk_at "ev"
      · walk_at "ev"
      · walk_at "ev"
    all_goals try walk_at "st"
    exact V.snil ⟨_, rfl, by simp only [List.length_append, List.length_take, List.length_drop, List.length_singleton]; lia⟩
  · exact ⟨fun _ => V.snil ⟨t1, rfl, by lia⟩⟩
  clear h1 t1
  rintro _ ⟨t1, rfl, h1⟩
  apply V.sif_join fun g' => ∃ d, g' = wG L n R (.fz (.list [tS t])) (.fz d) (.fz (.int c)) (.fz (.int p)) (.fz (.int (cell L 1 % 8))) .no .no ∧ Hnd d
  · walk_at "ts"
  · refine ⟨fun _ => ?_⟩
    have hod := lodd_ok H c
    apply V.set_alias (d := oddF c) (f := false)
    · walk_at "ev"
    all_goals try walk_at "st"
    exact V.snil ⟨_, rfl, odd_hnd c⟩
  · exact ⟨fun _ => V.snil ⟨_, rfl, .txt t1 h1⟩⟩
  clear h1 t1
  rintro _ ⟨d, rfl, hd4⟩
  obtain ⟨o, hdue, hfound⟩ : ∃ o : Option (List (List Int)), Calls G 8 "_law_due" [d] (dD o) true ∧ match o with
      | none => Calls G 12 "_law_read" [d] (.tuple [.str (nameAt 4)]) true
      | some Q => Calls G 12 "_law_read" [d] (.list (Q.map tI)) true ∧ Q.length ≤ 3 ∧ ∀ r ∈ Q, r.length = Q.length := by
    cases hd4 with
    | txt t2 h2 =>
      refine ⟨dueT t2, ldue_ok H t2 (by lia), ?_⟩
      cases e : dueT t2 with
      | none =>
        obtain ⟨k, hk, hr⟩ := read_undue H N S E.rows E.text hC hCt (t := t2) (by lia) e
        exact lread_raises H hk E.grid E.text.obj (by simp) hr hnt
      | some Q =>
        obtain ⟨_, hn, g, _⟩ := dueT_some e
        exact ⟨lread_ok H (read_due H N S (t := t2) (by lia) e), hn.le, fun r hr => (g.row r hr).1⟩
    | oth _ h2 h3 => exact ⟨none, (ldue_notext H d h2 h3).more (by decide), lread_raises H (by decide) E.grid E.text.obj (by simp) (read_notext H E.text d h2 h3) hnt⟩
  walk_at "set"
  cases o with
  | none =>
    have hfound : Calls G 12 "_law_read" [d] (.tuple [.str (nameAt 4)]) true := hfound
    walk_at "set"
    apply V.sif (b := true)
    · apply V.tcmp
      · walk_at "ev"
      · walk_at "ev"
      · exact V.cisn
      · walk_at "ev"
    · refine ⟨fun _ => ?_⟩
      apply V.sret
      · apply V.ecmp
        · walk_at "ev"
        · walk_at "ev"
        · exact V.ceqd ⟨by decide⟩ ⟨rfl⟩ ⟨rfl⟩
        · walk_at "ev"
      · exact ⟨⟨rfl, fun _ => rfl⟩⟩
    · exact ⟨fun h => by cases h⟩
  | some Q =>
    obtain ⟨hq, hQ3, hQr⟩ : Calls G 12 "_law_read" [d] (.list (Q.map tI)) true ∧ Q.length ≤ 3 ∧ ∀ r ∈ Q, r.length = Q.length := hfound
    have ht := lrows_told H Q Q.length rfl hQr (by lia)
    walk_at "set"
    apply V.sif (b := false)
    · apply V.tcmp
      · walk_at "ev"
      · walk_at "ev"
      · exact V.cisn
      · walk_at "ev"
    · exact ⟨fun h => by cases h⟩
    refine ⟨fun _ => V.snil ?_⟩
    apply V.sret
    · walk_at "ev"
    · exact ⟨⟨by simp, fun _ => rfl⟩⟩
end Mine
end

end

namespace Mine
open PySem PySem.W PyProof.Rows
theorem recs14 : recsOf view14 = P14 := by kernel_rfl
theorem join14 : PySem.Challenge.rw_uf010034_14.Holds := by
  obtain ⟨d, kwd, hdef, hp, hk⟩ := def_law (q := view14) (p := PySem.Challenge.rw_uf010034_14.row.prog) (n := PySem.Challenge.rw_uf010034_14.row.name) (by decide +kernel) (by kernel_rfl) (by kernel_rfl)
  refine holds_law said14 fun said => ?_
  refine PySem.W.holds_open (q := view14) (loose := []) (Xt := fun _ => true) (XP := fun _ _ => True) (Yf := (Obs ctab14 ntab14)) (Ya := fun _ => ObsVal ctab14 ntab14) (YP := fun _ h => ClsSays ctab14 h ∧ NumSays ntab14 h) (N := 4750)
    left14 obs_says obs_keeps (fun _ _ => trivial) (fun _ _ _ _ _ => trivial) hdef hp hk (fun s _ => recFacts_nil rfl) rfl said (by decide +kernel) ⟨rfl, rfl, rfl, rfl, rfl, by decide +kernel⟩ ?hw ?hc
  case hw => w_witness2
  case hc =>
    intro w s₀ s₁ mg mb G Y fa o pm cd doc dV kV ho hd hcd hD hmg hg args vals as hpre hlay hrd hwl hlo
    clear hd hcd hD ho
    refine Ground.open G ?_
    intro T B D TE TW
    clear B D TE TW G
    have en := defOf_name hdef
    have hmg' : mg "law" = some (.ref fa) := by rw [en] at hmg; exact hmg
    clear hmg hdef hp hk
    wrow_args hpre hlay hrd hwl hlo
    rename_i L _ _ _ _ _ _ _ _ _ _ _ _ w1 _ _ _ hc _
    have tu : TabsUp s₁.heap := ⟨fun _ h => (nomatch (show _ ∈ [] from h)), fun _ h => (nomatch (show _ ∈ [] from h))⟩
    have H0 := has_top (prog := PySem.Challenge.rw_uf010034_14.row.prog) (w := w) T tu (by decide +kernel)
    have H : Has ⟨PySem.Challenge.rw_uf010034_14.row.prog, w, mask s₁.heap tabAt, mg⟩ P14 := recs14 ▸ H0
    have N : Nums ⟨PySem.Challenge.rw_uf010034_14.row.prog, w, mask s₁.heap tabAt, mg⟩ := ⟨⟨(num_top (prog := PySem.Challenge.rw_uf010034_14.row.prog) (w := w) T _ _ (by decide +kernel)).out⟩, ⟨(num_top (prog := PySem.Challenge.rw_uf010034_14.row.prog) (w := w) T _ _ (by decide +kernel)).out⟩⟩
    have S : Sgs ⟨PySem.Challenge.rw_uf010034_14.row.prog, w, mask s₁.heap tabAt, mg⟩ := ⟨⟨(num_top (prog := PySem.Challenge.rw_uf010034_14.row.prog) (w := w) T _ _ (by decide +kernel)).out⟩, ⟨(str_top (prog := PySem.Challenge.rw_uf010034_14.row.prog) (w := w) T _ _ (by decide +kernel)).out⟩⟩
    have E : Errs ⟨PySem.Challenge.rw_uf010034_14.row.prog, w, mask s₁.heap tabAt, mg⟩ 24 37 49 61 73 85 97 := ⟨Cls.mask tu (cls_top T Y.1 _ _ _ (List.mem_of_getElem? (i := 0) rfl) (by decide +kernel) (by decide +kernel)), Cls.mask tu (cls_top T Y.1 _ _ _ (List.mem_of_getElem? (i := 1) rfl) (by decide +kernel) (by decide +kernel)), Cls.mask tu (cls_top T Y.1 _ _ _ (List.mem_of_getElem? (i := 2) rfl) (by decide +kernel) (by decide +kernel)), Cls.mask tu (cls_top T Y.1 _ _ _ (List.mem_of_getElem? (i := 3) rfl) (by decide +kernel) (by decide +kernel)), Cls.mask tu (cls_top T Y.1 _ _ _ (List.mem_of_getElem? (i := 4) rfl) (by decide +kernel) (by decide +kernel)), Cls.mask tu (cls_top T Y.1 _ _ _ (List.mem_of_getElem? (i := 5) rfl) (by decide +kernel) (by decide +kernel)), Cls.mask tu (cls_top T Y.1 _ _ _ (List.mem_of_getElem? (i := 6) rfl) (by decide +kernel) (by decide +kernel))⟩
    refine law_top tu (law_ok H N S E (by decide) rfl L (by omega)) (by decide) hmg' w1 fun v s' st hk hr => ?_
    obtain ⟨_, r⟩ := hr
    obtain ⟨rfl, _⟩ := r.bool_inv
    obtain ⟨h', tk, rfl⟩ := st
    refine ⟨.inl ⟨_, .bool true, [], rfl, fun _ => rfl, .bool true, ?_, fun _ => ⟨.nil, fun a ha => nomatch ha⟩⟩, hk, rfl, .of_eq hg⟩
    wrow_post
end Mine

theorem PySem.Challenge.cw_uf010034_14_holds : PySem.Challenge.rw_uf010034_14.Holds := by
  exact Mine.join14

