import PyProof.Rows.All
import Wide.All
import OpenK.AllK
import Wide.FinOn
import HandS.ForMost
import HandS.IsInst
import HandS.WideBits
import HandS.Walk
import PyProof.ReprRoads
import PyProof.ReprText
import HandS.ForExc
import PyProof.ReprBulk
import PySem.Challenge.RW_lastheld_k11_names_and_integers
set_option Elab.async false
set_option linter.all false
set_option maxRecDepth 100000
set_option maxHeartbeats 4000000
/-! LK1: data of any kind behind a value, over the heap without the objects that change -/
namespace LK
open PySem PySem.Spec L2
open PyProof.Rows hiding St

/-! ### the heap without some addresses -/
def off (S : List Addr) (H : Hp) : Hp := fun b => if b ∈ S then none else H b
theorem off_some {S : List Addr} {H : Hp} {b : Addr} {o : HO} (h : off S H b = some o) : b ∉ S ∧ H b = some o := by
  unfold off at h
  by_cases m : b ∈ S
  · rw [if_pos m] at h
    cases h
  · rw [if_neg m] at h
    exact ⟨m, h⟩
theorem off_mk {S : List Addr} {H : Hp} {b : Addr} {o : HO} (m : b ∉ S) (h : H b = some o) : off S H b = some o := by
  unfold off
  rw [if_neg m]
  exact h
theorem off_le {S : List Addr} {H : Hp} : Same (off S H) H := fun _ _ h => (off_some h).2
theorem off_sub {S T : List Addr} {H : Hp} (h : ∀ b ∈ S, b ∈ T) : Same (off T H) (off S H) := fun b o e =>
  off_mk (fun m => (off_some e).1 (h b m)) (off_some e).2
/-- a pot: two ints -/
def PotAt (H : Hp) (a : Addr) : Prop := ∃ p q : Int, H a = some (.lst [.int p, .int q]) ∧ 0 ≤ p ∧ 0 ≤ q ∧ q < 2147483648
/-- all but a is kept, at a a pot stays a pot -/
structure Ext (a : Addr) (H H' : Hp) : Prop where
  keep : ∀ b o, b ≠ a → H b = some o → H' b = some o
  pot : PotAt H a → PotAt H' a
theorem Ext.refl {a : Addr} {H : Hp} : Ext a H H := ⟨fun _ _ _ h => h, fun h => h⟩
theorem Ext.trans {a : Addr} {H H1 H2 : Hp} (x : Ext a H H1) (y : Ext a H1 H2) : Ext a H H2 := ⟨fun b o n h => y.keep b o n (x.keep b o n h), fun h => y.pot (x.pot h)⟩
theorem Ext.of_same {a : Addr} {H H' : Hp} (s : Same H H') : Ext a H H' := ⟨fun b o _ h => s b o h, fun ⟨p, q, h, r⟩ => ⟨p, q, s _ _ h, r⟩⟩
theorem same_new {H : Hp} {p : Addr} {o : HO} (h : H p = none) : Same H (upd H p o) := fun b u e => by
  rw [upd_ne (ne_of_none e h)]
  exact e
theorem Ext.new {a : Addr} {H : Hp} {p : Addr} {o : HO} (h : H p = none) : Ext a H (upd H p o) := Ext.of_same (same_new h)
theorem Ext.off {a : Addr} {S : List Addr} {H H' : Hp} (x : Ext a H H') (m : a ∈ S) : Same (off S H) (off S H') := fun b o h => by
  obtain ⟨n, e⟩ := off_some h
  exact off_mk n (x.keep b o (fun z => n (z ▸ m)) e)
/-- the place: the pot, the objects that change, all of them there -/
structure Fr (a : Addr) (S : List Addr) (H : Hp) : Prop where
  mem : a ∈ S
  pot : PotAt H a
  all : ∀ b ∈ S, ∃ o, H b = some o
theorem Fr.ext {a : Addr} {S : List Addr} {H H' : Hp} (f : Fr a S H) (x : Ext a H H') : Fr a S H' := ⟨f.mem, x.pot f.pot, fun b m => by
  by_cases e : b = a
  · subst e
    obtain ⟨p, q, h, _⟩ := x.pot f.pot
    exact ⟨_, h⟩
  · obtain ⟨o, h⟩ := f.all b m
    exact ⟨o, x.keep b o e h⟩⟩
theorem Fr.out {a : Addr} {S : List Addr} {H : Hp} (f : Fr a S H) {p : Addr} (h : H p = none) : p ∉ S := fun m => by
  obtain ⟨o, e⟩ := f.all p m
  rw [h] at e
  cases e
theorem same_off_push {S : List Addr} {H H' : Hp} {L : Addr} (h : H L = none) (s : Same (off S H) (off S H')) : Same (off S H) (off (L :: S) H') := fun b o e => by
  obtain ⟨n, e1⟩ := off_some (s b o e)
  obtain ⟨_, e0⟩ := off_some e
  refine off_mk (fun m => ?_) e1
  rcases List.mem_cons.mp m with z | z
  · rw [z, h] at e0
    cases e0
  · exact n z
theorem same_off_pop {S : List Addr} {H : Hp} {L : Addr} : Same (off (L :: S) H) (off S H) := off_sub fun _ m => List.mem_cons_of_mem _ m

/-! ### data -/
def kD : Key → PyData
  | .inl i => .int i
  | .inr x => .str x
mutual
inductive D (K : PySem.W.Frag) (H : Hp) : V → PyData → Prop
  | non : D K H .non .none
  | bl (b : Bool) : D K H (.bl b) (.bool b)
  | int (i : Int) : D K H (.int i) (.int i)
  | str (x : Str) : D K H (.str x) (.str x)
  | lst {a : Addr} {xs : List V} {ds : List PyData} : H a = some (.lst xs) → DA K H xs ds → D K H (.ref a) (.list ds)
  | tup {a : Addr} {xs : List V} {ds : List PyData} : SqT K H a xs → DA K H xs ds → D K H (.ref a) (.tuple ds)
  | dic {a : Addr} {kvs : List (Key × V)} {ds : List (PyData × PyData)} : H a = some (.dK kvs) → DK K H kvs ds → D K H (.ref a) (.dict ds)
inductive DA (K : PySem.W.Frag) (H : Hp) : List V → List PyData → Prop
  | nil : DA K H [] []
  | cons {v : V} {vs : List V} {d : PyData} {ds : List PyData} : D K H v d → DA K H vs ds → DA K H (v :: vs) (d :: ds)
inductive DK (K : PySem.W.Frag) (H : Hp) : List (Key × V) → List (PyData × PyData) → Prop
  | nil : DK K H [] []
  | cons {k : Key} {v : V} {kvs : List (Key × V)} {d : PyData} {ds : List (PyData × PyData)} : D K H v d → DK K H kvs ds → DK K H ((k, v) :: kvs) ((kD k, d) :: ds)
end
theorem sqT_same {K : PySem.W.Frag} {H H' : Hp} {a : Addr} {xs : List V} (e : Same H H') (h : SqT K H a xs) : SqT K H' a xs := by
  rcases h with (h | ⟨o, h⟩) | h
  · exact .inl (.inl (e _ _ h))
  · exact .inl (.inr ⟨o, e _ _ h⟩)
  · exact .inr h
section
variable {K : PySem.W.Frag} {H H' : Hp}
mutual
theorem D.same (e : Same H H') : ∀ (d : PyData) (v : V), D K H v d → D K H' v d
  | .none, _, h => by
    cases h
    exact .non
  | .bool b, _, h => by
    cases h
    exact .bl b
  | .int i, _, h => by
    cases h
    exact .int i
  | .str x, _, h => by
    cases h
    exact .str x
  | .list ds, _, h => by
    cases h with
    | lst h1 h2 => exact .lst (e _ _ h1) (DA.same e ds _ h2)
  | .tuple ds, _, h => by
    cases h with
    | tup h1 h2 => exact .tup (sqT_same e h1) (DA.same e ds _ h2)
  | .dict ds, _, h => by
    cases h with
    | dic h1 h2 => exact .dic (e _ _ h1) (DK.same e ds _ h2)
theorem DA.same (e : Same H H') : ∀ (ds : List PyData) (vs : List V), DA K H vs ds → DA K H' vs ds
  | [], _, h => by
    cases h
    exact .nil
  | d :: ds, _, h => by
    cases h with
    | cons h1 h2 => exact .cons (D.same e d _ h1) (DA.same e ds _ h2)
theorem DK.same (e : Same H H') : ∀ (ds : List (PyData × PyData)) (vs : List (Key × V)), DK K H vs ds → DK K H' vs ds
  | [], _, h => by
    cases h
    exact .nil
  | (k, d) :: ds, _, h => by
    cases h with
    | cons h1 h2 => exact .cons (D.same e d _ h1) (DK.same e ds _ h2)
end
theorem D.mono {v : V} {d : PyData} (h : D K H v d) (e : Same H H') : D K H' v d := D.same e d v h
theorem DA.mono {v : List V} {d : List PyData} (h : DA K H v d) (e : Same H H') : DA K H' v d := DA.same e d v h
theorem DA.length : ∀ {vs : List V} {ds : List PyData}, DA K H vs ds → vs.length = ds.length
  | _, _, .nil => rfl
  | _, _, .cons _ h => congrArg (· + 1) h.length
theorem DA.append : ∀ {vs ws : List V} {ds es : List PyData}, DA K H vs ds → DA K H ws es → DA K H (vs ++ ws) (ds ++ es)
  | _, _, _, _, .nil, h => h
  | _, _, _, _, .cons a b, h => .cons a (b.append h)
theorem DA.get : ∀ {vs : List V} {ds : List PyData} {i : Nat} {d : PyData}, DA K H vs ds → ds[i]? = some d → ∃ v, vs[i]? = some v ∧ D K H v d
  | _, _, _, _, .nil, e => by simp at e
  | _, _, 0, _, .cons h _, e => by
    simp at e
    subst e
    exact ⟨_, rfl, h⟩
  | _, _, i + 1, d, .cons _ h, e => by
    obtain ⟨v, h1, h2⟩ := DA.get (i := i) (d := d) h (by simpa using e)
    exact ⟨v, by simpa using h1, h2⟩
theorem DA.getV : ∀ {vs : List V} {ds : List PyData} {i : Nat} {v : V}, DA K H vs ds → vs[i]? = some v → ∃ d, ds[i]? = some d ∧ D K H v d
  | _, _, _, _, .nil, e => by simp at e
  | _, _, 0, _, .cons h _, e => by
    simp at e
    subst e
    exact ⟨_, rfl, h⟩
  | _, _, i + 1, v, .cons _ h, e => by
    obtain ⟨d, h1, h2⟩ := DA.getV (i := i) (v := v) h (by simpa using e)
    exact ⟨d, by simpa using h1, h2⟩
theorem DA.bools : ∀ {vs : List V} {bs : List Bool}, DA K H vs (bs.map .bool) → vs = bs.map V.bl
  | _, [], h => by
    cases h
    rfl
  | _, b :: bs, h => by
    cases h with
    | cons h1 h2 =>
      cases h1
      rw [DA.bools h2]
      rfl
end

/-! ### what a value of this data is, for the kit -/
section
variable {X : Cx} {pins : List (Addr × Obj)} {σ : St} {H : Hp} {s : Shared}
theorem kv_of : ∀ {kvs : List (Key × V)} {vs : List (Key × Value)} {ds : List (PyData × PyData)}, KV kvs vs → DK X.K H kvs ds →
    ds.map (·.1) = vs.map (fun p => kD p.1) ∧ Vals (kvs.map (·.2)) (vs.map (·.2)) ∧ DA X.K H (kvs.map (·.2)) (ds.map (·.2))
  | _, _, _, .nil, .nil => ⟨rfl, .nil, .nil⟩
  | _, _, _, .cons r t, .cons h1 h2 => by
    obtain ⟨a, b, c⟩ := kv_of t h2
    refine ⟨?_, .cons r.2 b, .cons h1 c⟩
    rw [List.map_cons, List.map_cons, a]
    exact congrArg (kD · :: _) r.1
end
end LK
set_option Elab.async false
set_option linter.all false
set_option maxRecDepth 100000
set_option maxHeartbeats 4000000
/-! LK2: defs whose callers stand in no repr of a list, a tuple, a dict (the guards are told): the promise, the calls, the body, the law's end -/
namespace LK
open PySem PySem.Spec L2
open PyProof.Rows hiding St

/-- no repr of a container runs around -/
abbrev NoG (A : Around) : Prop := A.guards = some []

structure FnG (P : Program) (w : World) (K : PySem.W.Frag) (mg : Str → Option Value) (base : Heap) (CX : CXT)
    (k : Nat) (f : Addr) (fd : FuncData) (ps : List Str) (sp : Sp) : Prop where
  size : ∀ vs H Q E, sp vs H Q E → vs.length = ps.length
  go : ∀ A : Around, NoG A → Room k A → ∀ (outer : List Env) (s : Shared) (H : Hp), Env0 P w K mg base A outer s H →
    ∀ (args : Args) (us : List Value) (vs : List V) (Q : VK) (E : XK), BindsTo s fd args (ps.zip us) → Vals vs us → sp vs H Q E →
    codeAny (model P w) A (.call (.ref f) args) (CR CX outer P w H s Q E) s

section
variable {P : Program} {w : World} {K : PySem.W.Frag} {mg : Str → Option Value} {base : Heap} {CX : CXT} {j k : Nat} {f : Addr} {fd : FuncData} {ps : List Str} {sp sp' : Sp}
theorem FnG.up (F : FnG P w K mg base CX j f fd ps sp) (h : j ≤ k) : FnG P w K mg base CX k f fd ps sp :=
  ⟨F.size, fun A g hr => F.go A g (hr.mono h)⟩
theorem FnG.imp (F : FnG P w K mg base CX k f fd ps sp) (h : ∀ vs H Q E, sp' vs H Q E → sp vs H Q E) : FnG P w K mg base CX k f fd ps sp' :=
  ⟨fun vs H Q E q => F.size vs H Q E (h _ _ _ _ q), fun A g hr outer s H e args us vs Q E b r q => F.go A g hr outer s H e args us vs Q E b r (h _ _ _ _ q)⟩
end

/-- what is known of a def of the module by its name -/
structure Df (P : Program) (w : World) (K : PySem.W.Frag) (mg : Str → Option Value) (base : Heap) (CX : CXT) (k : Nat) (x : Str) (ps : List Str) (sp : Sp) : Prop where
  ex : ∃ (f : Addr) (fd : FuncData), FnG P w K mg base CX k f fd ps sp ∧ mg x = some (.ref f) ∧ PySem.W.keepIn K (.ref f) = true ∧ Binds K fd ps []
theorem Df.up {P : Program} {w : World} {K : PySem.W.Frag} {mg : Str → Option Value} {base : Heap} {CX : CXT} {j k : Nat} {x : Str} {ps : List Str} {sp : Sp}
    (F : Df P w K mg base CX j x ps sp) (h : j ≤ k) : Df P w K mg base CX k x ps sp := by
  obtain ⟨f, fd, a, b⟩ := F.ex
  exact ⟨f, fd, a.up h, b⟩

section
variable {X : Cx} {CX : CXT} {k : Nat} {f : Addr} {fd : FuncData} {ps ks : List Str} {sp : Sp} {E : XK} {x : Str} {p pos : Pos} {e : Expr} {es : List Expr} {kws : List Keyword} {t tk : TA}
theorem callee_end {pins : List (Addr × Obj)} {σ : St} {H : Hp} {s : Shared} {Q : VK} (hx : Passes CX X E) (I : Inv X pins σ H s) {r : Result} {s' : Shared}
    (h : CR CX X.stack X.prog X.w H s Q E r s') : callEnd (EP X pins σ Q) X.xe r s' := by
  rcases r with e | fl
  · exact hx pins σ H s e s' I h
  · cases fl
    case ret u => exact I.after h
    all_goals exact False.elim h
theorem run_g {pins : List (Addr × Obj)} {σ : St} {H : Hp} {s : Shared} {Q : VK} {us : List Value} {kw : List (Str × Value)} {vs : List V} {ws : List Value}
    (F : FnG X.prog X.w X.K X.mg X.base CX k f fd ps sp) (hg : NoG X.A) (hr : Room k X.A) (hb : BindsTo s fd ⟨us, kw⟩ (ps.zip ws)) (hx : Passes CX X E)
    (I : Inv X pins σ H s) (r : Vals vs ws) (h : sp vs H Q E) : wpAny (model X.prog X.w) X.A (call (.ref f) us kw) (EP X pins σ Q) X.xe s :=
  wpAny_call (codeAny_mono (F.go X.A hg hr X.stack s H I.env0 ⟨us, kw⟩ ws vs Q E hb r h) fun r' s' q => callee_end hx I q)

/-- f(e, ..), all parameters given -/
theorem pe_fn (F : Df X.prog X.w X.K X.mg X.base CX k x ps sp) (hg : NoG X.A) (hr : Room k X.A) (hgl : Gl X x) (hx : Passes CX X E)
    (ha : PA X (e :: es) t) (hdb : (x == ("__debug__" : Str)) = false := by decide) (he : starEach (e :: es) X.env = (false, eval e X.env) :: starEach es X.env := by rfl)
    (hpl : (backTo pos (starEach es X.env)).any (·.1) = false := by rfl) : PE X (.Call (.Name x p) (e :: es) [] pos) (tCall sp [] E t) := by
  obtain ⟨f, fd, G, hm, hk, hb⟩ := F.ex
  constructor
  intro pins s σ H Q I h
  apply wpAny_Call_Name_kw
  apply ld_glob I hgl hm _ hdb
  apply PySem.W.callWith_K (h₀ := X.base) I.ok.mod.kin hk _ he hpl
  apply thn (ha.run pos pins s σ H _ I h)
  rintro us s1 ⟨vs, H1, I1, r, q⟩
  have q' : sp vs H1 Q E := by simpa using q
  have l : (us ++ []).length = ps.length := by
    rw [List.append_nil, ← r.length]
    exact G.size _ _ _ _ q'
  have b := hb s1 us I1.kIn l
  rw [List.append_nil] at b
  exact ⟨I1.kIn, run_g G hg hr b hx I1 r q'⟩
/-- f(k = e), by names alone -/
structure KB0 (K : PySem.W.Frag) (fd : FuncData) (ps ks : List Str) (g : {α : Type} → List α → List α) : Prop where
  to : ∀ (s : Shared) (ws : List Value), K.In s.heap → ws.length = ks.length → BindsTo s fd ⟨[], ks.zip ws⟩ (ps.zip (g ws))
  rel : ∀ {zs : List V} {ws : List Value}, Vals zs ws → Vals (g zs) (g ws)
def tCallK0 (n : Nat) (sp : Sp) (g : List V → List V) (E : XK) (tk : TA) : TE := fun σ H Q => tk σ H fun zs H2 => zs.length = n ∧ sp (g zs) H2 Q E
theorem pe_fnK0 {g : {α : Type} → List α → List α} (G : FnG X.prog X.w X.K X.mg X.base CX k f fd ps sp) (hm : X.mg x = some (.ref f)) (hk : PySem.W.keepIn X.K (.ref f) = true)
    (hb : KB0 X.K fd ps ks g) (hg : NoG X.A) (hr : Room k X.A) (hgl : Gl X x) (hx : Passes CX X E) (hkw : PK X kws tk)
    (hall : (backToKw pos (keywordEach kws X.env)).all (·.1.isSome) = true := by rfl) (hks : (backToKw pos (keywordEach kws X.env)).filterMap (·.1) = ks := by rfl)
    (hdb : (x == ("__debug__" : Str)) = false := by decide)
    (hpl : ((backTo pos (starEach [] X.env)).any (·.1) || (backToKw pos (keywordEach kws X.env)).any (·.1.isNone)) = false := by rfl) :
    PE X (.Call (.Name x p) [] kws pos) (tCallK0 ks.length sp g E tk) := by
  constructor
  intro pins s σ H Q I h
  apply wpAny_Call_Name_kw
  apply ld_glob I hgl hm _ hdb
  apply PySem.W.callWith_KW0 (h₀ := X.base) I.ok.mod.kin hk hall _ hpl
  apply thn (hkw.run pos pins s σ H _ I h)
  rintro ws s2 ⟨zs, H2, I2, rz, l2, q2⟩
  refine ⟨I2.kIn, ?_⟩
  rw [hks]
  exact run_g (us := []) G hg hr (hb.to s2 ws I2.kIn (rz.length.symm.trans l2)) hx I2 (hb.rel rz) q2
end

section
variable {X : Cx} {CX : CXT} {k : Nat} {ps ks : List Str} {sp : Sp} {E : XK} {x : Str} {p pos : Pos} {kws : List Keyword} {tk : TA} {g : {α : Type} → List α → List α}
/-- a def that is called by names alone -/
structure DfK (P : Program) (w : World) (K : PySem.W.Frag) (mg : Str → Option Value) (base : Heap) (CX : CXT) (k : Nat) (x : Str) (ps ks : List Str) (g : {α : Type} → List α → List α) (sp : Sp) : Prop where
  ex : ∃ (f : Addr) (fd : FuncData), FnG P w K mg base CX k f fd ps sp ∧ mg x = some (.ref f) ∧ PySem.W.keepIn K (.ref f) = true ∧ KB0 K fd ps ks g
theorem pe_kw0 (F : DfK X.prog X.w X.K X.mg X.base CX k x ps ks g sp) (hg : NoG X.A) (hr : Room k X.A) (hgl : Gl X x) (hx : Passes CX X E) (hkw : PK X kws tk)
    (hall : (backToKw pos (keywordEach kws X.env)).all (·.1.isSome) = true := by rfl) (hks : (backToKw pos (keywordEach kws X.env)).filterMap (·.1) = ks := by rfl)
    (hdb : (x == ("__debug__" : Str)) = false := by decide)
    (hpl : ((backTo pos (starEach [] X.env)).any (·.1) || (backToKw pos (keywordEach kws X.env)).any (·.1.isNone)) = false := by rfl) :
    PE X (.Call (.Name x p) [] kws pos) (tCallK0 ks.length sp g E tk) := by
  obtain ⟨f, fd, G, hm, hk, hb⟩ := F.ex
  exact pe_fnK0 G hm hk hb hg hr hgl hx hkw hall hks hdb hpl
end
/-- the list as it is -/
def idL {α : Type} (l : List α) : List α := l

/-! ### a def's body -/
section
variable {P : Program} {w : World} {K : PySem.W.Frag} {mg : Str → Option Value} {base : Heap} {CX : CXT}
theorem fn_ofG {k : Nat} {f : Addr} {name qual : Str} {params : Arguments} {body : List Stmt} {scope : Scope} {dV kV doc pm cdv ct oc : Value} {an od : Option Addr} {osl : Array (Option Value)} {N ps : List Str} {sp : Sp}
    (lk : K.lookup f = some ⟨oc, od, .func (PySem.W.fnOf name qual params body scope dV kV doc pm an cdv ct), osl⟩) (hcd : PySem.W.codeIn K cdv qual = true) (S : FnScope N ps scope)
    (len : ∀ vs H Q E, sp vs H Q E → vs.length = ps.length)
    (hbody : ∀ (A : Around) (outer : List Env) (s : Shared) (H : Hp) (vs : List V) (Q : VK) (E : XK), NoG A → Room k (A.deeper (envOfC qual scope s.heap.objs.size f cdv)) → sp vs H Q E →
      ∃ t, PSs (cxOf CX P w K mg base N qual scope f cdv A outer s H E) body t ∧ t { nx := fun _ H' => Q .non H', rt := Q } (start N vs) H) :
    FnG P w K mg base CX (k + 1) f (PySem.W.fnOf name qual params body scope dV kV doc pm an cdv ct) ps sp := by
  constructor
  · exact len
  intro A hg hr outer s H e0 args us vs Q E hb r hsp
  have inK : K.In s.heap := e0.mod.kin.keeps fun b o e => (e0.bs b o e).1
  have nolim : s.heap.NoLimit := e0.mod.nolimit.keeps fun b o e => (e0.bs b o e).1
  have kinds : ∀ y ∈ ps.zip us, scope.names.lookup y.1 = some .local ∨ (scope.names.lookup y.1 = some .cell ∧ ((cellsFrom (s.heap.objs.size + 1) scope.names []).lookup y.1).isSome = true) := by
    rintro ⟨n, v⟩ hy
    rcases S.par n (List.of_mem_zip hy).1 with q | q
    · exact .inl q
    · exact .inr ⟨q, PySem.W.cellsFrom_some _ _ _ (.inl q)⟩
  apply codeAny_call_function hr.depth (inK _ _ lk) rfl S.co S.gen rfl (PySem.W.codeRec_of inK hcd)
  apply hb
  apply wpAny_newFunctionEnv_cells S.kind kinds
  rintro env rfl s1 x
  refine ⟨nolim.keeps x.toInCall.keep, ?_⟩
  apply codeAny_func
  obtain ⟨t, ht, hq⟩ := hbody A outer s H vs Q E hg (hr.deeper _) hsp
  have I := inv_start (CX := CX) (E := E) S hr.hd e0 (len _ _ _ _ hsp) r x
  apply wpAny_mono (ht.run [] s1 (start N vs) H _ I hq)
  · intro fl s' hs
    cases fl
    case ret u =>
      obtain ⟨v, σ', H', J, rv, q⟩ := hs
      exact ⟨v, H', J.os, J.bare, J.base, J.hok, rv, q⟩
    case next =>
      obtain ⟨σ', H', J, q⟩ := hs
      exact ⟨V.non, H', J.os, J.bare, J.base, J.hok, rfl, q⟩
    all_goals
      obtain ⟨_, _, _, q⟩ := hs
      exact False.elim q
  · intro e s' hs
    exact hs
/-- a def of the text out of which no exception comes -/
theorem fun_okG {x qual : Str} {st : Stmt} {f : Addr} {fd : FuncData} {N ps : List Str} {k : Nat} {sp : Sp} (F : Fun K x qual st f fd) (S : FnScope N ps (defScope st)) (len : ∀ vs H Q E, sp vs H Q E → vs.length = ps.length)
    (hbody : ∀ (cdv : Value) (A : Around) (outer : List Env) (s : Shared) (H : Hp) (vs : List V) (Q : VK) (E : XK), NoG A → Room k (A.deeper (envOfC qual (defScope st) s.heap.objs.size f cdv)) → sp vs H Q E →
      ∃ t, PSs (cxOf CX0 P w K mg base N qual (defScope st) f cdv A outer s H E).nox (defBody st) t ∧ t { nx := fun _ H' => Q .non H', rt := Q } (start N vs) H) : FnG P w K mg base CX0 (k + 1) f fd ps sp := by
  obtain ⟨oc, od, kV, doc, pm, an, cdv, ct, osl, rfl, lk, hcd⟩ := F.ex
  apply fn_ofG lk hcd S len
  intro A outer s H vs Q E hg hr hsp
  obtain ⟨t, h, q⟩ := hbody cdv A outer s H vs Q E hg hr hsp
  exact ⟨t, h.nox, q⟩
/-- .. out of which one may come -/
theorem fun_okXG {x qual : Str} {st : Stmt} {f : Addr} {fd : FuncData} {N ps : List Str} {k : Nat} {sp : Sp} (F : Fun K x qual st f fd) (S : FnScope N ps (defScope st)) (len : ∀ vs H Q E, sp vs H Q E → vs.length = ps.length)
    (hbody : ∀ (cdv : Value) (A : Around) (outer : List Env) (s : Shared) (H : Hp) (vs : List V) (Q : VK) (E : XK), NoG A → Room k (A.deeper (envOfC qual (defScope st) s.heap.objs.size f cdv)) → sp vs H Q E →
      ∃ t, PSs (cxOf (L2.CX P w) P w K mg base N qual (defScope st) f cdv A outer s H E) (defBody st) t ∧ t { nx := fun _ H' => Q .non H', rt := Q } (start N vs) H) : FnG P w K mg base (L2.CX P w) (k + 1) f fd ps sp := by
  obtain ⟨oc, od, kV, doc, pm, an, cdv, ct, osl, rfl, lk, hcd⟩ := F.ex
  exact fn_ofG lk hcd S len fun A outer s H vs Q E hg hr hsp => hbody cdv A outer s H vs Q E hg hr hsp
end

/-! ### the law's end -/
theorem law_callG {P : Program} {w : World} {K : PySem.W.Frag} {mg mb : Str → Option Value} {CX : CXT} {k : Nat} {fa a : Addr} {fd : FuncData} {x : Str} {sp : Sp} {s₁ : Shared} {vs : List Value} {ns : List Int}
    (KX : K.In s₁.heap) (hns : s₁.heap.Ns mainGlobals mg) (hb : s₁.heap.Ns builtinsNs mb) (hbb : ∀ x : Str, x ≠ "__name__" → mb x = bootBuiltins x) (hlim : s₁.heap.NoLimit) (hg : s₁.gens = #[])
    (ha : s₁.heap.get? a = some { cls := .type "list", data := .seq vs.toArray }) (hi : IntsAre vs ns) (hl : ns.length ≤ sizeLine) (hr : Room k callerA)
    (F : ∀ base : Heap, K.In base → base.Ns mainGlobals mg → FnG P w K mg base CX k fa fd [x] sp) (hbind : ∀ (s : Shared) (u : Value), BindsTo s fd ⟨[u], []⟩ [(x, u)])
    (hsp : ∀ H : Hp, Only H → SqL K H a (ns.map V.int) → sp [.ref a] H (fun v _ => v = .bl true) fun _ _ _ => False)
    (hCX : ∀ H e s', CX [] H s₁ (fun _ _ _ => False) e s' → False) :
    codeAny (model P w) callerA (.call (.ref fa) ⟨[.ref a], []⟩) (fun r s' => r = .ok (.ret (.bool true)) ∧ OldK s₁.heap s'.heap ∧ s'.os = s₁.os ∧ AllBare s'.gens) s₁ := by
  have rv := vals_ints hi
  have core : ∀ H : Hp, Only H → SqL K H a (ns.map V.int) → HOk P w H s₁.heap → (∀ b, H b ≠ none → b = a) → (H a ≠ none → K.lookup a = none) →
      codeAny (model P w) callerA (.call (.ref fa) ⟨[.ref a], []⟩) (fun r s' => r = .ok (.ret (.bool true)) ∧ OldK s₁.heap s'.heap ∧ s'.os = s₁.os ∧ AllBare s'.gens) s₁ := by
    intro H only sq ok one outK
    have stay : ∀ {b : Addr} {o : Obj}, s₁.heap.get? b = some o → H b = none → (hidT s₁.heap H).get? b = some o := fun e n => hidT_get e n
    have free_of : ∀ {b : Addr}, (b = a → H a = none) → H b = none := fun {b} h => by
      cases q : H b with
      | none => rfl
      | some u =>
        have e' : b = a := one b (by simp [q])
        rw [e', h e'] at q
        cases q
    have dict_free : ∀ {b : Addr} {o : Obj} {es : Array DictEntry} {ep : Nat}, s₁.heap.get? b = some o → o.data = .dict es ep → H b = none := fun {b o es ep} e d => by
      cases q : H b with
      | none => rfl
      | some u =>
        obtain rfl : b = a := one b (by simp [q])
        rw [ha] at e
        injection e with e
        subst e
        cases d
    have ns_stay : ∀ {b : Addr} {m : Str → Option Value}, s₁.heap.Ns b m → (hidT s₁.heap H).Ns b m := by
      rintro b m ⟨o, es, ep, e, d, r⟩
      exact ⟨o, es, ep, stay e (dict_free e d), d, r⟩
    have inB : K.In (hidT s₁.heap H) := by
      intro b o e
      refine stay (KX b o e) ?_
      cases q : H b with
      | none => rfl
      | some u =>
        obtain rfl : b = a := one b (by simp [q])
        rw [outK (by simp [q])] at e
        cases e
    obtain ⟨mc, l1, l2⟩ := hlim
    have modOk : Mod K mg (hidT s₁.heap H) := ⟨inB, ns_stay hns, ⟨mb, ns_stay hb, hbb⟩, ⟨mc, ns_stay l1, l2⟩⟩
    have env : Env0 P w K mg (hidT s₁.heap H) callerA [] s₁ H := by
      refine ⟨rfl, modOk, fun b o e => of_hidT e, ?_, trivial, ?_, ok, .of_eq hg⟩
      · exact Nat.le_of_eq (hidT_size _ _)
      · intro b m
        exact absurd (show b ∈ ([] : List Addr) from m) (by simp)
    have run := (F _ inB (ns_stay hns)).go callerA rfl hr [] s₁ H env ⟨[.ref a], []⟩ [.ref a] [.ref a] _ _ (hbind s₁ (.ref a)) (.cons rfl .nil) (hsp H only sq)
    apply codeAny_mono run
    intro r s' h
    rcases r with e | fl
    · exact (hCX H e s' h).elim
    cases fl
    case ret u =>
      obtain ⟨v, H', os, bare, un, hok', r', rfl⟩ := h
      obtain rfl : u = Value.bool true := r'
      refine ⟨rfl, OldK.of_keep ?_, os, bare⟩
      intro b o e
      cases q : H b with
      | none => exact un.keep b o e q (fun z => absurd (show b ∈ ([] : List Addr) from z) (by simp)) (by simp)
      | some u =>
        rcases only b with z | ⟨ob, xs, z⟩
        · rw [q] at z
          cases z
        · have e1 := (ok b _ z).1
          have e2 := (hok' b _ (un.frzs b ob _ z)).1
          rw [e] at e1
          injection e1 with e1
          rw [e1]
          exact e2
    all_goals exact False.elim h
  have len : vs.toArray.size ≤ sizeLine := by
    rw [List.size_toArray, hi.length]
    exact hl
  cases hk : K.lookup a with
  | some o =>
    have e := KX a o hk
    rw [ha] at e
    injection e with e
    subst e
    refine core (fun _ => none) (fun _ => .inl rfl) (.inr ⟨_, vs.toArray, _, hk, rfl, rfl, rfl, len, by simpa using rv⟩) ?_ ?_ ?_
    · intro b u z
      cases z
    · intro b z
      exact absurd rfl z
    · intro z
      exact absurd rfl z
  | none =>
    let G : Hp := fun b => if b = a then some (.frz { cls := .type "list", data := .seq vs.toArray } (.lst (ns.map V.int))) else none
    have G1 : G a = some (.frz { cls := .type "list", data := .seq vs.toArray } (.lst (ns.map V.int))) := if_pos rfl
    have G2 : ∀ b, b ≠ a → G b = none := fun b h => if_neg h
    refine core G ?_ (.inl (.inr ⟨_, G1⟩)) ?_ ?_ fun _ => hk
    · intro b
      by_cases h : b = a
      · rw [h]
        exact .inr ⟨_, _, G1⟩
      · exact .inl (G2 b h)
    · intro b u z
      by_cases h : b = a
      · subst h
        rw [G1] at z
        injection z with z
        subst z
        exact ⟨ha, by rw [List.length_map]; exact hl, vs, _, rv, ha⟩
      · rw [G2 b h] at z
        cases z
    · intro b z
      by_cases h : b = a
      · exact h
      · exact absurd (G2 b h) z
theorem walk_ofG {l : PySem.W.OpenLaw} {n k : Nat} {q : Program} {loose : List Str} {XP : (Str → Option Value) → Heap → Prop} {YP : World → Heap → Prop} {d : DefRec} {K : Params → PySem.W.Frag} {CX : World → CXT} {sp : World → Sp} {x : Str}
    (hn : l.most = some n) (hn2 : n ≤ sizeLine) (hdf : d.params.defaults = []) (hr : Room k callerA) (hY : ∀ (w : World) (h : Heap), YP w h → (K w.params).In h)
    (F : ∀ (w : World) (mg : Str → Option Value) (fa : Addr) (h : Heap), (K w.params).In h → h.Ns mainGlobals mg → mg d.name = some (.ref fa) →
      ∃ fd : FuncData, (∀ (s : Shared) (u : Value), BindsTo s fd ⟨[u], []⟩ [(x, u)]) ∧
        ∀ base : Heap, (K w.params).In base → base.Ns mainGlobals mg → FnG l.prog w (K w.params) mg base (CX w) k fa fd [x] (sp w))
    (hsp : ∀ (w : World) (H : Hp) (a : Addr) (ns : List Int), ns.length ≤ n → Only H → SqL (K w.params) H a (ns.map V.int) → sp w [.ref a] H (fun v _ => v = .bl true) fun _ _ _ => False)
    (hCX : ∀ (w : World) (H : Hp) (s : Shared) (e : Value) (s' : Shared), CX w [] H s (fun _ _ _ => False) e s' → False) :
    PySem.W.WalkO q loose XP YP l.row.toRowW d [] (fun f vs => PySem.call f vs) := by
  apply Att.attach_call hn hdf
  intro w s₀ s₁ mg mb fa o pm cd doc a vs ns G Y ho hd hcd hmg hobj hints hlen hg
  obtain ⟨fd, hb, hF⟩ := F w mg fa _ (hY w _ Y) G.T.g hmg
  apply law_callG (hY w _ Y) G.T.g G.T.b G.T.builtins G.T.nolimit hg hobj hints (Nat.le_trans hlen hn2) hr hF hb
  · intro H hO hS
    exact hsp w H a ns hlen hO hS
  · intro H e s'
    exact hCX w H s₁ e s'
end LK
set_option Elab.async false
set_option linter.all false
set_option maxRecDepth 100000
set_option maxHeartbeats 4000000
/-! LK3: what an expression comes to: Ev (a value of some data), EvT (a test), EvA (arguments); statements. G: the part of the heap that one knows -/
namespace LK
open PySem PySem.Spec L2
open PyProof.Rows hiding St

section
variable (K : PySem.W.Frag) (a : Addr) (G : Hp)
def Ev (te : TE) (σ : St) (C : PyData → Prop) : Prop :=
  ∀ S H1, Fr a S H1 → Same G (off S H1) → ∀ Q : VK, (∀ v d H2, Ext a H1 H2 → D K (off S H2) v d → C d → Q v H2) → te σ H1 Q
def EvT (tt : TT) (σ : St) (C : Bool → Prop) : Prop :=
  ∀ S H1, Fr a S H1 → Same G (off S H1) → ∀ Q : Bool → Hp → Prop, (∀ b H2, Ext a H1 H2 → C b → Q b H2) → tt σ H1 Q
def EvA (ta : TA) (σ : St) (C : List PyData → Prop) : Prop :=
  ∀ S H1, Fr a S H1 → Same G (off S H1) → ∀ Q : List V → Hp → Prop, (∀ vs ds H2, Ext a H1 H2 → DA K (off S H2) vs ds → C ds → Q vs H2) → ta σ H1 Q
end

section
variable {K : PySem.W.Frag} {a : Addr} {S : List Addr} {σ : St} {G G' H H' : Hp} {ta tb tc te : TE} {t u : TT} {tr : TA} {C C1 C2 C3 : PyData → Prop} {B B1 B2 : Bool → Prop} {A1 A2 : List PyData → Prop}
theorem Fr.same (f : Fr a S H) (x : Ext a H H') (s : Same G (off S H)) : Same G (off S H') := s.trans (x.off f.mem)

/-! ### weakening -/
theorem Ev.at (h : Ev K a G te σ C) (e : Same G G') : Ev K a G' te σ C := fun S H1 f s => h S H1 f (e.trans s)
theorem EvT.at (h : EvT a G t σ B) (e : Same G G') : EvT a G' t σ B := fun S H1 f s => h S H1 f (e.trans s)
theorem EvA.at (h : EvA K a G tr σ A1) (e : Same G G') : EvA K a G' tr σ A1 := fun S H1 f s => h S H1 f (e.trans s)
theorem Ev.imp (h : Ev K a G te σ C1) (i : ∀ d, C1 d → C2 d) : Ev K a G te σ C2 := fun S H1 f s Q q =>
  h S H1 f s Q fun v d H2 e m c => q v d H2 e m (i d c)
theorem EvT.imp (h : EvT a G t σ B1) (i : ∀ d, B1 d → B2 d) : EvT a G t σ B2 := fun S H1 f s Q q => h S H1 f s Q fun v H2 e c => q v H2 e (i v c)
theorem EvA.imp (h : EvA K a G tr σ A1) (i : ∀ d, A1 d → A2 d) : EvA K a G tr σ A2 := fun S H1 f s Q q =>
  h S H1 f s Q fun v d H2 e m c => q v d H2 e m (i d c)

/-! ### names, constants -/
theorem ev_var {i : Nat} {v : V} {d : PyData} (h : σ[i]? = some (some v)) (m : D K G v d) : Ev K a G (tVar i) σ (· = d) := fun S H1 f s Q q =>
  ⟨v, h, q v d H1 Ext.refl (m.mono s) rfl⟩
theorem ev_c {v : V} {d : PyData} (m : D K (fun _ => none) v d) : Ev K a G (tC v) σ (· = d) := fun S H1 f s Q q =>
  q v d H1 Ext.refl (m.mono fun _ _ e => nomatch e) rfl
theorem ev_i {i : Int} : Ev K a G (tC (.int i)) σ (· = .int i) := ev_c (.int i)
theorem ev_s {i : Str} : Ev K a G (tC (.str i)) σ (· = .str i) := ev_c (.str i)
theorem ev_b {i : Bool} : Ev K a G (tC (.bl i)) σ (· = .bool i) := ev_c (.bl i)
theorem ev_n : Ev K a G (tC .non) σ (· = .none) := ev_c .non

/-! ### two parts, by values -/
/-- what an operation on values gives -/
def R2D (K : PySem.W.Frag) (a : Addr) (r : R2) (d e : PyData) (C : PyData → Prop) : Prop :=
  ∀ S H x y, Fr a S H → D K (off S H) x d → D K (off S H) y e → ∀ Q : VK, (∀ v z H2, Ext a H H2 → D K (off S H2) v z → C z → Q v H2) → r x y H Q
theorem ev_op {r : R2} (ha : Ev K a G ta σ C1) (hb : Ev K a G tb σ C2) (hr : ∀ d e, C1 d → C2 e → R2D K a r d e C) : Ev K a G (tOp r ta tb) σ C := fun S H1 f s Q q =>
  ha S H1 f s _ fun v d H2 x2 m c => hb S H2 (f.ext x2) (f.same x2 s) _ fun w e H3 x3 m3 c3 =>
    hr d e c c3 S H3 v w ((f.ext x2).ext x3) (m.mono (x3.off f.mem)) m3 Q fun z g H4 x4 m4 c4 => q z g H4 ((x2.trans x3).trans x4) m4 c4
theorem ev_un {r : V → Hp → VK → Prop} (ha : Ev K a G ta σ C1)
    (hr : ∀ d, C1 d → ∀ S H x, Fr a S H → D K (off S H) x d → ∀ Q : VK, (∀ v z H2, Ext a H H2 → D K (off S H2) v z → C z → Q v H2) → r x H Q) : Ev K a G (tUn r ta) σ C := fun S H1 f s Q q =>
  ha S H1 f s _ fun v d H2 x2 m c => hr d c S H2 v (f.ext x2) m Q fun z g H3 x3 m3 c3 => q z g H3 (x2.trans x3) m3 c3

/-! ints -/
theorem r2_I {c : Int → Int → Prop} {g : Int → Int → V} {i j : Int} {z : PyData} (hc : c i j) (hz : ∀ H, D K H (g i j) z) (cz : C z) : R2D K a (rI c g) (.int i) (.int j) C := by
  intro S H x y f mx my Q q
  cases mx
  cases my
  exact ⟨i, j, rfl, rfl, hc, q _ z H Ext.refl (hz _) cz⟩
theorem r2_I0 {g : Int → Int → V} {i j : Int} {z : PyData} (hz : ∀ H, D K H (g i j) z) (cz : C z) : R2D K a (rI0 g) (.int i) (.int j) C := by
  intro S H x y f mx my Q q
  cases mx
  cases my
  exact ⟨i, j, rfl, rfl, q _ z H Ext.refl (hz _) cz⟩
/-- ints of some kind -/
abbrev IsI (c : Int → Prop) : PyData → Prop := fun d => ∃ i, d = .int i ∧ c i
abbrev IsB (c : Bool → Prop) : PyData → Prop := fun d => ∃ i, d = .bool i ∧ c i
theorem ev_isI {c : Int → Prop} {i : Int} (h : Ev K a G te σ (· = .int i)) (hc : c i) : Ev K a G te σ (IsI c) := h.imp fun d e => ⟨i, e, hc⟩
theorem ev_int2 {cI cJ cR : Int → Prop} {c : Int → Int → Prop} {g : Int → Int → Int} (ha : Ev K a G ta σ (IsI cI)) (hb : Ev K a G tb σ (IsI cJ))
    (hr : ∀ i j, cI i → cJ j → c i j ∧ cR (g i j)) : Ev K a G (tOp (rI c fun i j => .int (g i j)) ta tb) σ (IsI cR) := by
  refine ev_op ha hb ?_
  rintro _ _ ⟨i, rfl, hi⟩ ⟨j, rfl, hj⟩
  obtain ⟨h1, h2⟩ := hr i j hi hj
  exact r2_I h1 (fun _ => .int _) ⟨_, rfl, h2⟩
theorem ev_int20 {cI cJ cR : Int → Prop} {g : Int → Int → Int} (ha : Ev K a G ta σ (IsI cI)) (hb : Ev K a G tb σ (IsI cJ))
    (hr : ∀ i j, cI i → cJ j → cR (g i j)) : Ev K a G (tOp (rI0 fun i j => .int (g i j)) ta tb) σ (IsI cR) := by
  refine ev_op ha hb ?_
  rintro _ _ ⟨i, rfl, hi⟩ ⟨j, rfl, hj⟩
  exact r2_I0 (fun _ => .int _) ⟨_, rfl, hr i j hi hj⟩
/-- a comparison of ints -/
theorem ev_cmpI {cI cJ : Int → Prop} {cB : Bool → Prop} {g : Int → Int → Bool} (ha : Ev K a G ta σ (IsI cI)) (hb : Ev K a G tb σ (IsI cJ))
    (hr : ∀ i j, cI i → cJ j → cB (g i j)) : Ev K a G (tOp (rI0 fun i j => .bl (g i j)) ta tb) σ (IsB cB) := by
  refine ev_op ha hb ?_
  rintro _ _ ⟨i, rfl, hi⟩ ⟨j, rfl, hj⟩
  exact r2_I0 (fun _ => .bl _) ⟨_, rfl, hr i j hi hj⟩

/-! ### tests -/
theorem et_val (h : Ev K a G te σ (IsB B)) : EvT a G (tB te) σ B := fun S H1 f s Q q => h S H1 f s _ fun v d H2 x2 m c => by
  obtain ⟨b, rfl, hB⟩ := c
  cases m
  exact ⟨b, rfl, q b H2 x2 hB⟩
theorem et_test (h : Ev K a G te σ (IsB B)) : EvT a G (tTest te) σ B := fun S H1 f s Q q => h S H1 f s _ fun v d H2 x2 m c => by
  obtain ⟨b, rfl, hB⟩ := c
  cases m
  exact ⟨b, rfl, q b H2 x2 hB⟩
theorem et_not (h : EvT a G t σ B1) (hb : ∀ b, B1 b → B (!b)) : EvT a G (tNot t) σ B := fun S H1 f s Q q => h S H1 f s _ fun b H2 x2 c => q _ H2 x2 (hb b c)
theorem et_and (h1 : EvT a G t σ B1) (h2 : B1 true → EvT a G u σ B) (h3 : B1 false → B false) : EvT a G (tAnd t u) σ B := fun S H1 f s Q q => h1 S H1 f s _ fun b H2 x2 c => by
  cases b with
  | true => exact h2 c S H2 (f.ext x2) (f.same x2 s) Q fun b H3 x3 => q b H3 (x2.trans x3)
  | false => exact q false H2 x2 (h3 c)
theorem et_or (h1 : EvT a G t σ B1) (h2 : B1 false → EvT a G u σ B) (h3 : B1 true → B true) : EvT a G (tOr t u) σ B := fun S H1 f s Q q => h1 S H1 f s _ fun b H2 x2 c => by
  cases b with
  | false => exact h2 c S H2 (f.ext x2) (f.same x2 s) Q fun b H3 x3 => q b H3 (x2.trans x3)
  | true => exact q true H2 x2 (h3 c)
theorem ev_andV (h1 : Ev K a G ta σ (IsB B)) (h2 : B true → Ev K a G tb σ C) (h3 : B false → C (.bool false)) : Ev K a G (tAndV ta tb) σ C := fun S H1 f s Q q =>
  h1 S H1 f s _ fun v d H2 x2 m c => by
    obtain ⟨b, rfl, hB⟩ := c
    cases m
    refine ⟨b, rfl, ?_⟩
    cases b with
    | true => exact h2 hB S H2 (f.ext x2) (f.same x2 s) Q fun v d H3 x3 => q v d H3 (x2.trans x3)
    | false => exact q _ _ H2 x2 (.bl _) (h3 hB)
theorem ev_orV (h1 : Ev K a G ta σ (IsB B)) (h2 : B false → Ev K a G tb σ C) (h3 : B true → C (.bool true)) : Ev K a G (tOrV ta tb) σ C := fun S H1 f s Q q =>
  h1 S H1 f s _ fun v d H2 x2 m c => by
    obtain ⟨b, rfl, hB⟩ := c
    cases m
    refine ⟨b, rfl, ?_⟩
    cases b with
    | false => exact h2 hB S H2 (f.ext x2) (f.same x2 s) Q fun v d H3 x3 => q v d H3 (x2.trans x3)
    | true => exact q _ _ H2 x2 (.bl _) (h3 hB)
theorem ev_notV (h1 : Ev K a G ta σ (IsB fun b => C (.bool (!b)))) : Ev K a G (tNotV ta) σ C := fun S H1 f s Q q => h1 S H1 f s _ fun v d H2 x2 m c => by
  obtain ⟨b, rfl, hB⟩ := c
  cases m
  exact ⟨b, rfl, q _ _ H2 x2 (.bl _) hB⟩
theorem ev_if (h : EvT a G t σ B) (h1 : B true → Ev K a G ta σ C) (h2 : B false → Ev K a G tb σ C) : Ev K a G (tIf t ta tb) σ C := fun S H1 f s Q q => h S H1 f s _ fun b H2 x2 c => by
  cases b with
  | true => exact h1 c S H2 (f.ext x2) (f.same x2 s) Q fun v d H3 x3 => q v d H3 (x2.trans x3)
  | false => exact h2 c S H2 (f.ext x2) (f.same x2 s) Q fun v d H3 x3 => q v d H3 (x2.trans x3)

/-! ### arguments, displays -/
theorem ea_nil : EvA K a G tNil σ (· = []) := fun S H1 f s Q q => q [] [] H1 Ext.refl .nil rfl
theorem ea_cons (h : Ev K a G te σ C) (hr : EvA K a G tr σ A1) : EvA K a G (tCons te tr) σ (fun ds => ∃ d r, ds = d :: r ∧ C d ∧ A1 r) := fun S H1 f s Q q =>
  h S H1 f s _ fun v d H2 x2 m c => hr S H2 (f.ext x2) (f.same x2 s) _ fun vs ds H3 x3 m3 c3 => q _ _ H3 (x2.trans x3) (.cons (m.mono (x3.off f.mem)) m3) ⟨d, ds, rfl, c, c3⟩
/-- written items, each exactly known -/
theorem ea_eq {d : PyData} {ds : List PyData} (h : Ev K a G te σ (· = d)) (hr : EvA K a G tr σ (· = ds)) : EvA K a G (tCons te tr) σ (· = d :: ds) :=
  (ea_cons h hr).imp fun _ ⟨_, _, e, e1, e2⟩ => by rw [e, e1, e2]
theorem same_off_new {p : Addr} {o : HO} (hp : H p = none) : Same (off S H) (off S (upd H p o)) := fun b u e => off_mk (off_some e).1 (same_new hp b u (off_some e).2)
theorem D.new_tup {p : Addr} {vs : List V} {ds : List PyData} (hp : H p = none) (hS : p ∉ S) (m : DA K (off S H) vs ds) : D K (off S (upd H p (.tup vs))) (.ref p) (.tuple ds) :=
  .tup (.inl (.inl (off_mk hS upd_same))) (m.mono (same_off_new hp))
theorem D.new_lst {p : Addr} {vs : List V} {ds : List PyData} (hp : H p = none) (hS : p ∉ S) (m : DA K (off S H) vs ds) : D K (off S (upd H p (.lst vs))) (.ref p) (.list ds) :=
  .lst (off_mk hS upd_same) (m.mono (same_off_new hp))
theorem ev_tup (h : EvA K a G tr σ A1) (hl : ∀ ds, A1 ds → ds.length ≤ 1000) : Ev K a G (tTup tr) σ (fun d => ∃ ds, d = .tuple ds ∧ A1 ds) := fun S H1 f s Q q => h S H1 f s _ fun vs ds H2 x2 m c =>
  ⟨by rw [m.length]; exact Nat.le_of_lt (small1000 (hl ds c)), fun p hp => q _ _ _ (x2.trans (Ext.new hp)) (D.new_tup hp ((f.ext x2).out hp) m) ⟨ds, rfl, c⟩⟩
theorem ev_lst (h : EvA K a G tr σ A1) (hl : ∀ ds, A1 ds → ds.length ≤ 1000) : Ev K a G (tLst tr) σ (fun d => ∃ ds, d = .list ds ∧ A1 ds) := fun S H1 f s Q q => h S H1 f s _ fun vs ds H2 x2 m c =>
  ⟨by rw [m.length]; exact Nat.le_of_lt (small1000 (hl ds c)), fun p hp => q _ _ _ (x2.trans (Ext.new hp)) (D.new_lst hp ((f.ext x2).out hp) m) ⟨ds, rfl, c⟩⟩
theorem ev_tupE {ds : List PyData} (h : EvA K a G tr σ (· = ds)) (hl : ds.length ≤ 1000) : Ev K a G (tTup tr) σ (· = .tuple ds) := (ev_tup h fun _ e => by rw [e]; exact hl).imp fun _ ⟨_, e, e'⟩ => by rw [e, e']
theorem ev_lstE {ds : List PyData} (h : EvA K a G tr σ (· = ds)) (hl : ds.length ≤ 1000) : Ev K a G (tLst tr) σ (· = .list ds) := (ev_lst h fun _ e => by rw [e]; exact hl).imp fun _ ⟨_, e, e'⟩ => by rw [e, e']

/-! ### calls -/
/-- what a built-in gives for data -/
def RCD (K : PySem.W.Frag) (a : Addr) (r : List V → Hp → VK → Prop) (ds : List PyData) (C : PyData → Prop) : Prop :=
  ∀ S H vs, Fr a S H → DA K (off S H) vs ds → ∀ Q : VK, (∀ v z H2, Ext a H H2 → D K (off S H2) v z → C z → Q v H2) → r vs H Q
theorem ev_cb {r : List V → Hp → VK → Prop} (h : EvA K a G tr σ A1) (hr : ∀ ds, A1 ds → RCD K a r ds C) : Ev K a G (tCB r tr) σ C := fun S H1 f s Q q =>
  h S H1 f s _ fun vs ds H2 x2 m c => hr ds c S H2 vs (f.ext x2) m Q fun z g H3 x3 m3 c3 => q z g H3 (x2.trans x3) m3 c3
/-- a def's promise, by data: asked and given -/
def spG (K : PySem.W.Frag) (pre : List PyData → Prop) (post : List PyData → PyData → Prop) : Sp := fun vs H Q _ => ∃ (a : Addr) (S : List Addr) (ds : List PyData),
  Fr a S H ∧ DA K (off S H) vs ds ∧ pre ds ∧ ∀ v d H', Ext a H H' → D K (off S H') v d → post ds d → Q v H'
/-- the same with the pot as the first argument -/
def spP (K : PySem.W.Frag) (pre : List PyData → Prop) (post : List PyData → PyData → Prop) : Sp := fun vs H Q _ => ∃ (a : Addr) (S : List Addr) (ws : List V) (ds : List PyData),
  vs = .ref a :: ws ∧ Fr a S H ∧ DA K (off S H) ws ds ∧ pre ds ∧ ∀ v d H', Ext a H H' → D K (off S H') v d → post ds d → Q v H'
theorem spG_len {pre : List PyData → Prop} {post : List PyData → PyData → Prop} {n : Nat} (hp : ∀ ds, pre ds → ds.length = n) {vs : List V} {H : Hp} {Q : VK} {E : XK} (h : spG K pre post vs H Q E) : vs.length = n := by
  obtain ⟨a, S, ds, _, m, p, _⟩ := h
  rw [m.length]
  exact hp ds p
theorem spP_len {pre : List PyData → Prop} {post : List PyData → PyData → Prop} {n : Nat} (hp : ∀ ds, pre ds → ds.length = n) {vs : List V} {H : Hp} {Q : VK} {E : XK} (h : spP K pre post vs H Q E) : vs.length = n + 1 := by
  obtain ⟨a, S, ws, ds, rfl, _, m, p, _⟩ := h
  rw [List.length_cons, m.length, hp ds p]
theorem ev_callG {pre : List PyData → Prop} {post : List PyData → PyData → Prop} {E : XK} (h : EvA K a G tr σ A1) (hp : ∀ ds, A1 ds → pre ds) (hc : ∀ ds d, A1 ds → post ds d → C d) :
    Ev K a G (tCall (spG K pre post) [] E tr) σ C := fun S H1 f s Q q => h S H1 f s _ fun vs ds H2 x2 m c =>
  ⟨a, S, ds, f.ext x2, by rw [List.append_nil]; exact m, hp ds c, fun v d H3 x3 m3 p => q v d H3 (x2.trans x3) m3 (hc ds d c p)⟩
theorem ev_callP {pre : List PyData → Prop} {post : List PyData → PyData → Prop} {E : XK} {i : Nat} (hi : σ[i]? = some (some (.ref a))) (h : EvA K a G tr σ A1) (hp : ∀ ds, A1 ds → pre ds) (hc : ∀ ds d, A1 ds → post ds d → C d) :
    Ev K a G (tCall (spP K pre post) [] E (tCons (tVar i) tr)) σ C := fun S H1 f s Q q => ⟨.ref a, hi, h S H1 f s _ fun vs ds H2 x2 m c =>
  ⟨a, S, vs, ds, by rw [List.append_nil], f.ext x2, m, hp ds c, fun v d H3 x3 m3 p => q v d H3 (x2.trans x3) m3 (hc ds d c p)⟩⟩
theorem ev_callK0 {pre : List PyData → Prop} {post : List PyData → PyData → Prop} {E : XK} {n : Nat} {g : {α : Type} → List α → List α} (h : EvA K a G tr σ A1) (hn : ∀ ds, A1 ds → ds.length = n)
    (hg : ∀ {H : Hp} {vs : List V} {ds : List PyData}, vs.length = n → DA K H vs ds → DA K H (g vs) (g ds)) (hp : ∀ ds, A1 ds → pre (g ds)) (hc : ∀ ds d, A1 ds → post (g ds) d → C d) :
    Ev K a G (tCallK0 n (spG K pre post) g E tr) σ C := fun S H1 f s Q q => h S H1 f s _ fun vs ds H2 x2 m c =>
  ⟨by rw [m.length]; exact hn ds c, a, S, g ds, f.ext x2, hg (by rw [m.length]; exact hn ds c) m, hp ds c, fun v d H3 x3 m3 p => q v d H3 (x2.trans x3) m3 (hc ds d c p)⟩

/-! ### statements -/
variable {Dn : Ends} {t1 t2 : TS}
theorem q_set {i : Nat} (h : Ev K a G te σ C) (f : Fr a S H) (s : Same G (off S H)) (q : ∀ v d H', Ext a H H' → Fr a S H' → D K (off S H') v d → C d → Dn.nx (σ.set i (some v)) H') : tAsg te (gName i) Dn σ H :=
  h S H f s _ fun v d H2 x m c => q v d H2 x (f.ext x) m c
theorem q_ret (h : Ev K a G te σ C) (f : Fr a S H) (s : Same G (off S H)) (q : ∀ v d H', Ext a H H' → D K (off S H') v d → C d → Dn.rt v H') : tRet te Dn σ H :=
  h S H f s _ fun v d H2 x m c => q v d H2 x m c
theorem q_drop (h : Ev K a G te σ C) (f : Fr a S H) (s : Same G (off S H)) (q : ∀ H', Ext a H H' → Fr a S H' → Dn.nx σ H') : tDrop te Dn σ H :=
  h S H f s _ fun v d H2 x m c => q H2 x (f.ext x)
theorem q_if (h : EvT a G t σ B) (f : Fr a S H) (s : Same G (off S H)) (q1 : ∀ H', Ext a H H' → Fr a S H' → B true → t1 Dn σ H') (q2 : ∀ H', Ext a H H' → Fr a S H' → B false → t2 Dn σ H') : tIfS t t1 t2 Dn σ H :=
  h S H f s _ fun b H2 x c => by
    cases b with
    | true => exact q1 H2 x (f.ext x) c
    | false => exact q2 H2 x (f.ext x) c

/-! ### comprehensions: what is walked comes to n items, the j-th of data in X j; every item gives one of data in Y -/
theorem ev_lc {wi : TI} {tt : TT} {vs : List Nat} {j : Nat} {N : Nat → Prop} {J : Nat → It} {Y : Nat → PyData → Prop}
    (hw : ∀ S H1, Fr a S H1 → Same G (off S H1) → ∀ R : It → Hp → Prop, (∀ n H2, Ext a H1 H2 → N n → R (J n) H2) → wi σ H1 R)
    (hgo : ∀ n i H', N n → i < n → (J n).go i H') (hst : ∀ n i H', N n → n ≤ i → (J n).stop i H')
    (hb : ∀ n i, N n → i < n → ∀ H' x H2, (J n).yld i H' x H2 → H2 = H' ∧ wipe ((wipe σ vs).set j (some x)) vs = wipe σ vs ∧ EvT a G tt ((wipe σ vs).set j (some x)) (· = true) ∧ Ev K a G te ((wipe σ vs).set j (some x)) (Y i))
    (hn : ∀ n, N n → n < 100000) :
    Ev K a G (tLc wi (gName j) tt te vs) σ (fun d => ∃ n ds, N n ∧ d = .list ds ∧ ds.length = n ∧ ∀ i z, ds[i]? = some z → Y i z) := by
  intro S H1 f s Q q
  refine hw S H1 f s _ fun n H2 x2 hN L hL => ?_
  have f2 := f.ext x2
  have hLS := f2.out hL
  refine ⟨fun i m H' => m = n - i ∧ i ≤ n ∧ Ext a H2 H' ∧ ∃ acc ds, H' L = some (.lst acc) ∧ DA K (off (L :: S) H') acc ds ∧ ds.length = i ∧ ∀ i z, ds[i]? = some z → Y i z,
    ⟨n, by simp, Nat.zero_le _, Ext.new hL, [], [], upd_same, .nil, rfl, fun i z e => by simp at e⟩, ?_⟩
  rintro i m H' ⟨rfl, hi, x', acc, ds, hacc, md, hlen, hY⟩
  have x12 := x2.trans x'
  have fL : Fr a (L :: S) H' := by
    refine ⟨List.mem_cons_of_mem _ f.mem, (f.ext x12).pot, fun b m => ?_⟩
    rcases List.mem_cons.mp m with e | m
    · rw [e]
      exact ⟨_, hacc⟩
    · exact (f.ext x12).all b m
  have sL : Same G (off (L :: S) H') := by
    have s2 : Same G (off S H2) := f.same x2 s
    intro b o e
    have e2 := s2 b o e
    have e3 := x'.off f.mem b o e2
    exact same_off_push hL (x'.off f.mem) b o e2
  have haL : L ≠ a := fun e => hLS (e ▸ f.mem)
  by_cases hlt : i < n
  · refine .inr ⟨hgo n i H' hN hlt, fun H'' => (n - (i + 1) = n - (i + 1) ∧ i + 1 ≤ n ∧ Ext a H2 H'' ∧ ∃ acc ds, H'' L = some (.lst acc) ∧ DA K (off (L :: S) H'') acc ds ∧ ds.length = i + 1 ∧ ∀ i z, ds[i]? = some z → Y i z), ?_, ?_⟩
    · intro H'' h
      exact ⟨n - (i + 1), by omega, h⟩
    · intro x H3 hy
      obtain ⟨e3, hwp, ht, he⟩ := hb n i hN hlt H' x H3 hy
      subst e3
      refine ⟨hwp, ?_⟩
      refine ht (L :: S) H3 fL sL _ fun b H4 x4 eb => ?_
      subst eb
      show te _ H4 _
      have f4 := fL.ext x4
      refine he (L :: S) H4 f4 (fL.same x4 sL) _ fun v d H5 x5 m5 c5 => ?_
      have x45 := x4.trans x5
      have hacc5 : H5 L = some (.lst acc) := x45.keep _ _ haL hacc
      have md5 : DA K (off (L :: S) H5) acc ds := md.mono (x45.off fL.mem)
      have off5 : off (L :: S) (upd H5 L (.lst (acc ++ [v]))) = off (L :: S) H5 := by
        funext b
        unfold off
        by_cases hb : b ∈ L :: S
        · rw [if_pos hb, if_pos hb]
        · rw [if_neg hb, if_neg hb, upd_ne (fun e => hb (by rw [e]; exact List.mem_cons_self))]
      refine ⟨acc, hacc5, ?_, rfl, hlt, ?_, acc ++ [v], ds ++ [d], upd_same, ?_, ?_, ?_⟩
      · rw [md.length, hlen]
        exact Nat.lt_trans (Nat.lt_of_lt_of_le hlt (Nat.le_of_lt (hn n hN))) (by decide)
      · have xx := x'.trans x45
        refine ⟨fun b o nb hb => ?_, fun hp => ?_⟩
        · rw [upd_ne (ne_of_none hb hL)]
          exact xx.keep b o nb hb
        · obtain ⟨p, q, h1, h2⟩ := xx.pot hp
          exact ⟨p, q, by rw [upd_ne haL.symm]; exact h1, h2⟩
      · rw [off5]
        exact md5.append (.cons m5 .nil)
      · rw [List.length_append, hlen]
        rfl
      · intro i2 z hz
        rw [List.getElem?_append] at hz
        split at hz
        · exact hY i2 z hz
        · rename_i h2
          have h3 : i2 - ds.length = 0 := by
            by_cases h4 : i2 - ds.length = 0
            · exact h4
            · rw [List.getElem?_eq_none (by simp; omega)] at hz
              cases hz
          rw [h3] at hz
          simp at hz
          subst hz
          have : i2 = i := by omega
          rw [this]
          exact c5
  · have hin : i = n := by omega
    refine .inl ⟨hst n i H' hN (by omega), ?_⟩
    refine q (.ref L) (.list ds) H' x12 ?_ ⟨n, ds, hN, rfl, by omega, hY⟩
    exact .lst (off_mk hLS hacc) (md.mono same_off_pop)
end
end LK
set_option Elab.async false
set_option linter.all false
set_option maxRecDepth 100000
set_option maxHeartbeats 4000000
/-! LK4: repr of data; isinstance of data; texts -/
namespace LK
open PySem PySem.Spec L2
open PyProof.Rows hiding St

section
variable {X : Cx} {pins : List (Addr × Obj)} {σ : St} {H : Hp} {s : Shared}
theorem key_reads {k : Key} {u : Value} {h : Heap} (e : keyIs k u = true) : Reads h u (kD k) [] := by
  rcases keyIs_shape e with ⟨i, t, rfl, rfl⟩ | ⟨x, t, rfl, rfl⟩
  · exact .int i t
  · exact .str x t
theorem keys_read {h : Heap} : ∀ {es : List DictEntry} {vs : List (Key × Value)}, Pairs (mixKind X.prog X.w) es vs → ReadsAll h (es.map (·.key)) (vs.map fun p => kD p.1) []
  | _, _, .nil => .nil
  | _, _, .cons e _ t => .cons (as := []) (bs := []) (key_reads e) (keys_read t)
theorem vals_at : ∀ {es : List DictEntry} {vs : List (Key × Value)}, Pairs (mixKind X.prog X.w) es vs → es.map (·.val) = vs.map (·.2)
  | _, _, .nil => rfl
  | _, _, .cons _ e t => by
    rw [List.map_cons, List.map_cons, vals_at t, e]
mutual
theorem D.reads (I : Inv X pins σ H s) : ∀ (d : PyData) (v : V) (u : Value), D X.K H v d → RelV v u → ∃ as, Reads s.heap u d as
  | .none, _, _, h, r => by
    cases h
    cases r
    exact ⟨_, .none⟩
  | .bool b, _, _, h, r => by
    cases h
    cases r
    exact ⟨_, .bool b⟩
  | .int i, _, _, h, r => by
    cases h
    obtain ⟨t, rfl⟩ := r
    exact ⟨_, .int i t⟩
  | .str x, _, _, h, r => by
    cases h
    obtain ⟨t, rfl⟩ := r
    exact ⟨_, .str x t⟩
  | .list ds, _, _, h, r => by
    cases h with
    | lst h1 h2 =>
      cases r
      obtain ⟨its, rv, ⟨o, n, ho, hc, _, hd⟩, _⟩ := I.list (SqL.of h1)
      obtain ⟨as, q⟩ := DA.reads I ds _ its h2 rv
      exact ⟨_, .list ho hc hd q⟩
  | .tuple ds, _, _, h, r => by
    cases h with
    | tup h1 h2 =>
      cases r
      obtain ⟨its, rv, ⟨o, ho, hc, n, hd⟩, _⟩ := I.tuple h1
      obtain ⟨as, q⟩ := DA.reads I ds _ its h2 rv
      exact ⟨_, .tuple ho hc hd q⟩
  | .dict ds, _, _, h, r => by
    cases h with
    | dic h1 h2 =>
      cases r
      obtain ⟨z, ny, vs, rk, o, es, ep, ho, hx, hd, _, hp, _⟩ := I.hok _ _ h1
      obtain ⟨e1, rv, da⟩ := kv_of rk h2
      obtain ⟨bs, q2⟩ := DK.reads I ds _ vs h2 rk
      refine ⟨_, Reads.dict (as := []) (bs := bs) ho hx.1 hd ?_ ?_⟩
      · rw [e1]
        exact keys_read hp
      · rw [vals_at hp]
        exact q2
theorem DA.reads (I : Inv X pins σ H s) : ∀ (ds : List PyData) (vs : List V) (us : List Value), DA X.K H vs ds → Vals vs us → ∃ as, ReadsAll s.heap us ds as
  | [], _, _, h, r => by
    cases h
    cases r
    exact ⟨_, .nil⟩
  | d :: ds, _, _, h, r => by
    cases h with
    | cons h1 h2 =>
      cases r with
      | cons r1 r2 =>
        obtain ⟨as, q1⟩ := D.reads I d _ _ h1 r1
        obtain ⟨bs, q2⟩ := DA.reads I ds _ _ h2 r2
        exact ⟨_, .cons q1 q2⟩
theorem DK.reads (I : Inv X pins σ H s) : ∀ (ds : List (PyData × PyData)) (kvs : List (Key × V)) (vs : List (Key × Value)), DK X.K H kvs ds → KV kvs vs → ∃ as, ReadsAll s.heap (vs.map (·.2)) (ds.map (·.2)) as
  | [], _, _, h, r => by
    cases h
    cases r
    exact ⟨_, .nil⟩
  | (k, d) :: ds, _, _, h, r => by
    cases h with
    | cons h1 h2 =>
      cases r with
      | cons r1 r2 =>
        obtain ⟨as, q1⟩ := D.reads I d _ _ h1 r1.2
        obtain ⟨bs, q2⟩ := DK.reads I ds _ _ h2 r2
        exact ⟨_, .cons q1 q2⟩
end
/-! the text of each part, whoever is being written around -/
abbrev RK (X : Cx) (h : Heap) (n : Nat) (u : Value) (t : Str) : Prop := ∃ bs, ReadAtMost h n bs ∧ ReprK X.prog X.w bs h n u t
abbrev RKA (X : Cx) (h : Heap) (n : Nat) (us : List Value) (ts : List Str) : Prop := ∃ bs, ReadAtMost h n bs ∧ ReprAllK X.prog X.w bs h n us ts
theorem ram_nil {h : Heap} {n : Nat} : ReadAtMost h n [] := by
  intro b m
  cases m
theorem rk_flat {h : Heap} {n : Nat} {u : Value} {t : Str} (r : ReprIs X.prog X.w u t) : RK X h n u t := ⟨[], ram_nil, .of_is r _ _ _⟩
theorem rka_cons {h : Heap} {n m : Nat} {u : Value} {us : List Value} {t : Str} {ts : List Str} (a : RK X h n u t) (b : RKA X h m us ts) : RKA X h (max n m) (u :: us) (t :: ts) := by
  obtain ⟨b1, r1, k1⟩ := a
  obtain ⟨b2, r2, k2⟩ := b
  refine ⟨b1 ++ b2, (r1.mono (Nat.le_max_left _ _)).append (r2.mono (Nat.le_max_right _ _)), .cons ?_ ?_⟩
  · exact (k1.more fun b m => List.mem_append_left _ m).level_le (Nat.le_max_left _ _)
  · exact k2.more_le (fun b m => List.mem_append_right _ m) (Nat.le_max_right _ _)
theorem shownAll_map : ∀ ds : List PyData, PyData.shownAll ds = ds.map PyData.shown
  | [] => by simp only [PyData.shownAll, List.map_nil]
  | d :: ds => by simp only [PyData.shownAll, List.map_cons, shownAll_map ds]
theorem keys_rk {h : Heap} : ∀ {es : List DictEntry} {vs : List (Key × Value)}, Pairs (mixKind X.prog X.w) es vs → (∀ p ∈ vs, (kD p.1).showable = true ∧ (kD p.1).shown.length ≤ sizeLine) → RKA X h 0 (es.map (·.key)) (vs.map fun p => (kD p.1).shown)
  | _, _, .nil, _ => ⟨[], ram_nil, .nil⟩
  | _, _, .cons (e := e) (kv := kv) is _ t, ok => by
    have one : RK X h 0 e.key (kD kv.1).shown := by
      have ok1 := ok kv (List.mem_cons_self ..)
      obtain ⟨k, val⟩ := kv
      rcases keyIs_shape is with ⟨i, tk, e1, e2⟩ | ⟨x, tk, e1, e2⟩
      · simp only at e1
        subst e1
        rw [e2]
        have z := ok1.1
        simp only [kD, PyData.showable, decide_eq_true_eq] at z
        rw [show (kD (.inl i)).shown = ((toString i : String) : Str) from PyData.shown_int i]
        exact rk_flat (ReprIs.int tk z)
      · simp only at e1
        subst e1
        rw [e2]
        have z := ok1.2
        rw [show (kD (.inr x)).shown = reprText x from PyData.shown_str x] at z ⊢
        exact rk_flat (ReprIs.str x tk z)
    have r := rka_cons one (keys_rk t fun p m => ok p (List.mem_cons_of_mem _ m))
    exact r
theorem dict_parts (I : Inv X pins σ H s) {a : Addr} {kvs : List (Key × V)} {ds : List (PyData × PyData)} (h1 : H a = some (.dK kvs)) (h2 : DK X.K H kvs ds) (sh : PyData.showableKv ds = true) (fit : (dictText (PyData.shownKv ds)).length ≤ sizeLine)
    (vals : ∀ vs, KV kvs vs → RKA X s.heap (PyData.depthAll (ds.map (·.2))) (vs.map (·.2)) (PyData.shownAll (ds.map (·.2)))) :
    ∃ o es n bs as, s.heap.get? a = some o ∧ o.cls = .type "dict" ∧ o.data = .dict es n ∧ (a == sysModules) = false ∧ a ∉ bs ∧ Reads s.heap (.ref a) (.dict ds) as ∧ ReadAtMost s.heap (PyData.depthKv ds) bs ∧
      ReprEntriesK X.prog X.w bs s.heap (PyData.depthKv ds) es.toList (List.zipWith (fun k v : Str => k ++ ": " ++ v) (PyData.shownAll (ds.map (·.1))) (PyData.shownAll (ds.map (·.2)))) := by
  obtain ⟨z, ny, vs, rk, o, es, ep, ho, hx, hd, _, hp, _⟩ := I.hok _ _ h1
  obtain ⟨e1, rv, da⟩ := kv_of rk h2
  obtain ⟨cs, q2⟩ := DK.reads I ds _ vs h2 rk
  have q1 : ReadsAll s.heap (es.toList.map (·.key)) (ds.map (·.1)) [] := by
    rw [e1]
    exact keys_read hp
  rw [← vals_at hp] at q2
  have rd := Reads.dict ho hx.1 hd q1 q2
  obtain ⟨sh1, sh2⟩ := PyData.showableKv_split ds sh
  have fit1 : ∀ t ∈ PyData.shownAll (ds.map (·.1)), t.length ≤ sizeLine := fun t m => by
    obtain ⟨p, hp, l⟩ := PyData.shownKv_key_le ds t m
    exact Nat.le_trans l (Nat.le_trans (dictText_mem_le hp) fit)
  have ek : PyData.shownAll (ds.map (·.1)) = vs.map fun p => (kD p.1).shown := by
    rw [shownAll_map, e1, List.map_map]
    rfl
  obtain ⟨b1, am1, k1⟩ := keys_rk (X := X) (h := s.heap) hp fun p m => by
    refine ⟨?_, fit1 _ ?_⟩
    · rw [e1] at sh1
      have all : ∀ l : List (Key × Value), PyData.showableAll (l.map fun p => kD p.1) = true → ∀ p ∈ l, (kD p.1).showable = true := by
        intro l
        induction l with
        | nil =>
          intro _ p m
          cases m
        | cons x r ih =>
          intro h p m
          simp only [List.map_cons, PyData.showableAll, Bool.and_eq_true] at h
          rcases List.mem_cons.mp m with e | m
          · rw [e]
            exact h.1
          · exact ih h.2 p m
      exact all vs sh1 p m
    · rw [ek]
      exact List.mem_map.mpr ⟨p, m, rfl⟩
  obtain ⟨b2, am2, k2⟩ := vals vs rk
  rw [← vals_at hp] at k2
  rw [← ek] at k1
  have am : ReadAtMost s.heap (PyData.depthKv ds) (b1 ++ b2) := (am1.mono (Nat.zero_le _)).append (am2.mono (PyData.depthAll_vals_le ds))
  refine ⟨o, es, _, b1 ++ b2, _, ho, hx.1, hd, ny, not_mem_of_deeper rd (by simp only [PyData.depth]; exact Nat.lt_succ_self _) am, rd, am, ?_⟩
  refine ReprEntriesK.of_two es.toList _ _ (k1.more_le (fun b m => List.mem_append_left _ m) (Nat.zero_le _)) ?_
  exact k2.more_le (fun b m => List.mem_append_right _ m) (PyData.depthAll_vals_le ds)
mutual
theorem D.rk (I : Inv X pins σ H s) : ∀ (d : PyData) (v : V) (u : Value), D X.K H v d → RelV v u → d.showable = true → d.shown.length ≤ sizeLine → RK X s.heap d.depth u d.shown
  | .none, _, _, h, r, _, _ => by
    cases h
    cases r
    rw [PyData.shown_none]
    exact rk_flat ReprIs.none
  | .bool b, _, _, h, r, _, _ => by
    cases h
    cases r
    rw [PyData.shown_bool]
    exact rk_flat (ReprIs.bool b)
  | .int i, _, _, h, r, sh, _ => by
    cases h
    obtain ⟨t, rfl⟩ := r
    simp only [PyData.showable, decide_eq_true_eq] at sh
    rw [PyData.shown_int]
    exact rk_flat (ReprIs.int t sh)
  | .str x, _, _, h, r, _, fit => by
    cases h
    obtain ⟨t, rfl⟩ := r
    rw [PyData.shown_str] at fit ⊢
    exact rk_flat (ReprIs.str x t fit)
  | .list ds, _, _, h, r, sh, fit => by
    cases h with
    | lst h1 h2 =>
      cases r
      obtain ⟨its, rv, ⟨o, n, ho, hc, _, hd⟩, _⟩ := I.list (SqL.of h1)
      obtain ⟨as, q⟩ := DA.reads I ds _ its h2 rv
      have rd := Reads.list ho hc hd q
      simp only [PyData.showable] at sh
      simp only [PyData.shown] at fit ⊢
      simp only [PyData.depth]
      obtain ⟨bs, am, kk⟩ := DA.rk I ds _ its h2 rv sh fun t m => Nat.le_trans (listText_mem_le m) fit
      have out := not_mem_of_deeper rd (by simp only [PyData.depth]; exact Nat.lt_succ_self _) am
      have am2 := ReadAtMost.cons rd (by simp only [PyData.depth]; exact Nat.le_succ _) am
      simp only [PyData.depth] at am2
      cases its with
      | nil =>
        cases q
        simp only [PyData.shownAll, listText_nil]
        exact ⟨_, am2, ReprK.listEmpty ho hc hd⟩
      | cons y l =>
        refine ⟨_, am2, ReprK.list ho hc hd out ?_ fun i z e => kk.item i z (by simpa using e)⟩
        simpa using kk.length_eq
  | .tuple ds, _, _, h, r, sh, fit => by
    cases h with
    | tup h1 h2 =>
      cases r
      obtain ⟨its, rv, ⟨o, ho, hc, n, hd⟩, _⟩ := I.tuple h1
      obtain ⟨as, q⟩ := DA.reads I ds _ its h2 rv
      have rd := Reads.tuple ho hc hd q
      simp only [PyData.showable] at sh
      simp only [PyData.shown] at fit ⊢
      simp only [PyData.depth]
      obtain ⟨bs, am, kk⟩ := DA.rk I ds _ its h2 rv sh fun t m => Nat.le_trans (tupleText_mem_le m) fit
      have out := not_mem_of_deeper rd (by simp only [PyData.depth]; exact Nat.lt_succ_self _) am
      have am2 := ReadAtMost.cons rd (by simp only [PyData.depth]; exact Nat.le_succ _) am
      simp only [PyData.depth] at am2
      exact ⟨_, am2, ReprK.tuple ho hc hd out kk⟩
  | .dict ds, _, _, h, r, sh, fit => by
    cases h with
    | dic h1 h2 =>
      cases r
      simp only [PyData.showable] at sh
      simp only [PyData.shown] at fit ⊢
      simp only [PyData.depth]
      obtain ⟨sh1, sh2⟩ := PyData.showableKv_split ds sh
      have fit2 : ∀ t ∈ PyData.shownAll (ds.map (·.2)), t.length ≤ sizeLine := fun t m => by
        obtain ⟨p, hp, l⟩ := PyData.shownKv_val_le ds t m
        exact Nat.le_trans l (Nat.le_trans (dictText_mem_le hp) fit)
      obtain ⟨o, es, n, bs, as, ho, hc, hd, ny, out, rd, am, ee⟩ := dict_parts I h1 h2 sh fit fun vs rk => DK.rk I ds _ vs h2 rk sh2 fit2
      have am3 := ReadAtMost.cons rd (by simp only [PyData.depth]; exact Nat.le_succ _) am
      simp only [PyData.depth] at am3
      rw [PyData.shownKv_eq]
      exact ⟨_, am3, ReprK.dict ho hc hd ny out ee⟩
theorem DA.rk (I : Inv X pins σ H s) : ∀ (ds : List PyData) (vs : List V) (us : List Value), DA X.K H vs ds → Vals vs us → PyData.showableAll ds = true → (∀ t ∈ PyData.shownAll ds, t.length ≤ sizeLine) → RKA X s.heap (PyData.depthAll ds) us (PyData.shownAll ds)
  | [], _, _, h, r, _, _ => by
    cases h
    cases r
    simp only [PyData.shownAll]
    exact ⟨[], ram_nil, .nil⟩
  | d :: ds, _, _, h, r, sh, fit => by
    cases h with
    | cons h1 h2 =>
      cases r with
      | cons r1 r2 =>
        simp only [PyData.showableAll, Bool.and_eq_true] at sh
        simp only [PyData.shownAll] at fit ⊢
        simp only [PyData.depthAll]
        exact rka_cons (D.rk I d _ _ h1 r1 sh.1 (fit _ (List.mem_cons_self ..))) (DA.rk I ds _ _ h2 r2 sh.2 fun t m => fit t (List.mem_cons_of_mem _ m))
theorem DK.rk (I : Inv X pins σ H s) : ∀ (ds : List (PyData × PyData)) (kvs : List (Key × V)) (vs : List (Key × Value)), DK X.K H kvs ds → KV kvs vs → PyData.showableAll (ds.map (·.2)) = true → (∀ t ∈ PyData.shownAll (ds.map (·.2)), t.length ≤ sizeLine) →
    RKA X s.heap (PyData.depthAll (ds.map (·.2))) (vs.map (·.2)) (PyData.shownAll (ds.map (·.2)))
  | [], _, _, h, r, _, _ => by
    cases h
    cases r
    simp only [List.map_nil, PyData.shownAll]
    exact ⟨[], ram_nil, .nil⟩
  | (k, d) :: ds, _, _, h, r, sh, fit => by
    cases h with
    | cons h1 h2 =>
      cases r with
      | cons r1 r2 =>
        simp only [List.map_cons, PyData.showableAll, Bool.and_eq_true] at sh
        simp only [List.map_cons, PyData.shownAll] at fit ⊢
        simp only [PyData.depthAll]
        exact rka_cons (D.rk I d _ _ h1 r1.2 sh.1 (fit _ (List.mem_cons_self ..))) (DK.rk I ds _ _ h2 r2 sh.2 fun t m => fit t (List.mem_cons_of_mem _ m))
end
end

/-- data that repr takes: no part too long -/
structure Tame (d : PyData) : Prop where
  sh : d.showable = true
  lv : d.leavesShort 2000 = true
  bk : d.bulk ≤ 8000
  dp : d.depth ≤ 60
theorem Tame.fits {d : PyData} (t : Tame d) : d.shown.length ≤ sizeLine := by
  have h := PyData.shown_le_bulk 2000 (by decide) d t.lv
  have := t.bk
  rw [sizeLine_eq]
  omega
def rRepr (K : PySem.W.Frag) : List V → Hp → VK → Prop := fun xs H Q => ∃ v d, xs = [v] ∧ D K H v d ∧ Tame d ∧ Q (.str d.shown) H
section
variable {X : Cx}
theorem call_repr (hg : NoG X.A) (hu : X.A.units + 64 < cLine) : CallR X (.builtin "repr") (rRepr X.K) := by
  intro pins s σ H xs us Q I r h
  obtain ⟨v, d, rfl, m, tm, q⟩ := h
  obtain ⟨u, rfl, ru⟩ := vals1 r
  have fit := tm.fits
  have room : X.A.units + 1 + d.depth < cLine := by
    have := tm.dp
    omega
  have fin : ∀ h' t tk, (∀ b o, s.heap.get? b = some o → h'.get? b = some o) → EP X pins σ Q (.str d.shown t) { s with heap := h', toks := tk } := fun h' t tk k => ⟨.str d.shown, H, I.kept k, ⟨_, rfl⟩, q⟩
  cases m with
  | non =>
    obtain rfl : u = Value.none := ru
    rw [PyData.shown_none] at q
    exact P.repr_of_none ⟨.str _, H, I.tok _, ⟨_, rfl⟩, q⟩
  | bl b =>
    obtain rfl : u = Value.bool b := ru
    rw [PyData.shown_bool] at q
    exact P.repr_of_bool ⟨.str _, H, I.tok _, ⟨_, rfl⟩, q⟩
  | int i =>
    obtain ⟨t, rfl⟩ := ru
    rw [PyData.shown_int] at q
    have z := tm.sh
    simp only [PyData.showable, decide_eq_true_eq] at z
    exact P.repr_of_int z ⟨.str _, H, I.tok _, ⟨_, rfl⟩, q⟩
  | str x =>
    obtain ⟨t, rfl⟩ := ru
    rw [PyData.shown_str] at q fit
    exact P.repr_of_str ⟨.str _, H, I.tok _, ⟨_, rfl⟩, q⟩ fit
  | lst h1 h2 =>
    obtain rfl := ru
    rename_i ds
    obtain ⟨its, rv, ⟨o, n, ho, hc, _, hd⟩, _⟩ := I.list (SqL.of h1)
    obtain ⟨as, rd⟩ := DA.reads I ds _ its h2 rv
    have sh := tm.sh
    simp only [PyData.showable] at sh
    simp only [PyData.depth] at room
    simp only [PyData.shown] at fit fin
    obtain ⟨bs, am, kk⟩ := DA.rk I ds _ its h2 rv sh fun t m => Nat.le_trans (listText_mem_le m) fit
    have out := not_mem_of_deeper (Reads.list ho hc hd rd) (by simp only [PyData.depth]; exact Nat.lt_succ_self _) am
    have ty : s.TypeIs (.ref _) "list" := ⟨o, ho, hc⟩
    apply call_repr_slot (by omega) ty F.slot_list_repr.toG
    cases its with
    | nil =>
      cases rd
      simp only [PyData.shownAll, listText_nil] at fin
      exact call_list_repr_empty ⟨o, ho, hc⟩ ho hd ⟨_, _, rfl, fin s.heap _ _ fun _ _ e => e⟩
    | cons y l =>
      exact call_list_reprK ho hc hd out (by simpa using kk.length_eq) (fun i z e => kk.item i z (by simpa using e)) hg (fun b _ => Clear.nil b) room (fun _ _ e => e) (fun h' t tk k => ⟨_, _, rfl, fin h' t tk k⟩) fit
  | tup h1 h2 =>
    obtain rfl := ru
    rename_i ds
    obtain ⟨its, rv, ⟨o, ho, hc, n, hd⟩, _⟩ := I.tuple h1
    obtain ⟨as, rd⟩ := DA.reads I ds _ its h2 rv
    have sh := tm.sh
    simp only [PyData.showable] at sh
    simp only [PyData.depth] at room
    simp only [PyData.shown] at fit fin
    obtain ⟨bs, am, kk⟩ := DA.rk I ds _ its h2 rv sh fun t m => Nat.le_trans (tupleText_mem_le m) fit
    have out := not_mem_of_deeper (Reads.tuple ho hc hd rd) (by simp only [PyData.depth]; exact Nat.lt_succ_self _) am
    have ty : s.TypeIs (.ref _) "tuple" := ⟨o, ho, hc⟩
    apply call_repr_slot (by omega) ty F.slot_tuple_repr
    exact call_tuple_reprK ho hc hd out kk hg (fun b _ => Clear.nil b) room (fun _ _ e => e) (fun h' t tk k => ⟨_, _, rfl, fin h' t tk k⟩) fit
  | dic h1 h2 =>
    obtain rfl := ru
    rename_i a kvs ds
    have sh := tm.sh
    simp only [PyData.showable] at sh
    simp only [PyData.shown] at fit fin
    simp only [PyData.depth] at room
    obtain ⟨sh1, sh2⟩ := PyData.showableKv_split ds sh
    have fit2 : ∀ t ∈ PyData.shownAll (ds.map (·.2)), t.length ≤ sizeLine := fun t m => by
      obtain ⟨p, hp, l⟩ := PyData.shownKv_val_le ds t m
      exact Nat.le_trans l (Nat.le_trans (dictText_mem_le hp) fit)
    obtain ⟨o, es, n, bs, as, ho, hc, hd, ny, out, rd, am, ee⟩ := dict_parts I h1 h2 sh fit fun vs rk => DK.rk I ds _ vs h2 rk sh2 fit2
    rw [PyData.shownKv_eq] at fit fin
    have ty : s.TypeIs (.ref a) "dict" := ⟨o, ho, hc⟩
    apply call_repr_slot (by omega) ty F.slot_dict_repr
    exact call_dict_reprK ho hc hd ny out ee hg (fun b _ => Clear.nil b) room (fun _ _ e => e) (fun h' t tk k => ⟨_, _, rfl, fin h' t tk k⟩) fit
end

/-! ### types -/
def tyD : PyData → String
  | .none => "NoneType"
  | .bool _ => "bool"
  | .int _ => "int"
  | .str _ => "str"
  | .list _ => "list"
  | .tuple _ => "tuple"
  | .dict _ => "dict"
theorem D.ty {K : PySem.W.Frag} {H : Hp} {v : V} {d : PyData} (m : D K H v d) : TyX K H v (.type (tyD d)) := by
  cases m with
  | non => exact .base .non
  | bl b => exact .base (.bl b)
  | int i => exact .base (.int i)
  | str x => exact .base (.str x)
  | lst h1 h2 => exact .base (.lst h1)
  | tup h1 h2 =>
    rcases h1 with (h | ⟨o, h⟩) | ⟨o, its, n, h, c, _⟩
    · exact .base (.tup h)
    · exact .fTuple h
    · exact .kTuple h c
  | dic h1 h2 => exact .base (.dK h1)
section
variable {K : PySem.W.Frag} {a : Addr} {G : Hp} {σ : St} {te : TE} {C : PyData → Prop}
/-- isinstance(x, T), T a built-in class -/
theorem ev_isi {n : String} {B : Bool → Prop} (h : Ev K a G te σ C) (hk : ∀ d, C d → ∃ b, kitB (tyD d) n = some b ∧ B b) :
    Ev K a G (tCB (rIsi K) (tCons te (tCons (tC (.ty n)) tNil))) σ (IsB B) := fun S H1 f s Q q =>
  h S H1 f s _ fun v d H2 x2 m c => by
    obtain ⟨b, h1, h2⟩ := hk d c
    exact ⟨v, .ty n, .type (tyD d), .type n, b, rfl, .ty n, (m.mono off_le).ty, kit_ty h1, q _ _ H2 x2 (.bl b) ⟨b, rfl, h2⟩⟩
theorem ev_repr (h : Ev K a G te σ C) (ht : ∀ d, C d → Tame d) : Ev K a G (tCB (rRepr K) (tCons te tNil)) σ (fun z => ∃ d, C d ∧ z = .str d.shown) := fun S H1 f s Q q =>
  h S H1 f s _ fun v d H2 x2 m c => ⟨v, d, rfl, m.mono off_le, ht d c, q _ _ H2 x2 (.str _) ⟨d, c, rfl⟩⟩
theorem ev_reprE {d : PyData} (h : Ev K a G te σ (· = d)) (ht : Tame d) : Ev K a G (tCB (rRepr K) (tCons te tNil)) σ (· = .str d.shown) :=
  (ev_repr h fun _ e => e ▸ ht).imp fun _ ⟨_, e, z⟩ => by rw [z, e]
/-- == of two texts -/
theorem r2_eqStr {x y : Str} : R2D K a rEq (.str x) (.str y) (· = .bool (decide (x = y))) := by
  intro S H u v f mx my Q q
  cases mx
  cases my
  refine ⟨rfl, q _ _ H Ext.refl (.bl _) ?_⟩
  by_cases e : x = y
  · rw [e]
    simp
  · have e' : ¬ V.str x = V.str y := fun z => e (V.str.inj z)
    rw [decide_eq_false e, decide_eq_false e']
end
end LK
set_option Elab.async false
set_option linter.all false
set_option maxRecDepth 100000
set_option maxHeartbeats 4000000
/-! LK5: operators and built-ins that serve several kinds of data; what they give by data -/
namespace LK
open PySem PySem.Spec L2
open PyProof.Rows hiding St

section
variable {X : Cx}
def rAddS : R2 := fun x y H Q => ∃ i j, x = .str i ∧ y = .str j ∧ i.length + j.length ≤ sizeLine ∧ Q (.str (i ++ j)) H
def rAddA (K : PySem.W.Frag) : R2 := fun x y H Q => rI0 (fun i j => .int (i + j)) x y H Q ∨ rAddS x y H Q ∨ rCat x y H Q ∨ rCatT K x y H Q
theorem oAdd : OpR X (binaryOp .Add) (rAddA X.K) := op_add.or (OpR.or (r := rAddS) op_add_str (op_cat.or op_catT))
def rMulS : R2 := fun x y H Q => ∃ z n, x = .str z ∧ y = .int n ∧ MulOk z n ∧ Q (.str (Txt.mul z n)) H
theorem op_mulS : OpR X (binaryOp .Mult) rMulS := by
  intro pins s σ H x y v u Q I rx ry h
  obtain ⟨z, n, rfl, rfl, ok, q⟩ := h
  obtain ⟨t, rfl⟩ := rx
  obtain ⟨t', rfl⟩ := ry
  exact SB.mul ok fun t2 k => ⟨.str _, H, I.tok _, ⟨_, rfl⟩, q⟩
def rMulA : R2 := fun x y H Q => rI CMulX (fun i j => .int (i * j)) x y H Q ∨ rMulS x y H Q ∨ rRep x y H Q
theorem oMul : OpR X (binaryOp .Mult) rMulA := op_mulX.or (op_mulS.or op_rep)
def rEqA (K : PySem.W.Frag) : R2 := fun x y H Q => rEq x y H Q ∨ rEqD K x y H Q
def rNeA (K : PySem.W.Frag) : R2 := fun x y H Q => rNe x y H Q ∨ rNeD K x y H Q
theorem oEq (hu : X.A.units + 64 < cLine) : OpR X (compareOp .Eq) (rEqA X.K) := op_eq.or (op_eqD hu)
theorem oNe (hu : X.A.units + 64 < cLine) : OpR X (compareOp .NotEq) (rNeA X.K) := op_ne.or (op_neD hu)
def rSgn : R2 := fun x y H Q => ∃ (c : Nat) (z : Str), x = .str ⟨#[c]⟩ ∧ y = .str z ∧ Q (.bl (decide (c ∈ z.cps.toList))) H
def rNSgn : R2 := fun x y H Q => ∃ (c : Nat) (z : Str), x = .str ⟨#[c]⟩ ∧ y = .str z ∧ Q (.bl (!decide (c ∈ z.cps.toList))) H
def rInA (K : PySem.W.Frag) : R2 := fun x y H Q => rSgn x y H Q ∨ rIn K false x y H Q
def rNotInA (K : PySem.W.Frag) : R2 := fun x y H Q => rNSgn x y H Q ∨ rIn K true x y H Q
theorem oIn : OpR X (compareOp .In) (rInA X.K) := OpR.or (r := rSgn) op_in_sign op_in_seq
theorem oNotIn : OpR X (compareOp .NotIn) (rNotInA X.K) := OpR.or (r := rNSgn) op_notIn_sign op_notIn_seq
def rLenA (K : PySem.W.Frag) : List V → Hp → VK → Prop := fun xs H Q => ∃ x n, xs = [x] ∧ LenV K x H n ∧ Q (.int (n : Nat)) H
theorem cLen : CallR X (.builtin "len") (rLenA X.K) := call_len
theorem cIsi : CallR X (.builtin "isinstance") (rIsi X.K) := call_isi
theorem cAll (hc : X.calm = true) : CallR X (.builtin "all") (rAll X.K) := cr_all hc
def rDm : List V → Hp → VK → Prop := fun xs H Q => ∃ i j, xs = [.int i, .int j] ∧ CDivW i j ∧ ∀ p, H p = none → Q (.ref p) (upd H p (.tup [.int (i / j), .int (i % j)]))
theorem call_divmodX : CallR X (.builtin "divmod") rDm := by
  intro pins s σ H xs us Q I r h
  obtain ⟨i, j, rfl, ⟨pos, small⟩, q⟩ := h
  obtain ⟨u1, u2, rfl, ⟨t1, rfl⟩, ⟨t2, rfl⟩⟩ := vals2 r
  have nz : j ≠ 0 := by omega
  have nn : 0 ≤ j := by omega
  have fr := I.fresh
  apply PyProof.Rows.divmod_int nz _ (.inl (PyProof.noPylong_of_log2 small))
  rw [Int.fdiv_eq_ediv_of_nonneg i nn, Int.fmod_eq_emod_of_nonneg i nn]
  refine ⟨.ref s.heap.objs.size, _, I.laid (o := .tup [.int (i / j), .int (i % j)]) (fun b o e => Heap.get?_push_of_some _ e) (Nat.le_refl _) ?_, rfl, q _ fr⟩
  refine ⟨by show 2 ≤ sizeLine; decide, [.int (i / j) s.toks, .int (i % j) (s.toks + 1)], .cons ⟨_, rfl⟩ (.cons ⟨_, rfl⟩ .nil), ?_⟩
  exact ⟨_, Heap.get?_push_size s.heap rfl, rfl, 0, rfl⟩
/-! the same with the written part by its own name -/
theorem kAdd {K : PySem.W.Frag} (e : X.K = K := by rfl) : OpR X (binaryOp .Add) (rAddA K) := e ▸ oAdd
theorem kEq {K : PySem.W.Frag} (hu : X.A.units + 64 < cLine) (e : X.K = K := by rfl) : OpR X (compareOp .Eq) (rEqA K) := e ▸ oEq hu
theorem kNe {K : PySem.W.Frag} (hu : X.A.units + 64 < cLine) (e : X.K = K := by rfl) : OpR X (compareOp .NotEq) (rNeA K) := e ▸ oNe hu
theorem kIn {K : PySem.W.Frag} (e : X.K = K := by rfl) : OpR X (compareOp .In) (rInA K) := e ▸ oIn
theorem kNotIn {K : PySem.W.Frag} (e : X.K = K := by rfl) : OpR X (compareOp .NotIn) (rNotInA K) := e ▸ oNotIn
theorem kLen {K : PySem.W.Frag} (e : X.K = K := by rfl) : CallR X (.builtin "len") (rLenA K) := e ▸ cLen
theorem kIsi {K : PySem.W.Frag} (e : X.K = K := by rfl) : CallR X (.builtin "isinstance") (rIsi K) := e ▸ cIsi
theorem kAll {K : PySem.W.Frag} (hc : X.calm = true) (e : X.K = K := by rfl) : CallR X (.builtin "all") (rAll K) := e ▸ cAll hc
theorem kRepr {K : PySem.W.Frag} (hg : NoG X.A) (hu : X.A.units + 64 < cLine) (e : X.K = K := by rfl) : CallR X (.builtin "repr") (rRepr K) := by
  subst e
  exact call_repr hg hu
theorem kIx {K : PySem.W.Frag} (e : X.K = K := by rfl) : IxR X (rIx K) := e ▸ ix_seq
/-- a module's text, a module's int -/
theorem pe_gS {x z : Str} {pos : Pos} (hg : Gl X x) (hm : ∃ t, X.mg x = some (.str z t)) (hd : (x == ("__debug__" : Str)) = false := by decide) : PE X (.Name x pos) (tC (.str z)) := by
  obtain ⟨t, e⟩ := hm
  exact pe_glob hg e ⟨t, rfl⟩ hd
theorem pe_gI {x : Str} {z : Int} {pos : Pos} (hg : Gl X x) (hm : ∃ t, X.mg x = some (.int z t)) (hd : (x == ("__debug__" : Str)) = false := by decide) : PE X (.Name x pos) (tC (.int z)) := by
  obtain ⟨t, e⟩ := hm
  exact pe_glob hg e ⟨t, rfl⟩ hd
end

section
variable {K : PySem.W.Frag} {a : Addr} {S : List Addr} {σ : St} {G H : Hp} {ta tb tc te : TE} {tr : TA} {C C1 C2 : PyData → Prop} {r r' : R2} {d e : PyData}
theorem R2D.inl (h : R2D K a r d e C) : R2D K a (fun x y H Q => r x y H Q ∨ r' x y H Q) d e C := fun S H x y f m1 m2 Q q => .inl (h S H x y f m1 m2 Q q)
theorem R2D.inr (h : R2D K a r' d e C) : R2D K a (fun x y H Q => r x y H Q ∨ r' x y H Q) d e C := fun S H x y f m1 m2 Q q => .inr (h S H x y f m1 m2 Q q)
theorem R2D.imp (h : R2D K a r d e C1) (i : ∀ z, C1 z → C z) : R2D K a r d e C := fun S H x y f m1 m2 Q q => h S H x y f m1 m2 Q fun v z H2 x2 m c => q v z H2 x2 m (i z c)
/-! + -/
theorem ra_int {i j : Int} : R2D K a (rAddA K) (.int i) (.int j) (· = .int (i + j)) := R2D.inl (r2_I0 (fun _ => .int _) rfl)
theorem ra_str {i j : Str} (h : i.length + j.length ≤ 1000000) : R2D K a (rAddA K) (.str i) (.str j) (· = .str (i ++ j)) := R2D.inr (R2D.inl fun S H x y f m1 m2 Q q => by
  cases m1
  cases m2
  exact ⟨i, j, rfl, rfl, Nat.le_trans h (by decide), q _ _ H Ext.refl (.str _) rfl⟩)
theorem ra_lst {ds es : List PyData} (h : ds.length + es.length ≤ 1000000) : R2D K a (rAddA K) (.list ds) (.list es) (· = .list (ds ++ es)) := R2D.inr (R2D.inr (R2D.inl fun S H x y f m1 m2 Q q => by
  cases m1 with
  | lst h1 n1 =>
    cases m2 with
    | lst h2 n2 =>
      exact ⟨_, _, _, _, rfl, rfl, off_le _ _ h1, off_le _ _ h2, by rw [n1.length, n2.length]; exact Nat.le_trans h (by decide), fun p hp =>
        q _ _ _ (Ext.new hp) (D.new_lst hp (f.out hp) (n1.append n2)) rfl⟩))
theorem ra_tup {ds es : List PyData} (h0 : ds ≠ []) (h : ds.length + es.length ≤ 1000000) : R2D K a (rAddA K) (.tuple ds) (.tuple es) (· = .tuple (ds ++ es)) := R2D.inr (R2D.inr (R2D.inr fun S H x y f m1 m2 Q q => by
  cases m1 with
  | tup h1 n1 =>
    cases m2 with
    | tup h2 n2 =>
      rename_i b1 x1 b2 x2
      have hne : x1 ≠ [] := fun z => by
        subst z
        have := n1.length
        exact h0 (List.length_eq_zero_iff.mp this.symm)
      refine ⟨_, _, x1, x2, rfl, rfl, sqT_same off_le h1, sqT_same off_le h2, hne, by rw [n1.length, n2.length]; exact Nat.le_trans h (by decide), ?_, ?_⟩
      · intro z
        have l := n2.length
        rw [z] at l
        have ez : es = [] := List.length_eq_zero_iff.mp l.symm
        refine q _ _ H Ext.refl (.tup h1 n1) ?_
        rw [ez, List.append_nil]
      · intro _ p hp
        exact q _ _ _ (Ext.new hp) (D.new_tup hp (f.out hp) (n1.append n2)) rfl))
theorem ev_addI {cI cJ cR : Int → Prop} (ha : Ev K a G ta σ (IsI cI)) (hb : Ev K a G tb σ (IsI cJ)) (hr : ∀ i j, cI i → cJ j → cR (i + j)) : Ev K a G (tOp (rAddA K) ta tb) σ (IsI cR) := by
  refine ev_op ha hb ?_
  rintro _ _ ⟨i, rfl, hi⟩ ⟨j, rfl, hj⟩
  exact ra_int.imp fun z e => ⟨_, e, hr i j hi hj⟩
theorem ev_mulI {cI cJ cR : Int → Prop} (ha : Ev K a G ta σ (IsI cI)) (hb : Ev K a G tb σ (IsI cJ)) (hr : ∀ i j, cI i → cJ j → CMulX i j ∧ cR (i * j)) : Ev K a G (tOp rMulA ta tb) σ (IsI cR) := by
  refine ev_op ha hb ?_
  rintro _ _ ⟨i, rfl, hi⟩ ⟨j, rfl, hj⟩
  obtain ⟨h1, h2⟩ := hr i j hi hj
  exact R2D.inl (r2_I h1 (fun _ => .int _) ⟨_, rfl, h2⟩)
theorem ev_mulS {z : Str} {n : Int} (ha : Ev K a G ta σ (· = .str z)) (hb : Ev K a G tb σ (· = .int n)) (ok : MulOk z n) : Ev K a G (tOp rMulA ta tb) σ (· = .str (Txt.mul z n)) := by
  refine ev_op ha hb ?_
  rintro _ _ rfl rfl
  exact R2D.inr (R2D.inl fun S H x y f m1 m2 Q q => by
    cases m1
    cases m2
    exact ⟨z, n, rfl, rfl, ok, q _ _ H Ext.refl (.str _) rfl⟩)
/-! == -/
theorem ev_eqS {x y : Str} (ha : Ev K a G ta σ (· = .str x)) (hb : Ev K a G tb σ (· = .str y)) : Ev K a G (tOp (rEqA K) ta tb) σ (· = .bool (decide (x = y))) := by
  refine ev_op ha hb ?_
  rintro _ _ rfl rfl
  exact R2D.inl r2_eqStr
theorem r2_neStr {x y : Str} : R2D K a rNe (.str x) (.str y) (· = .bool (!decide (x = y))) := by
  intro S H u v f mx my Q q
  cases mx
  cases my
  refine ⟨rfl, q _ _ H Ext.refl (.bl _) ?_⟩
  by_cases e : x = y
  · rw [e]
    simp
  · have e' : ¬ V.str x = V.str y := fun z => e (V.str.inj z)
    rw [decide_eq_false e, decide_eq_false e']
theorem ev_neS {x y : Str} (ha : Ev K a G ta σ (· = .str x)) (hb : Ev K a G tb σ (· = .str y)) : Ev K a G (tOp (rNeA K) ta tb) σ (· = .bool (!decide (x = y))) := by
  refine ev_op ha hb ?_
  rintro _ _ rfl rfl
  exact R2D.inl r2_neStr
/-! in -/
theorem ev_inSgn {P : Nat → Prop} {z : Str} {B : Bool → Prop} (ha : Ev K a G ta σ (fun d => ∃ c, d = .str ⟨#[c]⟩ ∧ P c)) (hb : Ev K a G tb σ (· = .str z)) (hB : ∀ c, P c → B (decide (c ∈ z.cps.toList))) :
    Ev K a G (tOp (rInA K) ta tb) σ (IsB B) := by
  refine ev_op ha hb ?_
  rintro _ _ ⟨c, rfl, hc⟩ rfl
  exact R2D.inl fun S H x y f m1 m2 Q q => by
    cases m1
    cases m2
    exact ⟨c, z, rfl, rfl, q _ _ H Ext.refl (.bl _) ⟨_, rfl, hB c hc⟩⟩
/-! len -/
def lenD : PyData → Option Nat
  | .str x => some x.length
  | .list xs => some xs.length
  | .tuple xs => some xs.length
  | _ => none
theorem ev_len {cI : Int → Prop} (h : Ev K a G te σ C) (hl : ∀ d, C d → ∃ n, lenD d = some n ∧ n ≤ 1000000 ∧ cI (n : Nat)) : Ev K a G (tCB (rLenA K) (tCons te tNil)) σ (IsI cI) := fun S H1 f s Q q =>
  h S H1 f s _ fun v d H2 x2 m c => by
    obtain ⟨n, e, z, hn⟩ := hl d c
    have big : ∀ k : Nat, k ≤ 1000000 → k ≤ sizeLine := fun k hk => Nat.le_trans hk (by decide)
    cases m with
    | str x =>
      cases e
      exact ⟨.str x, x.length, rfl, ⟨big _ z, rfl⟩, q _ _ H2 x2 (.int _) ⟨_, rfl, hn⟩⟩
    | lst h1 h2 =>
      cases e
      exact ⟨_, _, rfl, .inl ⟨_, SqL.of (off_le _ _ h1), h2.length.symm⟩, q _ _ H2 x2 (.int _) ⟨_, rfl, hn⟩⟩
    | tup h1 h2 =>
      cases e
      exact ⟨_, _, rfl, .inr ⟨_, sqT_same off_le h1, h2.length.symm⟩, q _ _ H2 x2 (.int _) ⟨_, rfl, hn⟩⟩
    | _ => cases e
/-! all -/
theorem ev_all {B : Bool → Prop} (h : Ev K a G te σ C) (hl : ∀ d, C d → ∃ bs : List Bool, d = .list (bs.map .bool) ∧ B (bs.all id)) : Ev K a G (tCB (rAll K) (tCons te tNil)) σ (IsB B) := fun S H1 f s Q q =>
  h S H1 f s _ fun v d H2 x2 m c => by
    obtain ⟨bs, rfl, hB⟩ := hl d c
    cases m with
    | lst h1 h2 =>
      have e := h2.bools
      subst e
      exact ⟨_, bs, rfl, SqL.of (off_le _ _ h1), q _ _ H2 x2 (.bl _) ⟨_, rfl, hB⟩⟩
/-! items -/
theorem ev_ixL {cI : Int → Prop} (ha : Ev K a G ta σ C1) (hb : Ev K a G tb σ (IsI cI)) (hr : ∀ d i, C1 d → cI i → ∃ ds z, (d = .list ds ∨ d = .tuple ds) ∧ atI ds i = some z ∧ C z) : Ev K a G (tOp (rIx K) ta tb) σ C := by
  refine ev_op ha hb ?_
  rintro d _ c1 ⟨i, rfl, ci⟩
  obtain ⟨ds, z, e, hz, cz⟩ := hr d i c1 ci
  intro S H x y f m1 m2 Q q
  cases m2
  have item : ∀ {xs : List V}, DA K (off S H) xs ds → ∃ v, atI xs i = some v ∧ D K (off S H) v z := by
    intro xs da
    unfold atI at hz ⊢
    rw [da.length]
    cases hx : ixN ds.length i with
    | none =>
      rw [hx] at hz
      cases hz
    | some j =>
      rw [hx] at hz
      exact da.get hz
  rcases e with rfl | rfl
  · cases m1 with
    | lst h1 n1 =>
      obtain ⟨v, e1, e2⟩ := item n1
      exact .inl ⟨_, _, i, v, rfl, rfl, SqL.of (off_le _ _ h1), e1, q v z H Ext.refl e2 cz⟩
  · cases m1 with
    | tup h1 n1 =>
      obtain ⟨v, e1, e2⟩ := item n1
      exact .inr (.inl ⟨_, _, i, v, rfl, rfl, sqT_same off_le h1, e1, q v z H Ext.refl e2 cz⟩)
/-- a sign of a text -/
theorem ev_ixS {cI : Int → Prop} {z : Str} (ha : Ev K a G ta σ (· = .str z)) (hb : Ev K a G tb σ (IsI cI)) (hz : z.length ≤ 1000000) (hr : ∀ i, cI i → ∃ c, atI z.cps.toList i = some c ∧ C (.str ⟨#[c]⟩)) : Ev K a G (tOp (rIx K) ta tb) σ C := by
  refine ev_op ha hb ?_
  rintro _ _ rfl ⟨i, rfl, ci⟩
  obtain ⟨c, hc, cz⟩ := hr i ci
  intro S H x y f m1 m2 Q q
  cases m1
  cases m2
  exact .inr (.inr ⟨z, i, c, rfl, rfl, Nat.le_trans hz (by decide), hc, q _ _ H Ext.refl (.str _) cz⟩)
/-! a < b < c of ints -/
theorem et_chainI {cA cB cC : Int → Prop} {B : Bool → Prop} {g g' : Int → Int → Bool} (ha : Ev K a G ta σ (IsI cA)) (hb : Ev K a G tb σ (IsI cB)) (hc : Ev K a G tc σ (IsI cC)) (h : ∀ i j k, cA i → cB j → cC k → B (g i j && g' j k))
    (hf : ∀ i j, cA i → cB j → g i j = false → B false) : EvT a G (tTest (tChain (rI0 fun i j => .bl (g i j)) (rI0 fun i j => .bl (g' i j)) ta tb tc)) σ B := fun S H1 f s Q q =>
  ha S H1 f s _ fun v d H2 x2 m c => hb S H2 (f.ext x2) (f.same x2 s) _ fun w e H3 x3 m3 c3 => by
    obtain ⟨i, rfl, hi⟩ := c
    obtain ⟨j, rfl, hj⟩ := c3
    cases m
    cases m3
    refine ⟨i, j, rfl, rfl, g i j, rfl, ?_⟩
    cases hg : g i j with
    | false => exact ⟨false, rfl, q false H3 (x2.trans x3) (hf i j hi hj hg)⟩
    | true =>
      have f3 := (f.ext x2).ext x3
      refine hc S H3 f3 (f.same (x2.trans x3) s) _ fun z g2 H4 x4 m4 c4 => ?_
      obtain ⟨k, rfl, hk⟩ := c4
      cases m4
      have hB := h i j k hi hj hk
      rw [hg, Bool.true_and] at hB
      exact ⟨j, k, rfl, rfl, g' j k, rfl, q _ H4 ((x2.trans x3).trans x4) hB⟩
/-! what is walked -/
theorem wr_range {cI : Int → Prop} (h : Ev K a G te σ (IsI cI)) (hb : ∀ i, cI i → 0 ≤ i ∧ i < 100000) {S : List Addr} {H1 : Hp} (f : Fr a S H1) (s : Same G (off S H1)) (R : It → Hp → Prop) (q : ∀ n H2, Ext a H1 H2 → cI (n : Nat) → R (Itr 0 n) H2) : iRng1 (tCons te tNil) σ H1 R :=
  h S H1 f s _ fun v d H2 x2 m c => by
    obtain ⟨i, rfl, ci⟩ := c
    cases m
    obtain ⟨h1, h2⟩ := hb i ci
    have e : ((i.toNat : Nat) : Int) = i := Int.toNat_of_nonneg h1
    exact ⟨i, rfl, by omega, by omega, q i.toNat H2 x2 (by rw [e]; exact ci)⟩
theorem wr_str {z : Str} (h : Ev K a G te σ (· = .str z)) {S : List Addr} {H1 : Hp} (f : Fr a S H1) (s : Same G (off S H1)) (R : It → Hp → Prop) (q : ∀ H2, Ext a H1 H2 → R (Its z) H2) : iStr te σ H1 R :=
  h S H1 f s _ fun v d H2 x2 m c => by
    subst c
    cases m
    exact ⟨z, rfl, q H2 x2⟩
theorem et_yes : EvT a G tYes σ (· = true) := fun S H1 f s Q q => q true H1 Ext.refl rfl
/-- [e for k in range(n)] -/
theorem ev_lcR {cI : Int → Prop} {j : Nat} {Y : Nat → PyData → Prop} (h : Ev K a G ta σ (IsI cI)) (hb : ∀ i, cI i → 0 ≤ i ∧ i < 100000) (hj : ∀ x, wipe ((wipe σ [j]).set j (some x)) [j] = wipe σ [j])
    (he : ∀ i : Nat, Ev K a G te ((wipe σ [j]).set j (some (.int (i : Nat)))) (Y i)) :
    Ev K a G (tLc (iRng1 (tCons ta tNil)) (gName j) tYes te [j]) σ (fun d => ∃ n ds, cI (n : Nat) ∧ d = .list ds ∧ ds.length = n ∧ ∀ i z, ds[i]? = some z → Y i z) := by
  refine ev_lc (N := fun n => cI (n : Nat)) (J := fun n => Itr 0 n) (fun S H1 f s R q => wr_range h hb f s R q) (fun n i H' _ l => l) (fun n i H' _ l => l) ?_ ?_
  · rintro n i _ _ H' x H2 ⟨e1, e2⟩
    refine ⟨e1, hj x, et_yes, ?_⟩
    rw [e2, Int.zero_add]
    exact he i
  · intro n hn
    have := (hb _ hn).2
    omega
/-- [e for c in text] -/
theorem ev_lcS {z : Str} {j : Nat} {Y : Nat → PyData → Prop} (h : Ev K a G ta σ (· = .str z)) (hz : z.length < 100000) (hj : ∀ x, wipe ((wipe σ [j]).set j (some x)) [j] = wipe σ [j])
    (he : ∀ i c, z.cps[i]? = some c → Ev K a G te ((wipe σ [j]).set j (some (.str ⟨#[c]⟩))) (Y i)) :
    Ev K a G (tLc (iStr ta) (gName j) tYes te [j]) σ (fun d => ∃ ds, d = .list ds ∧ ds.length = z.length ∧ ∀ i z, ds[i]? = some z → Y i z) := by
  refine Ev.imp (ev_lc (Y := Y) (N := fun n => n = z.length) (J := fun n => Its z) (fun S H1 f s R q => wr_str h f s R fun H2 x2 => q z.length H2 x2 rfl) (fun n i H' e l => by subst e; exact l) (fun n i H' e l => by subst e; exact l) ?_ ?_) ?_
  · rintro n i hn _ H' x H2 ⟨e1, c, hc, e2⟩
    refine ⟨e1, hj x, et_yes, ?_⟩
    rw [e2]
    exact he i c hc
  · rintro n rfl
    exact hz
  · rintro d ⟨n, ds, rfl, e, hl, hY⟩
    exact ⟨ds, e, hl, hY⟩
end
end LK
set_option Elab.async false
set_option linter.all false
set_option maxRecDepth 100000
set_option maxHeartbeats 4000000
/-! LK6: written data, joined texts, items by a draw -/
namespace LK
open PySem PySem.Spec L2
open PyProof.Rows hiding St
section
variable {K : PySem.W.Frag} {a : Addr} {S : List Addr} {σ : St} {G H : Hp} {ta tb tc te : TE} {tr : TA} {C C1 C2 : PyData → Prop}
theorem ev_negE {i : Int} (h : Ev K a G te σ (· = .int i)) : Ev K a G (tUn (rU fun i => .int (-i)) te) σ (· = .int (-i)) := by
  refine ev_un h ?_
  rintro _ rfl S H x f m Q q
  cases m
  exact ⟨i, rfl, q _ _ H Ext.refl (.int _) rfl⟩
theorem ev_powE {i j : Int} (ha : Ev K a G ta σ (· = .int i)) (hb : Ev K a G tb σ (· = .int j)) (hc : CPow i j) : Ev K a G (tOp (rI CPow fun i j => .int (i ^ j.toNat)) ta tb) σ (· = .int (i ^ j.toNat)) := by
  refine ev_op ha hb ?_
  rintro _ _ rfl rfl
  exact r2_I hc (fun _ => .int _) rfl
theorem ev_dnew : Ev K a G tDNewK σ (· = .dict []) := fun S H1 f s Q q p hp =>
  q _ _ _ (Ext.new hp) (.dic (off_mk (f.out hp) upd_same) .nil) rfl
theorem ev_catL {ds es : List PyData} (ha : Ev K a G ta σ (· = .list ds)) (hb : Ev K a G tb σ (· = .list es)) (h : ds.length + es.length ≤ 1000000) : Ev K a G (tOp (rAddA K) ta tb) σ (· = .list (ds ++ es)) := by
  refine ev_op ha hb ?_
  rintro _ _ rfl rfl
  exact ra_lst h
theorem ev_catS {x y : Str} (ha : Ev K a G ta σ (· = .str x)) (hb : Ev K a G tb σ (· = .str y)) (h : x.length + y.length ≤ 1000000) : Ev K a G (tOp (rAddA K) ta tb) σ (· = .str (x ++ y)) := by
  refine ev_op ha hb ?_
  rintro _ _ rfl rfl
  exact ra_str h
theorem at_mem {ds : List PyData} {i : Int} (h0 : 0 ≤ i) (h1 : i < (ds.length : Nat)) : ∃ z, atI ds i = some z ∧ z ∈ ds := by
  have hl : i.toNat < ds.length := by omega
  refine ⟨ds[i.toNat], ?_, List.getElem_mem hl⟩
  have e : ((i.toNat : Nat) : Int) = i := Int.toNat_of_nonneg h0
  have h := atI_nat (List.getElem?_eq_getElem hl)
  rw [e] at h
  exact h
theorem at_memN {ds : List Nat} {i : Int} (h0 : 0 ≤ i) (h1 : i < (ds.length : Nat)) : ∃ z, atI ds i = some z ∧ z ∈ ds := by
  have hl : i.toNat < ds.length := by omega
  refine ⟨ds[i.toNat], ?_, List.getElem_mem hl⟩
  have e : ((i.toNat : Nat) : Int) = i := Int.toNat_of_nonneg h0
  have h := atI_nat (List.getElem?_eq_getElem hl)
  rw [e] at h
  exact h
/-- an item of a written list, by a draw -/
theorem ev_pick {ds : List PyData} (ha : Ev K a G ta σ (· = .list ds)) (hb : Ev K a G tb σ (IsI fun k => 0 ≤ k ∧ k < (ds.length : Nat))) : Ev K a G (tOp (rIx K) ta tb) σ (· ∈ ds) := by
  refine ev_ixL ha hb ?_
  rintro _ i rfl ⟨h0, h1⟩
  obtain ⟨z, e, m⟩ := at_mem h0 h1
  exact ⟨ds, z, .inl rfl, e, m⟩
/-- .. of a list whose items are told -/
theorem ev_pickL {n : Nat} {A : List PyData → Prop} (ha : Ev K a G ta σ (fun d => ∃ ds, d = .list ds ∧ A ds)) (hb : Ev K a G tb σ (IsI fun k => 0 ≤ k ∧ k < (n : Nat))) (hn : ∀ ds, A ds → ds.length = n ∧ ∀ z ∈ ds, C z) : Ev K a G (tOp (rIx K) ta tb) σ C := by
  refine ev_ixL ha hb ?_
  rintro _ i ⟨ds, rfl, hA⟩ ⟨h0, h1⟩
  obtain ⟨l, hC⟩ := hn ds hA
  obtain ⟨z, e, m⟩ := at_mem (ds := ds) h0 (by omega)
  exact ⟨ds, z, .inl rfl, e, hC z m⟩
/-- a sign of a written text, by a draw -/
theorem ev_pickS {z : Str} (ha : Ev K a G ta σ (· = .str z)) (hb : Ev K a G tb σ (IsI fun k => 0 ≤ k ∧ k < (z.length : Nat))) (hz : z.length ≤ 1000000) : Ev K a G (tOp (rIx K) ta tb) σ (fun d => ∃ c, d = .str ⟨#[c]⟩ ∧ c ∈ z.cps.toList) := by
  refine ev_ixS ha hb hz ?_
  rintro i ⟨h0, h1⟩
  obtain ⟨c, e, m⟩ := at_memN (ds := z.cps.toList) h0 (by rw [Array.length_toList]; exact h1)
  exact ⟨c, e, c, rfl, m⟩
end
/-! ### joined texts -/
theorem join_chars : ∀ ys : List Str, (Str.join Str.empty ys).cps.toList = (ys.map fun y => y.cps.toList).flatten
  | [] => rfl
  | [x] => by
    show x.cps.toList = ([x.cps.toList]).flatten
    simp
  | x :: y :: r => by
    have ih := join_chars (y :: r)
    show (x ++ Str.empty ++ Str.join Str.empty (y :: r)).cps.toList = _
    have e : ∀ u v : Str, (u ++ v).cps.toList = u.cps.toList ++ v.cps.toList := fun u v => Array.toList_append
    rw [e, e, ih]
    simp [Str.empty]
theorem empty_is : ("" : Str) = Str.empty := by decide +kernel
/-- one sign each -/
theorem join_ones {cs : List Nat} : (Txt.join ("" : Str) (cs.map fun c => (⟨#[c]⟩ : Str))).cps.toList = cs := by
  rw [TL.join_eq, empty_is, join_chars]
  induction cs with
  | nil => rfl
  | cons c r ih =>
    rw [List.map_cons, List.map_cons, List.flatten_cons, ih]
    rfl
section
variable {K : PySem.W.Frag} {a : Addr} {S : List Addr} {σ : St} {G H : Hp} {ta tb tc te : TE} {tr : TA} {C C1 C2 : PyData → Prop}
theorem DA.strs : ∀ {vs : List V} {ys : List Str}, DA K H vs (ys.map .str) → vs = ys.map V.str
  | _, [], h => by
    cases h
    rfl
  | _, b :: bs, h => by
    cases h with
    | cons h1 h2 =>
      cases h1
      rw [DA.strs h2]
      rfl
end
section
variable {X : Cx} {K : PySem.W.Frag} {o e : Expr} {es : List Expr} {to : TE} {t : TA} {pos apos : Pos}
abbrev rJoin (K : PySem.W.Frag) : V → List V → Hp → VK → Prop := fun x xs H Q => ∃ a p, ∃ ys : List Str, x = .str a ∧ xs = [.ref p] ∧ (SqL K H p (ys.map V.str) ∨ SqT K H p (ys.map V.str)) ∧ (ys.map (·.length)).sum + ys.length * a.length ≤ 16777216 ∧ Q (.str (Txt.join a ys)) H
theorem kJoin (e : X.K = K := by rfl) : MtR X "str.join" (rJoin K) := e ▸ mt_join
end
section
variable {K : PySem.W.Frag} {a : Addr} {S : List Addr} {σ : St} {G H : Hp} {ta tb tc te : TE} {tr : TA} {C C1 C2 : PyData → Prop}
theorem ev_join {z : Str} (h : Ev K a G te σ C) (hC : ∀ d, C d → ∃ ys : List Str, d = .list (ys.map .str) ∧ (ys.map (·.length)).sum + ys.length * z.length ≤ 16777216 ∧ C1 (.str (Txt.join z ys))) :
    Ev K a G (tBM K "str" (rJoin K) (tC (.str z)) (tCons te tNil)) σ C1 := fun S H1 f s Q q =>
  ⟨rfl, h S H1 f s _ fun v d H2 x2 m c => by
    obtain ⟨ys, rfl, hs, hc⟩ := hC d c
    cases m with
    | lst h1 h2 =>
      have e := h2.strs
      subst e
      exact ⟨z, _, ys, rfl, rfl, .inl (SqL.of (off_le _ _ h1)), hs, q _ _ H2 x2 (.str _) hc⟩⟩
/-- ''.join of a list of signs -/
theorem ev_joinS {P : Nat → Prop} {N : Nat → Prop} (h : Ev K a G te σ (fun d => ∃ n ds, N n ∧ d = .list ds ∧ ds.length = n ∧ ∀ (i : Nat) z, ds[i]? = some z → ∃ c, z = .str ⟨#[c]⟩ ∧ P c)) (hN : ∀ n, N n → n ≤ 1000) :
    Ev K a G (tBM K "str" (rJoin K) (tC (.str "")) (tCons te tNil)) σ (fun d => ∃ w : Str, d = .str w ∧ N w.length ∧ ∀ c ∈ w.cps.toList, P c) := by
  refine ev_join h ?_
  rintro _ ⟨n, ds, hn, rfl, hl, hY⟩
  obtain ⟨cs, e, hP⟩ : ∃ cs : List Nat, ds = cs.map (fun c => PyData.str ⟨#[c]⟩) ∧ ∀ c ∈ cs, P c := by
    clear h hN hn hl
    induction ds with
    | nil => exact ⟨[], rfl, by simp⟩
    | cons d r ih =>
      obtain ⟨cs, e, hc⟩ := ih fun i z hz => hY (i + 1) z (by simpa using hz)
      obtain ⟨c, ec, pc⟩ := hY 0 d rfl
      refine ⟨c :: cs, by rw [e, ec]; rfl, fun x hx => ?_⟩
      rcases List.mem_cons.mp hx with z | z
      · rw [z]
        exact pc
      · exact hc x z
  have ones := join_ones (cs := cs)
  refine ⟨cs.map fun c => (⟨#[c]⟩ : Str), by rw [e, List.map_map]; rfl, ?_, _, rfl, ?_, ?_⟩
  · have e1 : ((cs.map fun c => (⟨#[c]⟩ : Str)).map (·.length)).sum = cs.length := by
      rw [List.map_map]
      clear e hP ones
      induction cs with
      | nil => rfl
      | cons c r ih =>
        rw [List.map_cons, List.sum_cons, ih, List.length_cons, Nat.add_comm]
        rfl
    have e2 : ("" : Str).length = 0 := by decide +kernel
    have l : cs.length = n := by rw [← hl, e, List.length_map]
    have := hN n hn
    rw [e1, e2]
    omega
  · have l : cs.length = n := by rw [← hl, e, List.length_map]
    have e3 : (Txt.join ("" : Str) (cs.map fun c => (⟨#[c]⟩ : Str))).length = n := by
      show (Txt.join ("" : Str) (cs.map fun c => (⟨#[c]⟩ : Str))).cps.size = n
      rw [← Array.length_toList, ones, l]
    rw [e3]
    exact hn
  · rw [ones]
    exact hP
end
end LK
set_option Elab.async false
set_option linter.all false
set_option maxRecDepth 100000
set_option maxHeartbeats 4000000
namespace K11
open PySem PySem.Spec L2 LK
open PyProof.Rows hiding St
def topS (i : Nat) : Stmt := PySem.Challenge.pw_lastheld_k11_names_and_integers.main.body.getD i (.Pass ⟨0, 0, 0, 0⟩)
abbrev s_is_name : Stmt := topS 3
theorem sc_is_name : FnScope ["value", "letter"] ["value"] (defScope s_is_name) := ⟨rfl, rfl, rfl, by decide +kernel, rfl, by decide +kernel, by decide +kernel⟩
abbrev s_is_integer : Stmt := topS 4
theorem sc_is_integer : FnScope ["value"] ["value"] (defScope s_is_integer) := ⟨rfl, rfl, rfl, by decide +kernel, rfl, by decide +kernel, by decide +kernel⟩
abbrev s_l_pot : Stmt := topS 6
theorem sc_l_pot : FnScope ["_law_script", "_law_k", "_law_digits"] ["_law_script", "_law_k"] (defScope s_l_pot) := ⟨rfl, rfl, rfl, by decide +kernel, rfl, by decide +kernel, by decide +kernel⟩
abbrev s_l_draw : Stmt := topS 7
theorem sc_l_draw : FnScope ["_law_pot_here", "_law_many", "_law_digit"] ["_law_pot_here", "_law_many"] (defScope s_l_draw) := ⟨rfl, rfl, rfl, by decide +kernel, rfl, by decide +kernel, by decide +kernel⟩
abbrev s_l_word : Stmt := topS 8
theorem sc_l_word : FnScope ["_law_pot_here", "_law_taken", "_law_letters", "_law_k", "_law_word_here", "_law_letter"] ["_law_pot_here", "_law_taken"] (defScope s_l_word) := ⟨rfl, rfl, rfl, by decide +kernel, rfl, by decide +kernel, by decide +kernel⟩
abbrev s_l_odd : Stmt := topS 9
theorem sc_l_odd : FnScope ["_law_pot_here", "_law_some"] ["_law_pot_here"] (defScope s_l_odd) := ⟨rfl, rfl, rfl, by decide +kernel, rfl, by decide +kernel, by decide +kernel⟩
abbrev s_l_is_word : Stmt := topS 10
theorem sc_l_is_word : FnScope ["_law_thing", "_law_sign"] ["_law_thing"] (defScope s_l_is_word) := ⟨rfl, rfl, rfl, by decide +kernel, rfl, by decide +kernel, by decide +kernel⟩
abbrev s_l_string : Stmt := topS 11
theorem sc_l_string : FnScope ["_law_pot_here", "_law_signs", "_law_k"] ["_law_pot_here"] (defScope s_l_string) := ⟨rfl, rfl, rfl, by decide +kernel, rfl, by decide +kernel, by decide +kernel⟩
abbrev s_l_whole : Stmt := topS 12
theorem sc_l_whole : FnScope ["_law_pot_here"] ["_law_pot_here"] (defScope s_l_whole) := ⟨rfl, rfl, rfl, by decide +kernel, rfl, by decide +kernel, by decide +kernel⟩
abbrev s_l_right : Stmt := topS 13
theorem sc_l_right : FnScope ["_law_thing", "_law_shown", "_law_due", "_law_told", "_law_named"] ["_law_thing"] (defScope s_l_right) := ⟨rfl, rfl, rfl, by decide +kernel, rfl, by decide +kernel, by decide +kernel⟩
abbrev s_law : Stmt := topS 14
theorem sc_law : FnScope ["_law_script", "_law_k", "_law_pot_here", "_law_turn", "_law_things"] ["_law_script"] (defScope s_law) := ⟨rfl, rfl, rfl, by decide +kernel, rfl, by decide +kernel, by decide +kernel⟩
structure Txt (K : PySem.W.Frag) (mg : Str → Option Value) : Prop where
  triv : True
  b_abs : mg "abs" = none
  b_all : mg "all" = none
  b_bool : mg "bool" = none
  b_divmod : mg "divmod" = none
  b_int : mg "int" = none
  b_isinstance : mg "isinstance" = none
  b_len : mg "len" = none
  b_max : mg "max" = none
  b_min : mg "min" = none
  b_range : mg "range" = none
  b_repr : mg "repr" = none
  b_str : mg "str" = none
  g_LETTERS : ∃ t, mg "LETTERS" = some (.str "abcdefghijklmnopqrstuvwxyz" t)
  g_MOST_LETTERS : ∃ t, mg "MOST_LETTERS" = some (.int 8 t)
abbrev abc : Str := "abcdefghijklmnopqrstuvwxyz"
def isStrD : PyData → Bool
  | .str _ => true
  | _ => false
def isNameD : PyData → Bool
  | .str x => (decide ((1 : Int) ≤ (x.length : Nat)) && decide (((x.length : Nat) : Int) ≤ 8)) && x.cps.toList.all fun c => decide (c ∈ abc.cps.toList)
  | _ => false
theorem isName_str (x : Str) : isNameD (.str x) = ((decide ((1 : Int) ≤ (x.length : Nat)) && decide (((x.length : Nat) : Int) ≤ 8)) && x.cps.toList.all fun c => decide (c ∈ abc.cps.toList)) := rfl
def isIntD : PyData → Bool
  | .int _ => true
  | _ => false
theorem kit_str : ∀ d : PyData, kitB (tyD d) "str" = some (isStrD d)
  | .none => (by decide +kernel : kitB "NoneType" "str" = some false)
  | .bool _ => (by decide +kernel : kitB "bool" "str" = some false)
  | .int _ => (by decide +kernel : kitB "int" "str" = some false)
  | .str _ => (by decide +kernel : kitB "str" "str" = some true)
  | .list _ => (by decide +kernel : kitB "list" "str" = some false)
  | .tuple _ => (by decide +kernel : kitB "tuple" "str" = some false)
  | .dict _ => (by decide +kernel : kitB "dict" "str" = some false)
def intOrBool : PyData → Bool
  | .int _ => true
  | .bool _ => true
  | _ => false
def boolD : PyData → Bool
  | .bool _ => true
  | _ => false
theorem kit_int : ∀ d : PyData, kitB (tyD d) "int" = some (intOrBool d)
  | .none => (by decide +kernel : kitB "NoneType" "int" = some false)
  | .bool _ => (by decide +kernel : kitB "bool" "int" = some true)
  | .int _ => (by decide +kernel : kitB "int" "int" = some true)
  | .str _ => (by decide +kernel : kitB "str" "int" = some false)
  | .list _ => (by decide +kernel : kitB "list" "int" = some false)
  | .tuple _ => (by decide +kernel : kitB "tuple" "int" = some false)
  | .dict _ => (by decide +kernel : kitB "dict" "int" = some false)
theorem kit_bool : ∀ d : PyData, kitB (tyD d) "bool" = some (boolD d)
  | .none => (by decide +kernel : kitB "NoneType" "bool" = some false)
  | .bool _ => (by decide +kernel : kitB "bool" "bool" = some true)
  | .int _ => (by decide +kernel : kitB "int" "bool" = some false)
  | .str _ => (by decide +kernel : kitB "str" "bool" = some false)
  | .list _ => (by decide +kernel : kitB "list" "bool" = some false)
  | .tuple _ => (by decide +kernel : kitB "tuple" "bool" = some false)
  | .dict _ => (by decide +kernel : kitB "dict" "bool" = some false)
theorem isInt_eq (d : PyData) : (intOrBool d && !boolD d) = isIntD d := by cases d <;> rfl

/-- one tame argument -/
def pre1 (ds : List PyData) : Prop := ∃ d, ds = [d] ∧ Tame d
def post1 (f : PyData → PyData) (ds : List PyData) (r : PyData) : Prop := ∃ d, ds = [d] ∧ r = f d
theorem pre1_len {ds : List PyData} (h : pre1 ds) : ds.length = 1 := by
  obtain ⟨d, rfl, _⟩ := h
  rfl
theorem DA.one {K : PySem.W.Frag} {H : Hp} {vs : List V} {d : PyData} (h : DA K H vs [d]) : ∃ v, vs = [v] ∧ D K H v d := by
  cases h with
  | cons h1 h2 =>
    cases h2
    exact ⟨_, rfl, h1⟩
theorem tame_len {x : Str} (t : Tame (.str x)) : x.length ≤ 8000 := by
  have h := t.bk
  simp only [PyData.bulk] at h
  exact h

section
variable {P : Program} {w : World} {K : PySem.W.Frag} {mg : Str → Option Value} {base : Heap} {a : Addr} {G : Hp} {S : List Addr} {H : Hp}
/-! ### the reading of is_name and its twin in the law -/
theorem rd_is_name {Dn : Ends} {v : V} {d : PyData} (f : Fr a S H) (m : D K (off S H) v d) (tm : Tame d) (q : ∀ H', Ext a H H' → Dn.rt (.bl (isNameD d)) H') :
    tSeq (tIfS (tOr (tNot (tB (tCB (rIsi K) (tCons (tVar 0) (tCons (tC (.ty "str")) tNil)))))
        (tNot (tTest (tChain (rI0 fun i j => .bl (decide (i ≤ j))) (rI0 fun i j => .bl (decide (i ≤ j))) (tC (.int 1)) (tCB (rLenA K) (tCons (tVar 0) tNil)) (tC (.int 8))))))
      (tRet (tC (.bl false))) tNext)
      (tRet (tCB (rAll K) (tCons (tLc (iStr (tVar 0)) (gName 1) tYes (tOp (rInA K) (tVar 1) (tC (.str abc))) [1]) tNil))) Dn [some v, none] H := by
  have e0 : Ev K a (off S H) (tVar 0) [some v, none] (· = d) := ev_var rfl m
  by_cases hs : ∃ x, d = .str x
  · obtain ⟨x, rfl⟩ := hs
    have len := tame_len tm
    refine q_if (B := fun b => b = !(decide ((1 : Int) ≤ (x.length : Nat)) && decide (((x.length : Nat) : Int) ≤ 8))) ?_ f (Same.refl _) ?_ ?_
    · refine et_or (B1 := (· = false)) (et_not (B1 := (· = true)) (et_val (ev_isi e0 ?_)) ?_) (fun _ => et_not (et_chainI (cA := (· = 1)) (cB := (· = (x.length : Nat))) (cC := (· = 8)) (B := fun b => b = (decide ((1 : Int) ≤ (x.length : Nat)) && decide (((x.length : Nat) : Int) ≤ 8))) (ev_isI ev_i rfl) (ev_len e0 ?_) (ev_isI ev_i rfl) ?_ ?_) ?_) ?_
      · rintro _ rfl
        exact ⟨_, kit_str _, rfl⟩
      · rintro _ rfl
        rfl
      · rintro _ rfl
        exact ⟨_, rfl, by omega, rfl⟩
      · rintro i j k rfl rfl rfl
        rfl
      · rintro i j rfl rfl h
        rw [h]
        rfl
      · rintro _ rfl
        rfl
      · intro h
        cases h
    · intro H' x1 f1 hb
      refine q H' x1 |> fun q' => ?_
      show Dn.rt (.bl false) H'
      have e : isNameD (.str x) = false := by
        rw [isName_str, show (decide ((1 : Int) ≤ (x.length : Nat)) && decide (((x.length : Nat) : Int) ≤ 8)) = false from by rw [← Bool.not_eq_true', ← hb], Bool.false_and]
      rw [e] at q'
      exact q'
    · intro H' x1 f1 hb
      have e1 := e0.at (x1.off f.mem)
      refine q_ret (C := IsB fun b => b = isNameD (.str x)) (ev_all (ev_lcS (Y := fun i z => ∃ c, x.cps[i]? = some c ∧ z = .bool (decide (c ∈ abc.cps.toList))) e1 (by omega) (fun _ => rfl) ?_) ?_) f1 (Same.refl _) ?_
      · intro i c hc
        refine (ev_inSgn (P := (· = c)) (B := (· = decide (c ∈ abc.cps.toList))) (ev_var rfl (.str _) |>.imp ?_) ev_s ?_).imp ?_
        · rintro _ rfl
          exact ⟨c, rfl, rfl⟩
        · rintro _ rfl
          rfl
        · rintro _ ⟨b, rfl, rfl⟩
          exact ⟨c, hc, rfl⟩
      · rintro _ ⟨ds, rfl, hl, hY⟩
        refine ⟨x.cps.toList.map fun c => decide (c ∈ abc.cps.toList), ?_, ?_⟩
        · congr 1
          apply List.ext_getElem?
          intro i
          rw [List.getElem?_map, List.getElem?_map]
          by_cases hi : i < x.length
          · obtain ⟨c, hc, hz⟩ := hY i ds[i] (by simp [hl, hi])
            have hc' : x.cps.toList[i]? = some c := by simpa using hc
            rw [hc', List.getElem?_eq_getElem (by omega), hz]
            rfl
          · rw [List.getElem?_eq_none (by omega), List.getElem?_eq_none (by simp; exact Nat.le_of_not_lt hi)]
            rfl
        · show _ = isNameD (.str x)
          rw [isName_str]
          have hb' : (decide ((1 : Int) ≤ (x.length : Nat)) && decide (((x.length : Nat) : Int) ≤ 8)) = true := by
            cases h : (decide ((1 : Int) ≤ (x.length : Nat)) && decide (((x.length : Nat) : Int) ≤ 8)) with
            | true => rfl
            | false =>
              rw [h] at hb
              cases hb
          rw [hb', Bool.true_and, List.all_map]
          rfl
      · rintro v2 _ H2 x2 m2 ⟨b, rfl, rfl⟩
        cases m2
        exact q H2 (x1.trans x2)
  · have hn : isStrD d = false := by
      cases d <;> first | rfl | exact absurd ⟨_, rfl⟩ hs
    have e : isNameD d = false := by
      cases d <;> first | rfl | exact absurd ⟨_, rfl⟩ hs
    refine q_if (B := (· = true)) (et_or (B1 := (· = true)) (et_not (B1 := (· = false)) (et_val (ev_isi e0 ?_)) ?_) ?_ fun _ => rfl) f (Same.refl _) ?_ ?_
    · rintro _ rfl
      exact ⟨_, kit_str _, hn⟩
    · rintro _ rfl
      rfl
    · intro h
      cases h
    · intro H' x1 f1 hb
      have q' := q H' x1
      rw [e] at q'
      exact q'
    · intro H' x1 f1 hb
      cases hb
theorem ok_is_name {f : Addr} {fd : FuncData} (F : Fun K "is_name" "is_name" s_is_name f fd) (T : Txt K mg) : FnG P w K mg base CX0 1 f fd ["value"] (spG K pre1 (post1 fun d => .bool (isNameD d))) := by
  refine fun_okG F sc_is_name (fun vs H Q E h => spG_len (fun _ => pre1_len) h) (fun cdv A outer s H vs Q E hg hr h => ?_)
  obtain ⟨a, S, ds, f, m, ⟨d, rfl, tm⟩, k⟩ := h
  obtain ⟨v, rfl, mv⟩ := DA.one m
  refine ⟨_, (pss_cons (ps_if (PW.pt (pw_or (pt_not (pt_val (pe_callB (kIsi (K := K)) (by rfl) T.b_isinstance (by decide +kernel) (pa_cons (pv 0) (pa_cons (pe_bltn (v := .ty "str") (by rfl) T.b_str (by decide +kernel) rfl) pa_nil))))) (pw_or1 (pt_not (pt_chain op_le op_le pe_int (pe_callB (kLen (K := K)) (by rfl) T.b_len (by decide +kernel) (pa_cons (pv 0) pa_nil)) (pe_gI rfl T.g_MOST_LETTERS))))))
    (pss_one (ps_ret pe_bl))
    pss_nil)
    (pss_one (ps_ret (pe_callB (kAll (K := K) rfl) (by rfl) T.b_all (by decide +kernel) (pa_cons (pe_lc (own := [("letter", 1)]) rfl sc_is_name.nd (pi_str (pv 0)) (blkOk_by (N := ["value", "letter"]) (sc := defScope s_is_name) (by decide +kernel)) (fun _ _ _ _ _ => (pg_name (i := 1) sc_is_name.nd rfl (by first | exact Or.inl rfl | exact Or.inr rfl))) (fun _ _ _ _ _ => pts_nil) (fun _ _ _ _ _ => (pe_cmpR (kIn (K := K)) (pv 1) (pe_gS rfl T.g_LETTERS) (by rfl)))) pa_nil))))), ?_⟩
  exact rd_is_name f mv tm fun H' x => k _ _ H' x (.bl _) ⟨d, rfl, rfl⟩
theorem ok_l_is_word {f : Addr} {fd : FuncData} (F : Fun K "_law_is_word" "_law_is_word" s_l_is_word f fd) (T : Txt K mg) : FnG P w K mg base CX0 1 f fd ["_law_thing"] (spG K pre1 (post1 fun d => .bool (isNameD d))) := by
  refine fun_okG F sc_l_is_word (fun vs H Q E h => spG_len (fun _ => pre1_len) h) (fun cdv A outer s H vs Q E hg hr h => ?_)
  obtain ⟨a, S, ds, f, m, ⟨d, rfl, tm⟩, k⟩ := h
  obtain ⟨v, rfl, mv⟩ := DA.one m
  refine ⟨_, (pss_cons (ps_if (PW.pt (pw_or (pt_not (pt_val (pe_callB (kIsi (K := K)) (by rfl) T.b_isinstance (by decide +kernel) (pa_cons (pv 0) (pa_cons (pe_bltn (v := .ty "str") (by rfl) T.b_str (by decide +kernel) rfl) pa_nil))))) (pw_or1 (pt_not (pt_chain op_le op_le pe_int (pe_callB (kLen (K := K)) (by rfl) T.b_len (by decide +kernel) (pa_cons (pv 0) pa_nil)) pe_int)))))
    (pss_one (ps_ret pe_bl))
    pss_nil)
    (pss_one (ps_ret (pe_callB (kAll (K := K) rfl) (by rfl) T.b_all (by decide +kernel) (pa_cons (pe_lc (own := [("_law_sign", 1)]) rfl sc_l_is_word.nd (pi_str (pv 0)) (blkOk_by (N := ["_law_thing", "_law_sign"]) (sc := defScope s_l_is_word) (by decide +kernel)) (fun _ _ _ _ _ => (pg_name (i := 1) sc_l_is_word.nd rfl (by first | exact Or.inl rfl | exact Or.inr rfl))) (fun _ _ _ _ _ => pts_nil) (fun _ _ _ _ _ => (pe_cmpR (kIn (K := K)) (pv 1) pe_str (by rfl)))) pa_nil))))), ?_⟩
  exact rd_is_name f mv tm fun H' x => k _ _ H' x (.bl _) ⟨d, rfl, rfl⟩
/-! ### is_integer -/
theorem ev_isInteger {σ : St} {te : TE} {d : PyData} (e0 : Ev K a G te σ (· = d)) :
    Ev K a G (tAndV (tCB (rIsi K) (tCons te (tCons (tC (.ty "int")) tNil))) (tNotV (tCB (rIsi K) (tCons te (tCons (tC (.ty "bool")) tNil))))) σ (· = .bool (isIntD d)) := by
  refine ev_andV (B := (· = intOrBool d)) (ev_isi e0 ?_) (fun h => ev_notV (C := (· = .bool (isIntD d))) (ev_isi e0 ?_)) ?_
  · rintro _ rfl
    exact ⟨_, kit_int _, rfl⟩
  · rintro _ rfl
    refine ⟨_, kit_bool _, ?_⟩
    rw [← isInt_eq, ← h, Bool.true_and]
  · intro h
    rw [← isInt_eq, ← h, Bool.false_and]
theorem ok_is_integer {f : Addr} {fd : FuncData} (F : Fun K "is_integer" "is_integer" s_is_integer f fd) (T : Txt K mg) : FnG P w K mg base CX0 1 f fd ["value"] (spG K pre1 (post1 fun d => .bool (isIntD d))) := by
  refine fun_okG F sc_is_integer (fun vs H Q E h => spG_len (fun _ => pre1_len) h) (fun cdv A outer s H vs Q E hg hr h => ?_)
  obtain ⟨a, S, ds, f, m, ⟨d, rfl, tm⟩, k⟩ := h
  obtain ⟨v, rfl, mv⟩ := DA.one m
  refine ⟨_, (pss_one (ps_ret (pe_and (pe_callB (kIsi (K := K)) (by rfl) T.b_isinstance (by decide +kernel) (pa_cons (pv 0) (pa_cons (pe_bltn (v := .ty "int") (by rfl) T.b_int (by decide +kernel) rfl) pa_nil))) (pe_one (pe_not (pe_callB (kIsi (K := K)) (by rfl) T.b_isinstance (by decide +kernel) (pa_cons (pv 0) (pa_cons (pe_bltn (v := .ty "bool") (by rfl) T.b_bool (by decide +kernel) rfl) pa_nil)))))))), ?_⟩
  refine q_ret (ev_isInteger (d := d) (ev_var rfl mv)) f (Same.refl _) ?_
  rintro v2 _ H' x m2 rfl
  exact k _ _ H' x m2 ⟨d, rfl, rfl⟩
end
end K11
set_option Elab.async false
set_option linter.all false
set_option maxRecDepth 100000
set_option maxHeartbeats 4000000
namespace K11
open PySem PySem.Spec L2 LK
open PyProof.Rows hiding St
section
variable {P : Program} {w : World} {K : PySem.W.Frag} {mg : Str → Option Value} {base : Heap} {a : Addr} {G : Hp} {S : List Addr} {H : Hp}
/-! ### the pot -/
/-- [script, k]: the script, a place -/
def spPot (K : PySem.W.Frag) : Sp := fun vs H Q _ => ∃ (s : Addr) (ns : List Int) (k : Nat), vs = [.ref s, .int (k : Nat)] ∧ SqL K H s (ns.map V.int) ∧ k < 64 ∧ ∀ p H', Same H H' → H p = none → PotAt H' p → Q (.ref p) H'
theorem ok_l_pot {f : Addr} {fd : FuncData} (F : Fun K "_law_pot" "_law_pot" s_l_pot f fd) (T : Txt K mg) : FnG P w K mg base CX0 1 f fd ["_law_script", "_law_k"] (spPot K) := by
  refine fun_okG F sc_l_pot (fun vs H Q E h => ?_) (fun cdv A outer s H vs Q E hg hr h => ?_)
  · obtain ⟨s, ns, k, rfl, _⟩ := h
    rfl
  obtain ⟨s, ns, k, rfl, hs, hk, q⟩ := h
  refine ⟨_, (pss_cons (ps_set (i := 2) sc_l_pot.nd rfl (by first | exact Or.inl rfl | exact Or.inr rfl) (pe_ifExp (pt_cmpR op_lt (pv 1) (pe_callB (kLen (K := K)) (by rfl) T.b_len (by decide +kernel) (pa_cons (pv 0) pa_nil)) (nomark _)) (pe_ix (kIx (K := K)) (pv 0) (pv 1) (fun _ _ => rfl)) pe_int))
    (pss_one (ps_ret (pe_lst (pa_cons (pe_callB (call_max2 rfl) (by rfl) T.b_max (by decide +kernel) (pa_cons pe_int (pa_cons (pe_op op_sub (pe_callB call_abs (by rfl) T.b_abs (by decide +kernel) (pa_cons (pv 2) pa_nil)) (pe_op op_pow pe_int pe_int)) pa_nil))) (pa_cons (pe_op op_mod (pe_op (kAdd (K := K)) (pe_op (kAdd (K := K)) (pe_op oMul (pe_op op_mod (pe_callB call_abs (by rfl) T.b_abs (by decide +kernel) (pa_cons (pv 2) pa_nil)) pe_int) pe_int) (pe_op oMul pe_int (pv 1))) pe_int) pe_int) pa_nil)))))), ?_⟩
  -- behind the first row: some int
  have rest : ∀ z : Int, (tRet (tLst (tCons (tCB (fun xs H Q => ∃ i j, xs = [V.int i, V.int j] ∧ Q (V.int (if j > i then j else i)) H) (tCons (tC (.int 0)) (tCons (tOp (rI0 fun i j => .int (i - j)) (tCB (fun xs H Q => ∃ i, xs = [V.int i] ∧ Q (V.int (if i < 0 then -i else i)) H) (tCons (tVar 2) tNil)) (tOp (rI CPow fun i j => .int (i ^ j.toNat)) (tC (.int 10)) (tC (.int 18)))) tNil)))
      (tCons (tOp (rI (fun _ j => 0 < j) fun i j => .int (i % j)) (tOp (rAddA K) (tOp (rAddA K) (tOp rMulA (tOp (rI (fun _ j => 0 < j) fun i j => .int (i % j)) (tCB (fun xs H Q => ∃ i, xs = [V.int i] ∧ Q (V.int (if i < 0 then -i else i)) H) (tCons (tVar 2) tNil)) (tC (.int 2147483587))) (tC (.int 48271))) (tOp rMulA (tC (.int 60013)) (tVar 1))) (tC (.int 29))) (tC (.int 2147483647))) tNil))))
      { nx := fun _ H' => Q .non H', rt := Q } [some (.ref s), some (.int (k : Nat)), some (.int z)] H := by
    intro z
    refine ⟨.int z, rfl, z, rfl, 10, 18, rfl, rfl, ⟨by decide, by decide, by decide⟩, _, _, rfl, rfl, 0, _, rfl, ?_⟩
    refine ⟨.int z, rfl, z, rfl, _, 2147483587, rfl, rfl, (by show (0 : Int) < 2147483587; decide), .inl ⟨_, 48271, rfl, rfl, ?_, _, rfl, .inl ⟨60013, _, rfl, rfl, ?_, .inl ⟨_, _, rfl, rfl, .inl ⟨_, 29, rfl, rfl, _, 2147483647, rfl, rfl, (by show (0 : Int) < 2147483647; decide), ?_⟩⟩⟩⟩⟩
    · refine mulx_ok (a := 31) (b := 16) ?_ (by decide) (by decide)
      split <;> omega
    · refine mulx_ok (a := 16) (b := 16) (by decide) ?_ (by decide)
      omega
    · refine ⟨by show 2 ≤ sizeLine; decide, fun p hp => ?_⟩
      refine q p _ (same_new hp) hp ⟨_, _, upd_same, ?_, ?_, ?_⟩
      · split <;> omega
      · exact Int.emod_nonneg _ (by decide)
      · exact Int.lt_trans (Int.emod_lt_of_pos _ (by decide)) (by decide)
  refine ⟨.int (k : Nat), rfl, .ref s, rfl, .ref s, _, rfl, .inl ⟨_, hs, rfl⟩, _, _, rfl, rfl, _, rfl, ite2 (fun e => ?_) (fun e => ?_)⟩
  · have e' := of_decide_eq_true e
    rw [List.length_map] at e'
    have hk' : k < ns.length := by omega
    exact ⟨.ref s, rfl, .int (k : Nat), rfl, .inl ⟨s, _, (k : Nat), .int ns[k], rfl, rfl, hs, atI_nat (by rw [List.getElem?_map, List.getElem?_eq_getElem hk']; rfl), rest _⟩⟩
  · exact rest 0
/-! ### the draw -/
def preD (ds : List PyData) : Prop := ∃ m : Int, ds = [.int m] ∧ 0 < m ∧ m < 2 ^ 200
def postD (ds : List PyData) (r : PyData) : Prop := ∃ m k : Int, ds = [.int m] ∧ r = .int k ∧ 0 ≤ k ∧ k < m
theorem ok_l_draw {f : Addr} {fd : FuncData} (F : Fun K "_law_draw" "_law_draw" s_l_draw f fd) (T : Txt K mg) : FnG P w K mg base CX0 1 f fd ["_law_pot_here", "_law_many"] (spP K preD postD) := by
  refine fun_okG F sc_l_draw (fun vs H Q E h => spP_len (n := 1) (fun ds ⟨m, e, _⟩ => by rw [e]; rfl) h) (fun cdv A outer s H vs Q E hg hr h => ?_)
  obtain ⟨a, S, ws, ds, rfl, f, m, ⟨n, rfl, n0, n1⟩, k⟩ := h
  obtain ⟨v, rfl, mv⟩ := DA.one m
  cases mv
  obtain ⟨p, q, hp, p0, q0, q1⟩ := f.pot
  have small : ∀ i : Int, CDivW i n := fun i => wide_div (b := 200) n0 (by omega) (by decide) (by decide)
  refine ⟨_, (pss_cons (ps_if (pt_cmpR op_gt (pe_ix (kIx (K := K)) (pv 0) pe_int (fun _ _ => rfl)) pe_int (nomark _))
    (pss_cons (ps_asg (pe_callB call_divmodX (by rfl) T.b_divmod (by decide +kernel) (pa_cons (pe_ix (kIx (K := K)) (pv 0) pe_int (fun _ _ => rfl)) (pa_cons (pv 1) pa_nil))) (pg_tup (by rfl) (pgs_cons (pg_sub (pv 0) pe_int set_list) (pgs_cons (pg_name (i := 2) sc_l_draw.nd rfl (by first | exact Or.inl rfl | exact Or.inr rfl)) pgs_nil))))
    (pss_one (ps_ret (pv 2))))
    pss_nil)
    (pss_cons (ps_asg (pe_op op_mod (pe_op (kAdd (K := K)) (pe_op oMul (pe_ix (kIx (K := K)) (pv 0) pe_int (fun _ _ => rfl)) pe_int) pe_int) pe_int) (pg_sub (pv 0) pe_int set_list))
    (pss_one (ps_ret (pe_op op_mod (pe_op op_fdivW (pe_op op_mod (pe_op oMul (pe_ix (kIx (K := K)) (pv 0) pe_int (fun _ _ => rfl)) (pe_ix (kIx (K := K)) (pv 0) pe_int (fun _ _ => rfl))) pe_int) pe_int) (pv 1)))))), ?_⟩
  refine ⟨.ref a, rfl, .inl ⟨a, _, 0, .int p, rfl, rfl, SqL.of hp, rfl, p, 0, rfl, rfl, _, rfl, ite2 (fun e => ?_) (fun e => ?_)⟩⟩
  · refine ⟨.ref a, rfl, .inl ⟨a, _, 0, .int p, rfl, rfl, SqL.of hp, rfl, .int n, rfl, p, n, rfl, small p, fun t ht => ?_⟩⟩
    have nat : a ≠ t := ne_of_none hp ht
    have hp2 : upd H t (.tup [.int (p / n), .int (p % n)]) a = some (.lst [.int p, .int q]) := by
      rw [upd_ne nat]
      exact hp
    refine ⟨t, _, rfl, SqT.of upd_same, rfl, _, _, rfl, ⟨.ref a, rfl, a, _, 0, 0, rfl, rfl, hp2, rfl, _, _, rfl, rfl, ?_⟩⟩
    refine ⟨.int (p % n), rfl, k _ (.int (p % n)) _ ⟨fun b o nb e => ?_, fun _ => ?_⟩ (.int _) ⟨n, _, rfl, rfl, Int.emod_nonneg _ (by omega), Int.emod_lt_of_pos _ n0⟩⟩
    · rw [upd_ne nb]
      exact same_new ht _ _ e
    · exact ⟨_, q, upd_same, Int.ediv_nonneg p0 (by omega), q0, q1⟩
  · refine ⟨.ref a, rfl, .inl ⟨a, _, 1, .int q, rfl, rfl, SqL.of hp, rfl, .inl ⟨q, 39373, rfl, rfl, mulx_ok (a := 31) (b := 16) (by omega) (by decide) (by decide), .inl ⟨_, 12227, rfl, rfl, _, 2147483629, rfl, rfl, (by show (0 : Int) < 2147483629; decide), ?_⟩⟩⟩⟩
    refine ⟨.ref a, rfl, a, _, 1, 1, rfl, rfl, hp, rfl, ?_⟩
    dsimp only
    have y0 : 0 ≤ (q * 39373 + 12227) % 2147483629 := Int.emod_nonneg _ (by decide)
    have y1 : (q * 39373 + 12227) % 2147483629 < 2147483629 := Int.emod_lt_of_pos _ (by decide)
    generalize (q * 39373 + 12227) % 2147483629 = y at y0 y1
    have hp2 : upd H a (.lst ([V.int p, .int q].set 1 (.int y))) a = some (.lst [.int p, .int y]) := upd_same
    refine ⟨.ref a, rfl, .inl ⟨a, _, 1, .int y, rfl, rfl, SqL.of hp2, rfl, .ref a, rfl, .inl ⟨a, _, 1, .int y, rfl, rfl, SqL.of hp2, rfl, ?_⟩⟩⟩
    refine .inl ⟨y, y, rfl, rfl, mulx_ok (a := 31) (b := 31) (by omega) (by omega) (by decide), _, 2147483563, rfl, rfl, (by show (0 : Int) < 2147483563; decide), _, 13, rfl, rfl, wide_div (b := 4) (by decide) (by decide) (by decide) (by decide), .int n, rfl, _, n, rfl, rfl, n0, ?_⟩
    refine k _ (.int _) _ ⟨fun b o nb e => ?_, fun _ => ?_⟩ (.int _) ⟨n, _, rfl, rfl, Int.emod_nonneg _ (by omega), Int.emod_lt_of_pos _ n0⟩
    · rw [upd_ne nb]
      exact e
    · exact ⟨p, y, hp2, p0, y0, by omega⟩
/-- a draw, as it is used -/
theorem ev_draw {σ : St} {i : Nat} {E : XK} {te : TE} {m : Int} (hi : σ[i]? = some (some (.ref a))) (h : Ev K a G te σ (· = .int m)) (h0 : 0 < m) (h1 : m < 2 ^ 200) :
    Ev K a G (tCall (spP K preD postD) [] E (tCons (tVar i) (tCons te tNil))) σ (IsI fun k => 0 ≤ k ∧ k < m) := by
  refine ev_callP hi (ea_eq h ea_nil) ?_ ?_
  · rintro _ rfl
    exact ⟨m, rfl, h0, h1⟩
  · rintro _ d rfl ⟨m', k, e, rfl, k0, k1⟩
    injection e with e _
    injection e with e
    subst e
    exact ⟨k, rfl, k0, k1⟩
end
end K11
set_option Elab.async false
set_option linter.all false
set_option maxRecDepth 100000
set_option maxHeartbeats 4000000
namespace K11
open PySem PySem.Spec L2 LK
open PyProof.Rows hiding St
local macro_rules | `(tactic| walk_at "lit") => `(tactic| first | exact ev_i | exact ev_s | exact ev_b | exact ev_n | exact ev_dnew | (refine ev_negE ?_; walk_at "lit") | (refine ev_tupE ?_ (by decide); walk_at "lits") | (refine ev_lstE ?_ (by decide); walk_at "lits") | (refine ev_powE ?_ ?_ ⟨by decide, by decide, by decide⟩ <;> walk_at "lit"))
local macro_rules | `(tactic| walk_at "lits") => `(tactic| first | exact ea_nil | (refine ea_eq ?_ ?_; (walk_at "lit"); (walk_at "lits")))

structure Small (d : PyData) : Prop where
  sh : d.showable = true
  lv : d.leavesShort 2000 = true
  bk : d.bulk ≤ 7000
  dp : d.depth ≤ 50
theorem Small.tame {d : PyData} (h : Small d) : Tame d := ⟨h.sh, h.lv, Nat.le_trans h.bk (by decide), Nat.le_trans h.dp (by decide)⟩
theorem Small.list3 {d : PyData} (h : Small d) (p q r s : Bool) : Tame (.list [.list [.bool p, .bool q], .list [.bool r, .bool s], d]) := by
  obtain ⟨h1, h2, h3, h4⟩ := h
  refine ⟨?_, ?_, ?_, ?_⟩
  · simp [PyData.showable, PyData.showableAll, h1]
  · simp [PyData.leavesShort, PyData.leavesShortAll, h2]
  · simp only [PyData.bulk, PyData.bulkAll]
    omega
  · simp only [PyData.depth, PyData.depthAll]
    omega
theorem small_str {x : Str} (h : x.length ≤ 7000) (hc : ∀ c ∈ x.cps.toList, c < 16 ^ 8) : Small (.str x) := by
  refine ⟨by simp [PyData.showable], ?_, ?_, by simp [PyData.depth]⟩
  · simp only [PyData.leavesShort, List.all_eq_true, decide_eq_true_eq]
    exact hc
  · simp only [PyData.bulk]
    exact h
theorem small_int {i : Int} (h : i.natAbs < 2 ^ 200) : Small (.int i) := by
  have hl : i.natAbs.log2 < 201 := by
    by_cases z : i.natAbs = 0
    · rw [z]
      decide
    · exact Nat.lt_of_le_of_lt (Nat.le_of_lt_succ (Nat.lt_succ_of_lt ((Nat.log2_lt z).mpr h))) (by decide)
  refine ⟨?_, ?_, by simp [PyData.bulk], by simp [PyData.depth]⟩
  · simp only [PyData.showable, decide_eq_true_eq]
    omega
  · simp only [PyData.leavesShort, decide_eq_true_eq, PyData.shown_int]
    have := int_text_length_le (a := i) (k := 201) (by decide) hl
    rw [PySem.ofString_length]
    omega
def oddA : List PyData := [.none, .int 0, .int 1, .bool true, .bool false, .str "", .str "A", .str "nineletters", .tuple [], .list [], .dict [], .tuple [.int 1, .int 2], .tuple [.int 2, .int 4], .tuple [.int 3, .int 1], .tuple [.int 1, .int 0], .tuple [.int 1, .int (-2)]]
def oddB : List PyData := [.tuple [.bool true, .int 2], .list [.int 1, .int 2], .tuple [.int 1, .int 2, .int 3], .tuple [.str "1", .int 2], .tuple [.int 0, .int 2], .tuple [.int (-3), .int 6], .int (-5), .str "a", .str "ab", .str "a b", .str "1", .tuple [.str "a"]]
def oddC : List PyData := [.tuple [.int 1, .bool true]]
def oddL : List PyData := oddA ++ oddB ++ oddC
def smallB (d : PyData) : Bool := d.showable && d.leavesShort 2000 && decide (d.bulk ≤ 7000) && decide (d.depth ≤ 50)
theorem Small.of {d : PyData} (h : smallB d = true) : Small d := by
  unfold smallB at h
  simp only [Bool.and_eq_true, decide_eq_true_eq] at h
  exact ⟨h.1.1.1, h.1.1.2, h.1.2, h.2⟩
theorem odd_small : ∀ d ∈ oddL, Small d := by
  have h : oddL.all smallB = true := by decide +kernel
  intro d m
  exact Small.of (List.all_eq_true.mp h d m)
def isWord (w : Str) : Prop := 1 ≤ w.length ∧ w.length ≤ 8 ∧ ∀ c ∈ w.cps.toList, c ∈ abc.cps.toList
theorem abc_small : ∀ c ∈ abc.cps.toList, c < 16 ^ 8 := by decide +kernel
theorem abc_len : abc.length = 26 := by decide +kernel

section
variable {P : Program} {w : World} {K : PySem.W.Frag} {mg : Str → Option Value} {base : Heap} {a : Addr} {G : Hp} {S : List Addr} {H : Hp}
abbrev DfD (P : Program) (w : World) (K : PySem.W.Frag) (mg : Str → Option Value) (base : Heap) : Prop := Df P w K mg base CX0 1 "_law_draw" ["_law_pot_here", "_law_many"] (spP K preD postD)
/-! ### a word, nothing taken -/
theorem ok_l_word {f : Addr} {fd : FuncData} (F : Fun K "_law_word" "_law_word" s_l_word f fd) (T : Txt K mg) (F_l_draw : DfD P w K mg base) :
    FnG P w K mg base CX0 2 f fd ["_law_pot_here", "_law_taken"] (spP K (fun ds => ds = [.list []]) (fun _ r => ∃ w : Str, r = .str w ∧ isWord w)) := by
  refine fun_okG F sc_l_word (fun vs H Q E h => spP_len (n := 1) (fun ds e => by rw [e]; rfl) h) (fun cdv A outer s H vs Q E hg hr h => ?_)
  obtain ⟨a, S, ws, ds, rfl, f, m, rfl, k⟩ := h
  obtain ⟨v, rfl, mv⟩ := DA.one m
  refine ⟨_, (pss_cons (ps_set (i := 2) sc_l_word.nd rfl (by first | exact Or.inl rfl | exact Or.inr rfl) pe_str)
    (pss_cons (ps_set (i := 4) sc_l_word.nd rfl (by first | exact Or.inl rfl | exact Or.inr rfl) (pe_bm PySem.F.plainAttrs_str PySem.F.slot_str_join PySem.F.type_str_join (kJoin (K := K)) pe_str (pa_cons (pe_lc (own := [("_law_k", 3)]) rfl sc_l_word.nd (pi_range1 (by rfl) T.b_range (pa_cons (pe_ix (kIx (K := K)) (pe_lst (pa_cons pe_int (pa_cons pe_int (pa_cons pe_int (pa_cons pe_int pa_nil))))) (pe_fn F_l_draw hg (hr.mono (by decide)) (by rfl) pass0 (pa_cons (pv 0) (pa_cons pe_int pa_nil))) (fun _ _ => rfl)) pa_nil)) (blkOk_by (N := ["_law_pot_here", "_law_taken", "_law_letters", "_law_k", "_law_word_here", "_law_letter"]) (sc := defScope s_l_word) (by decide +kernel)) (fun _ _ _ _ _ => (pg_name (i := 3) sc_l_word.nd rfl (by first | exact Or.inl rfl | exact Or.inr rfl))) (fun _ _ _ _ _ => pts_nil) (fun _ _ _ _ _ => (pe_ix (kIx (K := K)) (pv 2) (pe_fn F_l_draw hg (hr.mono (by decide)) (by rfl) pass0 (pa_cons (pv 0) (pa_cons pe_int pa_nil))) (fun _ _ => rfl)))) pa_nil)))
    (pss_cons (ps_if (pt_cmpR (kIn (K := K)) (pv 4) (pv 1) (by rfl))
    (pss_one (ps_set (i := 4) sc_l_word.nd rfl (by first | exact Or.inl rfl | exact Or.inr rfl) (pe_ix (kIx (K := K)) (pe_lc (own := [("_law_letter", 5)]) rfl sc_l_word.nd (pi_str (pv 2)) (blkOk_by (N := ["_law_pot_here", "_law_taken", "_law_letters", "_law_k", "_law_word_here", "_law_letter"]) (sc := defScope s_l_word) (by decide +kernel)) (fun _ _ _ _ _ => (pg_name (i := 5) sc_l_word.nd rfl (by first | exact Or.inl rfl | exact Or.inr rfl))) (fun _ _ _ _ _ => (pts_one (pt_cmpR (kNotIn (K := K)) (pv 5) (pv 1) (by rfl)))) (fun _ _ _ _ _ => (pv 5))) pe_int (fun _ _ => rfl))))
    pss_nil)
    (pss_one (ps_ret (pv 4)))))), ?_⟩
  refine q_set (K := K) (σ := [some (.ref a), some v, none, none, none, none]) ev_s f (Same.refl _) ?_
  rintro _ _ H1 x1 f1 m1 rfl
  cases m1
  refine q_set (σ := [some (.ref a), some v, some (.str abc), none, none, none]) (C := fun d => ∃ w : Str, d = .str w ∧ (∃ i : Int, i = (w.length : Nat) ∧ 1 ≤ i ∧ i ≤ 8) ∧ ∀ c ∈ w.cps.toList, c ∈ abc.cps.toList)
    (ev_joinS (N := fun n => ∃ i : Int, i = (n : Nat) ∧ 1 ≤ i ∧ i ≤ 8) (Ev.imp (ev_lcR (cI := fun i => 1 ≤ i ∧ i ≤ 8) (Y := fun i z => ∃ c, z = .str ⟨#[c]⟩ ∧ c ∈ abc.cps.toList) ?_ ?_ (fun _ => rfl) ?_) ?_) ?_) f1 (Same.refl _) ?_
  · refine (ev_pick (ds := [.int 1, .int 1, .int 2, .int 8]) (by walk_at "lit") (ev_draw rfl ev_i (by decide) (by decide))).imp ?_
    intro d hd
    simp only [List.mem_cons, List.not_mem_nil, or_false] at hd
    rcases hd with rfl | rfl | rfl | rfl <;> exact ⟨_, rfl, by decide⟩
  · intro i hi
    omega
  · intro i
    have e26 : (26 : Int) = (abc.length : Nat) := by rw [abc_len]; rfl
    have dr := ev_draw (K := K) (a := a) (G := off S H1) (σ := (wipe [some (.ref a), some v, some (.str abc), none, none, none] [3]).set 3 (some (V.int (i : Nat)))) (i := 0) (E := E0) (m := 26) rfl ev_i (by decide) (by decide)
    exact ev_pickS (z := abc) (ev_var rfl (.str _)) (e26 ▸ dr) (by rw [abc_len]; decide)
  · rintro d ⟨n, ds, hn, e, hl, hY⟩
    exact ⟨n, ds, ⟨_, rfl, hn.1, hn.2⟩, e, hl, hY⟩
  · rintro n ⟨i, rfl, _, h⟩
    omega
  rintro _ _ H2 x2 f2 m2 ⟨wd, rfl, ⟨i, rfl, l1, l8⟩, hc⟩
  cases m2
  have mv2 : D K (off S H2) v (.list []) := mv.mono ((x1.trans x2).off f.mem)
  -- nothing is taken
  have et : EvT a (off S H2) (tTest (tOp (rInA K) (tVar 4) (tVar 1))) [some (.ref a), some v, some (.str abc), none, some (.str wd), none] (· = false) := by
    refine et_test (Ev.imp (ev_op (C1 := (· = .str wd)) (C2 := (· = .list [])) (C := (· = .bool false)) (ev_var rfl (.str _)) (ev_var rfl mv2) ?_) ?_)
    · rintro _ _ rfl rfl
      refine R2D.inr fun S H x y f m1 m2 Q q => ?_
      cases m1
      cases m2 with
      | lst h1 n1 =>
        cases n1
        exact ⟨_, [], rfl, .inl (SqL.of (off_le _ _ h1)), rfl, rfl, q _ _ H Ext.refl (.bl _) rfl⟩
    · rintro _ rfl
      exact ⟨_, rfl, rfl⟩
  refine q_if (σ := [some (.ref a), some v, some (.str abc), none, some (.str wd), none]) et f2 (Same.refl _) (fun H3 x3 f3 e => ?_) (fun H3 x3 f3 _ => ?_)
  · cases e
  · refine ⟨_, rfl, k _ _ H3 ((x1.trans x2).trans x3) (.str _) ⟨wd, rfl, by omega, by omega, hc⟩⟩
/-! ### odd things -/
theorem ok_l_odd {f : Addr} {fd : FuncData} (F : Fun K "_law_odd" "_law_odd" s_l_odd f fd) (T : Txt K mg) (F_l_draw : DfD P w K mg base) :
    FnG P w K mg base CX0 2 f fd ["_law_pot_here"] (spP K (fun ds => ds = []) (fun _ r => r ∈ oddL)) := by
  refine fun_okG F sc_l_odd (fun vs H Q E h => spP_len (n := 0) (fun ds e => by rw [e]; rfl) h) (fun cdv A outer s H vs Q E hg hr h => ?_)
  obtain ⟨a, S, ws, ds, rfl, f, m, rfl, k⟩ := h
  cases m
  refine ⟨_, (pss_cons (ps_set (i := 1) sc_l_odd.nd rfl (by first | exact Or.inl rfl | exact Or.inr rfl) (pe_lst (pa_cons pe_non (pa_cons pe_int (pa_cons pe_int (pa_cons pe_bl (pa_cons pe_bl (pa_cons pe_str (pa_cons pe_str (pa_cons pe_str (pa_cons (pe_tup pa_nil) (pa_cons (pe_lst pa_nil) (pa_cons pe_dnewK (pa_cons (pe_tup (pa_cons pe_int (pa_cons pe_int pa_nil))) (pa_cons (pe_tup (pa_cons pe_int (pa_cons pe_int pa_nil))) (pa_cons (pe_tup (pa_cons pe_int (pa_cons pe_int pa_nil))) (pa_cons (pe_tup (pa_cons pe_int (pa_cons pe_int pa_nil))) (pa_cons (pe_tup (pa_cons pe_int (pa_cons (pe_un un_neg pe_int) pa_nil))) pa_nil))))))))))))))))))
    (pss_cons (ps_set (i := 1) sc_l_odd.nd rfl (by first | exact Or.inl rfl | exact Or.inr rfl) (pe_op (kAdd (K := K)) (pv 1) (pe_lst (pa_cons (pe_tup (pa_cons pe_bl (pa_cons pe_int pa_nil))) (pa_cons (pe_lst (pa_cons pe_int (pa_cons pe_int pa_nil))) (pa_cons (pe_tup (pa_cons pe_int (pa_cons pe_int (pa_cons pe_int pa_nil)))) (pa_cons (pe_tup (pa_cons pe_str (pa_cons pe_int pa_nil))) (pa_cons (pe_tup (pa_cons pe_int (pa_cons pe_int pa_nil))) (pa_cons (pe_tup (pa_cons (pe_un un_neg pe_int) (pa_cons pe_int pa_nil))) (pa_cons (pe_un un_neg pe_int) (pa_cons pe_str (pa_cons pe_str (pa_cons pe_str (pa_cons pe_str (pa_cons (pe_tup (pa_cons pe_str pa_nil)) pa_nil)))))))))))))))
    (pss_one (ps_ret (pe_ix (kIx (K := K)) (pe_op (kAdd (K := K)) (pv 1) (pe_lst (pa_cons (pe_tup (pa_cons pe_int (pa_cons pe_bl pa_nil))) pa_nil))) (pe_fn F_l_draw hg (hr.mono (by decide)) (by rfl) pass0 (pa_cons (pv 0) (pa_cons pe_int pa_nil))) (fun _ _ => rfl)))))), ?_⟩
  refine q_set (K := K) (σ := [some (.ref a), none]) (C := (· = .list oddA)) (by walk_at "lit") f (Same.refl _) ?_
  rintro v1 _ H1 x1 f1 m1 rfl
  refine q_set (σ := [some (.ref a), some v1]) (C := (· = .list (oddA ++ oddB))) (ev_catL (ds := oddA) (es := oddB) (ev_var rfl m1) ?_ (by decide)) f1 (Same.refl _) ?_
  · refine ev_lstE ?_ ?_
    · walk_at "lits"
    · decide
  rintro v2 _ H2 x2 f2 m2 rfl
  refine q_ret (σ := [some (.ref a), some v2]) (C := (· ∈ oddL)) (ev_pick (ds := oddL) (ev_catL (ds := oddA ++ oddB) (es := oddC) (ev_var rfl m2) ?_ (by decide)) (ev_draw rfl ev_i (by decide) (by decide))) f2 (Same.refl _) ?_
  · refine ev_lstE ?_ ?_
    · walk_at "lits"
    · decide
  intro v3 d H3 x3 m3 hd
  exact k _ _ H3 ((x1.trans x2).trans x3) m3 hd
end
end K11
set_option Elab.async false
set_option linter.all false
set_option maxRecDepth 100000
set_option maxHeartbeats 4000000
namespace K11
open PySem PySem.Spec L2 LK
open PyProof.Rows hiding St
local macro_rules | `(tactic| walk_at "lit") => `(tactic| first | exact ev_i | exact ev_s | exact ev_b | exact ev_n | exact ev_dnew | (refine ev_negE ?_; walk_at "lit") | (refine ev_tupE ?_ (by decide); walk_at "lits") | (refine ev_lstE ?_ (by decide); walk_at "lits") | (refine ev_powE ?_ ?_ ⟨by decide, by decide, by decide⟩ <;> walk_at "lit"))
local macro_rules | `(tactic| walk_at "lits") => `(tactic| first | exact ea_nil | (refine ea_eq ?_ ?_; (walk_at "lit"); (walk_at "lits")))
section
variable {P : Program} {w : World} {K : PySem.W.Frag} {mg : Str → Option Value} {base : Heap} {a : Addr} {G : Hp} {S : List Addr} {H : Hp}
/-! ### strings -/
abbrev sgA : Str := "abcxyz"
abbrev sgB : Str := "AZ0_ -'\n~"
def signs : Str := Txt.mul sgA 5 ++ sgB
theorem signs_len : signs.length = 39 := by decide +kernel
theorem signs_small : ∀ c ∈ signs.cps.toList, c < 16 ^ 8 := by decide +kernel
theorem mul_ok : MulOk sgA 5 := by
  refine ⟨by decide, fun _ _ => ?_, fun _ _ => ?_⟩
  · decide +kernel
  · decide +kernel
theorem ok_l_string {f : Addr} {fd : FuncData} (F : Fun K "_law_string" "_law_string" s_l_string f fd) (T : Txt K mg) (F_l_draw : DfD P w K mg base) :
    FnG P w K mg base CX0 2 f fd ["_law_pot_here"] (spP K (fun ds => ds = []) (fun _ r => Small r)) := by
  refine fun_okG F sc_l_string (fun vs H Q E h => spP_len (n := 0) (fun ds e => by rw [e]; rfl) h) (fun cdv A outer s H vs Q E hg hr h => ?_)
  obtain ⟨a, S, ws, ds, rfl, f, m, rfl, k⟩ := h
  cases m
  refine ⟨_, (pss_cons (ps_set (i := 1) sc_l_string.nd rfl (by first | exact Or.inl rfl | exact Or.inr rfl) (pe_op (kAdd (K := K)) (pe_op oMul pe_str pe_int) pe_str))
    (pss_one (ps_ret (pe_bm PySem.F.plainAttrs_str PySem.F.slot_str_join PySem.F.type_str_join (kJoin (K := K)) pe_str (pa_cons (pe_lc (own := [("_law_k", 2)]) rfl sc_l_string.nd (pi_range1 (by rfl) T.b_range (pa_cons (pe_fn F_l_draw hg (hr.mono (by decide)) (by rfl) pass0 (pa_cons (pv 0) (pa_cons pe_int pa_nil))) pa_nil)) (blkOk_by (N := ["_law_pot_here", "_law_signs", "_law_k"]) (sc := defScope s_l_string) (by decide +kernel)) (fun _ _ _ _ _ => (pg_name (i := 2) sc_l_string.nd rfl (by first | exact Or.inl rfl | exact Or.inr rfl))) (fun _ _ _ _ _ => pts_nil) (fun _ _ _ _ _ => (pe_ix (kIx (K := K)) (pv 1) (pe_fn F_l_draw hg (hr.mono (by decide)) (by rfl) pass0 (pa_cons (pv 0) (pa_cons (pe_callB (kLen (K := K)) (by rfl) T.b_len (by decide +kernel) (pa_cons (pv 1) pa_nil)) pa_nil))) (fun _ _ => rfl)))) pa_nil))))), ?_⟩
  refine q_set (K := K) (σ := [some (.ref a), none, none]) (C := (· = .str signs)) (ev_catS (x := Txt.mul sgA 5) (y := sgB) (ev_mulS ev_s ev_i mul_ok) ev_s (by decide +kernel)) f (Same.refl _) ?_
  rintro _ _ H1 x1 f1 m1 rfl
  cases m1
  have e39 : (39 : Int) = (signs.length : Nat) := by rw [signs_len]; rfl
  have e0 : ∀ σ : L2.St, σ[1]? = some (some (.str signs)) → Ev K a (off S H1) (tVar 1) σ (· = .str signs) := fun σ h => ev_var h (.str _)
  have el : ∀ σ : L2.St, σ[1]? = some (some (.str signs)) → Ev K a (off S H1) (tCB (rLenA K) (tCons (tVar 1) tNil)) σ (· = .int 39) := fun σ h =>
    Ev.imp (ev_len (cI := (· = 39)) (e0 σ h) (by
      rintro _ rfl
      exact ⟨_, rfl, by rw [signs_len]; decide, by rw [signs_len]; rfl⟩)) (by
      rintro _ ⟨i, rfl, rfl⟩
      rfl)
  refine q_ret (K := K) (σ := [some (.ref a), some (.str signs), none]) (C := fun d => ∃ w : Str, d = .str w ∧ w.length ≤ 10 ∧ ∀ c ∈ w.cps.toList, c ∈ signs.cps.toList)
    (ev_joinS (N := fun n => n ≤ 10) (Ev.imp (ev_lcR (cI := fun i => 0 ≤ i ∧ i < 11) (Y := fun i z => ∃ c, z = .str ⟨#[c]⟩ ∧ c ∈ signs.cps.toList) (ev_draw rfl ev_i (by decide) (by decide)) ?_ (fun _ => rfl) ?_) ?_) ?_) f1 (Same.refl _) ?_
  · intro i hi
    omega
  · intro i
    refine ev_pickS (z := signs) (e0 _ rfl) ?_ (by rw [signs_len]; decide)
    rw [← e39]
    exact ev_draw rfl (el _ rfl) (by decide) (by decide)
  · rintro d ⟨n, ds, hn, e, hl, hY⟩
    exact ⟨n, ds, by omega, e, hl, hY⟩
  · intro n hn
    omega
  · rintro v2 _ H2 x2 m2 ⟨wd, rfl, hl, hc⟩
    exact k _ _ H2 (x1.trans x2) m2 (small_str (by omega) fun c hm => signs_small c (hc c hm))
/-! ### whole numbers -/
theorem ok_l_whole {f : Addr} {fd : FuncData} (F : Fun K "_law_whole" "_law_whole" s_l_whole f fd) (T : Txt K mg) (F_l_draw : DfD P w K mg base) :
    FnG P w K mg base CX0 2 f fd ["_law_pot_here"] (spP K (fun ds => ds = []) (fun _ r => Small r)) := by
  refine fun_okG F sc_l_whole (fun vs H Q E h => spP_len (n := 0) (fun ds e => by rw [e]; rfl) h) (fun cdv A outer s H vs Q E hg hr h => ?_)
  obtain ⟨a, S, ws, ds, rfl, f, m, rfl, k⟩ := h
  cases m
  refine ⟨_, (pss_one (ps_ret (pe_op (kAdd (K := K)) (pe_ix (kIx (K := K)) (pe_lst (pa_cons pe_int (pa_cons pe_int (pa_cons (pe_un un_neg pe_int) (pa_cons (pe_op op_pow pe_int pe_int) (pa_cons (pe_un un_neg (pe_op op_pow pe_int pe_int)) pa_nil)))))) (pe_fn F_l_draw hg (hr.mono (by decide)) (by rfl) pass0 (pa_cons (pv 0) (pa_cons pe_int pa_nil))) (fun _ _ => rfl)) (pe_fn F_l_draw hg (hr.mono (by decide)) (by rfl) pass0 (pa_cons (pv 0) (pa_cons (pe_op op_pow pe_int pe_int) pa_nil)))))), ?_⟩
  refine q_ret (K := K) (σ := [some (.ref a)]) (C := IsI fun i => i.natAbs < 2 ^ 200) (ev_addI (cI := fun i => i.natAbs ≤ 10 ^ 50) (cJ := fun i => 0 ≤ i ∧ i < 10 ^ 9) (Ev.imp (ev_pick (ds := [.int 0, .int 1, .int (-1), .int (10 ^ 50), .int (-(10 ^ 50))]) ?_ (ev_draw rfl ev_i (by decide) (by decide))) ?_) (ev_draw rfl (ev_powE ev_i ev_i ⟨by decide, by decide, by decide⟩) (by decide) (by decide)) ?_) f (Same.refl _) ?_
  · refine ev_lstE (ea_eq ev_i (ea_eq ev_i (ea_eq (ev_negE ev_i) (ea_eq (ev_powE ev_i ev_i ⟨by decide, by decide, by decide⟩) (ea_eq (ev_negE (ev_powE ev_i ev_i ⟨by decide, by decide, by decide⟩)) ea_nil))))) (by decide)
  · intro d hd
    simp only [List.mem_cons, List.not_mem_nil, or_false] at hd
    rcases hd with rfl | rfl | rfl | rfl | rfl <;> exact ⟨_, rfl, by decide⟩
  · intro i j hi hj
    have h1 : (i + j).natAbs ≤ 10 ^ 50 + 10 ^ 9 := by omega
    exact Nat.lt_of_le_of_lt h1 (by decide)
  · rintro v2 _ H2 x2 m2 ⟨i, rfl, hi⟩
    exact k _ _ H2 x2 m2 (small_int hi)
/-! ### right -/
def preR (ds : List PyData) : Prop := ∃ d, ds = [d] ∧ Small d
abbrev DfN (P : Program) (w : World) (K : PySem.W.Frag) (mg : Str → Option Value) (base : Heap) (x p : Str) (fn : PyData → PyData) : Prop := Df P w K mg base CX0 1 x [p] (spG K pre1 (post1 fn))
abbrev KfN (P : Program) (w : World) (K : PySem.W.Frag) (mg : Str → Option Value) (base : Heap) (x p : Str) (fn : PyData → PyData) : Prop := DfK P w K mg base CX0 1 x [p] [p] idL (spG K pre1 (post1 fn))
theorem ev_call1 {σ : L2.St} {te : TE} {d : PyData} {fn : PyData → PyData} {E : XK} (h : Ev K a G te σ (· = d)) (t : Tame d) : Ev K a G (tCall (spG K pre1 (post1 fn)) [] E (tCons te tNil)) σ (· = fn d) := by
  refine ev_callG (ea_eq h ea_nil) ?_ ?_
  · rintro _ rfl
    exact ⟨d, rfl, t⟩
  · rintro _ r rfl ⟨d', e, rfl⟩
    injection e with e _
    rw [e]
theorem ev_callK1 {σ : L2.St} {te : TE} {d : PyData} {fn : PyData → PyData} {E : XK} (h : Ev K a G te σ (· = d)) (t : Tame d) : Ev K a G (tCallK0 1 (spG K pre1 (post1 fn)) idL E (tCons te tNil)) σ (· = fn d) := by
  refine ev_callK0 (g := idL) (ea_eq h ea_nil) ?_ (fun _ h => h) ?_ ?_
  · rintro _ rfl
    rfl
  · rintro _ rfl
    exact ⟨d, rfl, t⟩
  · rintro _ r rfl ⟨d', e, rfl⟩
    injection e with e _
    rw [e]
theorem ok_l_right {f : Addr} {fd : FuncData} (F : Fun K "_law_right" "_law_right" s_l_right f fd) (T : Txt K mg)
    (F_l_is_word : DfN P w K mg base "_law_is_word" "_law_thing" fun d => .bool (isNameD d)) (F_is_name : DfN P w K mg base "is_name" "value" fun d => .bool (isNameD d)) (F_is_integer : DfN P w K mg base "is_integer" "value" fun d => .bool (isIntD d))
    (KW_is_name_value : KfN P w K mg base "is_name" "value" fun d => .bool (isNameD d)) (KW_is_integer_value : KfN P w K mg base "is_integer" "value" fun d => .bool (isIntD d)) :
    FnG P w K mg base CX0 2 f fd ["_law_thing"] (spG K preR (fun _ r => r = .bool true)) := by
  refine fun_okG F sc_l_right (fun vs H Q E h => spG_len (fun ds ⟨d, e, _⟩ => by rw [e]; rfl) h) (fun cdv A outer s H vs Q E hg hr h => ?_)
  obtain ⟨a, S, ds, f, m, ⟨d, rfl, sm⟩, k⟩ := h
  obtain ⟨v, rfl, mv⟩ := DA.one m
  have tm := sm.tame
  refine ⟨_, (pss_cons (ps_set (i := 1) sc_l_right.nd rfl (by first | exact Or.inl rfl | exact Or.inr rfl) (pe_callB (kRepr (K := K) hg hr.units) (by rfl) T.b_repr (by decide +kernel) (pa_cons (pv 0) pa_nil)))
    (pss_cons (ps_set (i := 2) sc_l_right.nd rfl (by first | exact Or.inl rfl | exact Or.inr rfl) (pe_lst (pa_cons (pe_fn F_l_is_word hg (hr.mono (by decide)) (by rfl) pass0 (pa_cons (pv 0) pa_nil)) (pa_cons (pe_and (pe_callB (kIsi (K := K)) (by rfl) T.b_isinstance (by decide +kernel) (pa_cons (pv 0) (pa_cons (pe_bltn (v := .ty "int") (by rfl) T.b_int (by decide +kernel) rfl) pa_nil))) (pe_one (pe_not (pe_callB (kIsi (K := K)) (by rfl) T.b_isinstance (by decide +kernel) (pa_cons (pv 0) (pa_cons (pe_bltn (v := .ty "bool") (by rfl) T.b_bool (by decide +kernel) rfl) pa_nil)))))) pa_nil))))
    (pss_cons (ps_set (i := 3) sc_l_right.nd rfl (by first | exact Or.inl rfl | exact Or.inr rfl) (pe_lst (pa_cons (pe_fn F_is_name hg (hr.mono (by decide)) (by rfl) pass0 (pa_cons (pv 0) pa_nil)) (pa_cons (pe_fn F_is_integer hg (hr.mono (by decide)) (by rfl) pass0 (pa_cons (pv 0) pa_nil)) pa_nil))))
    (pss_cons (ps_set (i := 4) sc_l_right.nd rfl (by first | exact Or.inl rfl | exact Or.inr rfl) (pe_lst (pa_cons (pe_kw0 KW_is_name_value hg (hr.mono (by decide)) (by rfl) pass0 (pk_cons (pv 0) pk_nil)) (pa_cons (pe_kw0 KW_is_integer_value hg (hr.mono (by decide)) (by rfl) pass0 (pk_cons (pv 0) pk_nil)) pa_nil))))
    (pss_one (ps_ret (pe_and (pe_cmpR (kEq (K := K) hr.units) (pe_callB (kRepr (K := K) hg hr.units) (by rfl) T.b_repr (by decide +kernel) (pa_cons (pe_lst (pa_cons (pv 3) (pa_cons (pv 4) (pa_cons (pv 0) pa_nil)))) pa_nil)) (pe_callB (kRepr (K := K) hg hr.units) (by rfl) T.b_repr (by decide +kernel) (pa_cons (pe_lst (pa_cons (pv 2) (pa_cons (pv 2) (pa_cons (pv 0) pa_nil)))) pa_nil)) (nomark _)) (pe_one (pe_cmpR (kEq (K := K) hr.units) (pe_callB (kRepr (K := K) hg hr.units) (by rfl) T.b_repr (by decide +kernel) (pa_cons (pv 0) pa_nil)) (pv 1) (nomark _)))))))))), ?_⟩
  refine q_set (K := K) (σ := [some v, none, none, none, none]) (C := (· = .str d.shown)) (ev_reprE (ev_var rfl mv) tm) f (Same.refl _) ?_
  rintro v1 _ H1 x1 f1 m1 rfl
  have mv1 := mv.mono (x1.off f.mem)
  refine q_set (K := K) (σ := [some v, some v1, none, none, none]) (C := (· = .list [.bool (isNameD d), .bool (isIntD d)])) (ev_lstE (ea_eq (ev_call1 (fn := fun d => .bool (isNameD d)) (ev_var rfl mv1) tm) (ea_eq (ev_isInteger (ev_var rfl mv1)) ea_nil)) (by show 2 ≤ 1000; decide)) f1 (Same.refl _) ?_
  rintro v2 _ H2 x2 f2 m2 rfl
  have mv2 := mv1.mono (x2.off f.mem)
  have m12 := m1.mono (x2.off f.mem)
  refine q_set (K := K) (σ := [some v, some v1, some v2, none, none]) (C := (· = .list [.bool (isNameD d), .bool (isIntD d)])) (ev_lstE (ea_eq (ev_call1 (fn := fun d => .bool (isNameD d)) (ev_var rfl mv2) tm) (ea_eq (ev_call1 (fn := fun d => .bool (isIntD d)) (ev_var rfl mv2) tm) ea_nil)) (by show 2 ≤ 1000; decide)) f2 (Same.refl _) ?_
  rintro v3 _ H3 x3 f3 m3 rfl
  have mv3 := mv2.mono (x3.off f.mem)
  have m13 := m12.mono (x3.off f.mem)
  have m23 := m2.mono (x3.off f.mem)
  refine q_set (K := K) (σ := [some v, some v1, some v2, some v3, none]) (C := (· = .list [.bool (isNameD d), .bool (isIntD d)])) (ev_lstE (ea_eq (ev_callK1 (fn := fun d => .bool (isNameD d)) (ev_var rfl mv3) tm) (ea_eq (ev_callK1 (fn := fun d => .bool (isIntD d)) (ev_var rfl mv3) tm) ea_nil)) (by show 2 ≤ 1000; decide)) f3 (Same.refl _) ?_
  rintro v4 _ H4 x4 f4 m4 rfl
  have mv4 := mv3.mono (x4.off f.mem)
  have m14 := m13.mono (x4.off f.mem)
  have m24 := m23.mono (x4.off f.mem)
  have m34 := m3.mono (x4.off f.mem)
  have big := sm.list3 (isNameD d) (isIntD d) (isNameD d) (isIntD d)
  have l3 : ∀ n : Nat, n ≤ 3 → n ≤ 1000 := fun n h => by omega
  refine q_ret (K := K) (σ := [some v, some v1, some v2, some v3, some v4]) (C := (· = .bool true)) (ev_andV (B := (· = true)) (Ev.imp (ev_eqS (ev_reprE (ev_lstE (ea_eq (ev_var rfl m34) (ea_eq (ev_var rfl m4) (ea_eq (ev_var rfl mv4) ea_nil))) (by show 3 ≤ 1000; decide)) big)
    (ev_reprE (ev_lstE (ea_eq (ev_var rfl m24) (ea_eq (ev_var rfl m24) (ea_eq (ev_var rfl mv4) ea_nil))) (by show 3 ≤ 1000; decide)) big)) ?_) (fun _ => Ev.imp (ev_eqS (ev_reprE (ev_var rfl mv4) tm) (ev_var rfl m14)) ?_) ?_) f4 (Same.refl _) ?_
  · rintro _ rfl
    exact ⟨_, rfl, decide_eq_true rfl⟩
  · rintro _ rfl
    rw [decide_eq_true rfl]
  · intro h
    cases h
  · rintro v5 _ H5 x5 m5 rfl
    exact k _ _ H5 ((((x1.trans x2).trans x3).trans x4).trans x5) m5 rfl
end
end K11
set_option Elab.async false
set_option linter.all false
set_option maxRecDepth 100000
set_option maxHeartbeats 4000000
namespace K11
open PySem PySem.Spec L2 LK
open PyProof.Rows hiding St
section
variable {P : Program} {w : World} {K : PySem.W.Frag} {mg : Str → Option Value} {base : Heap} {a : Addr} {G : Hp} {S : List Addr} {H : Hp}
def spLaw (K : PySem.W.Frag) : Sp := fun vs H Q _ => ∃ (s : Addr) (ns : List Int), vs = [.ref s] ∧ SqL K H s (ns.map V.int) ∧ ns.length ≤ 63 ∧ ∀ H', Q (.bl true) H'
theorem Ext.same_of {p : Addr} {H0 H H' : Hp} (hp : H0 p = none) (s : Same H0 H) (x : Ext p H H') : Same H0 H' := fun b o e => x.keep b o (ne_of_none e hp) (s b o e)
theorem Fr.one {p : Addr} {H : Hp} (h : PotAt H p) : Fr p [p] H := ⟨List.mem_singleton.mpr rfl, h, fun b m => by
  rw [List.mem_singleton.mp m]
  obtain ⟨x, y, e, _⟩ := h
  exact ⟨_, e⟩⟩
theorem ok_law {f : Addr} {fd : FuncData} (F : Fun K "law" "law" s_law f fd) (T : Txt K mg)
    (F_l_pot : Df P w K mg base CX0 1 "_law_pot" ["_law_script", "_law_k"] (spPot K)) (F_l_draw : DfD P w K mg base)
    (F_l_string : Df P w K mg base CX0 2 "_law_string" ["_law_pot_here"] (spP K (fun ds => ds = []) (fun _ r => Small r)))
    (F_l_whole : Df P w K mg base CX0 2 "_law_whole" ["_law_pot_here"] (spP K (fun ds => ds = []) (fun _ r => Small r)))
    (F_l_odd : Df P w K mg base CX0 2 "_law_odd" ["_law_pot_here"] (spP K (fun ds => ds = []) (fun _ r => r ∈ oddL)))
    (F_l_word : Df P w K mg base CX0 2 "_law_word" ["_law_pot_here", "_law_taken"] (spP K (fun ds => ds = [.list []]) (fun _ r => ∃ w : Str, r = .str w ∧ isWord w)))
    (F_l_right : Df P w K mg base CX0 2 "_law_right" ["_law_thing"] (spG K preR (fun _ r => r = .bool true))) :
    FnG P w K mg base CX0 3 f fd ["_law_script"] (spLaw K) := by
  refine fun_okG F sc_law (fun vs H Q E h => ?_) (fun cdv A outer s H vs Q E hg hr h => ?_)
  · obtain ⟨s, ns, rfl, _⟩ := h
    rfl
  obtain ⟨s, ns, rfl, hs, hl, k⟩ := h
  refine ⟨_, (pss_cons (ps_for PassesOwn.never rfl (pi_range1 (by rfl) T.b_range (pa_cons (pe_callB (call_max2 rfl) (by rfl) T.b_max (by decide +kernel) (pa_cons pe_int (pa_cons (pe_callB (call_min2 rfl) (by rfl) T.b_min (by decide +kernel) (pa_cons pe_int (pa_cons (pe_callB (kLen (K := K)) (by rfl) T.b_len (by decide +kernel) (pa_cons (pv 0) pa_nil)) pa_nil))) pa_nil))) pa_nil)) (pg_name (i := 1) sc_law.nd rfl (by first | exact Or.inl rfl | exact Or.inr rfl))
    (pss_cons (ps_set (i := 2) sc_law.nd rfl (by first | exact Or.inl rfl | exact Or.inr rfl) (pe_fn F_l_pot hg (hr.mono (by decide)) (by rfl) pass0 (pa_cons (pv 0) (pa_cons (pv 1) pa_nil))))
    (pss_one (ps_for PassesOwn.never rfl (pi_range1 (by rfl) T.b_range (pa_cons pe_int pa_nil)) (pg_name (i := 3) sc_law.nd rfl (by first | exact Or.inl rfl | exact Or.inr rfl))
    (pss_cons (ps_set (i := 4) sc_law.nd rfl (by first | exact Or.inl rfl | exact Or.inr rfl) (pe_lst (pa_cons (pe_fn F_l_string hg (hr.mono (by decide)) (by rfl) pass0 (pa_cons (pv 2) pa_nil)) (pa_cons (pe_fn F_l_whole hg (hr.mono (by decide)) (by rfl) pass0 (pa_cons (pv 2) pa_nil)) (pa_cons (pe_fn F_l_odd hg (hr.mono (by decide)) (by rfl) pass0 (pa_cons (pv 2) pa_nil)) (pa_cons (pe_fn F_l_word hg (hr.mono (by decide)) (by rfl) pass0 (pa_cons (pv 2) (pa_cons (pe_lst pa_nil) pa_nil))) pa_nil))))))
    (pss_one (ps_if (pt_not (pt_val (pe_fn F_l_right hg (hr.mono (by decide)) (by rfl) pass0 (pa_cons (pe_ix (kIx (K := K)) (pv 4) (pe_fn F_l_draw hg (hr.mono (by decide)) (by rfl) pass0 (pa_cons (pv 2) (pa_cons pe_int pa_nil))) (fun _ _ => rfl)) pa_nil))))
    (pss_one (ps_ret pe_bl))
    pss_nil)))))))
    (pss_one (ps_ret pe_bl))), ?_⟩
  have hz : ∀ z : Int, 1 ≤ (if (if (((ns.map V.int).length : Nat) : Int) < 6 then (((ns.map V.int).length : Nat) : Int) else 6) > 1 then (if (((ns.map V.int).length : Nat) : Int) < 6 then (((ns.map V.int).length : Nat) : Int) else 6) else 1) ∧
      (if (if (((ns.map V.int).length : Nat) : Int) < 6 then (((ns.map V.int).length : Nat) : Int) else 6) > 1 then (if (((ns.map V.int).length : Nat) : Int) < 6 then (((ns.map V.int).length : Nat) : Int) else 6) else 1) ≤ 6 := by
    intro _
    split <;> split <;> omega
  obtain ⟨z1, z6⟩ := hz 0
  refine ⟨.ref s, rfl, .ref s, _, rfl, .inl ⟨_, hs, rfl⟩, 6, _, rfl, 1, _, rfl, _, rfl, by omega, by omega, ?_⟩
  generalize (if (if (((ns.map V.int).length : Nat) : Int) < 6 then (((ns.map V.int).length : Nat) : Int) else 6) > 1 then (if (((ns.map V.int).length : Nat) : Int) < 6 then (((ns.map V.int).length : Nat) : Int) else 6) else 1) = z at z1 z6
  refine for_range (lo := 0) (n := z.toNat) (fun _ σ H' => ∃ x1 x2 x3 x4, σ = [some (.ref s), x1, x2, x3, x4] ∧ Same H H') ⟨none, none, none, none, rfl, Same.refl H⟩ ?_ ?_
  · rintro i σ H1 hi ⟨x1, x2, x3, x4, rfl, s1⟩
    refine ⟨.ref s, rfl, _, rfl, s, ns, i, by rw [List.append_nil, Int.zero_add], s1.seq hs, by omega, fun p H2 s2 hp pot => ?_⟩
    have s02 := s1.trans s2
    have hp0 : H p = none := s1.free hp
    refine ⟨8, rfl, by decide, by decide, ?_⟩
    refine for_range (lo := 0) (n := 8) (fun _ σ H' => ∃ y3 y4, σ = [some (.ref s), some (.int (0 + (i : Nat))), some (.ref p), y3, y4] ∧ Same H H' ∧ PotAt H' p) ⟨_, _, rfl, s02, pot⟩ ?_ ?_
    · rintro j σ H3 hj ⟨y3, y4, rfl, s3, pot3⟩
      have f3 := Fr.one pot3
      refine q_set (K := K) (a := p) (S := [p]) (G := off [p] H3) (σ := [some (.ref s), some (.int (0 + (i : Nat))), some (.ref p), some (.int (0 + (j : Nat))), y4]) (C := fun d => ∃ ds, d = .list ds ∧ ds.length = 4 ∧ ∀ z ∈ ds, Small z)
        (Ev.imp (ev_lst (ea_cons (ev_callP (C := Small) rfl ea_nil (fun _ e => e) (fun _ _ _ h => h)) (ea_cons (ev_callP (C := Small) rfl ea_nil (fun _ e => e) (fun _ _ _ h => h)) (ea_cons (ev_callP (C := Small) rfl ea_nil (fun _ e => e) (fun _ _ _ h => odd_small _ h))
          (ea_cons (ev_callP (C := Small) rfl (ea_eq (ev_lstE ea_nil (by show 0 ≤ 1000; decide)) ea_nil) (fun _ e => e) (fun _ d _ h => ?_)) ea_nil)))) ?_) ?_) f3 (Same.refl _) ?_
      · obtain ⟨wd, rfl, h1, h8, hc⟩ := h
        exact small_str (by omega) fun c m => abc_small c (hc c m)
      · rintro ds ⟨d1, r1, rfl, _, d2, r2, rfl, _, d3, r3, rfl, _, d4, r4, rfl, _, rfl⟩
        show 4 ≤ 1000
        decide
      · rintro d ⟨ds, rfl, d1, r1, rfl, h1, d2, r2, rfl, h2, d3, r3, rfl, h3, d4, r4, rfl, h4, rfl⟩
        refine ⟨_, rfl, rfl, fun z m => ?_⟩
        simp only [List.mem_cons, List.not_mem_nil, or_false] at m
        rcases m with rfl | rfl | rfl | rfl <;> assumption
      · rintro v4 d4 H4 x4' f4 m4 hd4
        refine q_if (σ := [some (.ref s), some (.int (0 + (i : Nat))), some (.ref p), some (.int (0 + (j : Nat))), some v4]) (B := (· = false)) (et_not (B1 := (· = true)) (et_val (ev_callG (ea_cons (ev_pickL (n := 4) (C := Small) (Ev.imp (ev_var rfl m4) ?_) (ev_draw rfl ev_i (by decide) (by decide)) (fun _ h => h)) ea_nil) ?_ ?_)) ?_) f4 (Same.refl _) ?_ ?_
        · rintro _ rfl
          exact hd4
        · rintro _ ⟨d, r, rfl, hs, rfl⟩
          exact ⟨d, rfl, hs⟩
        · rintro _ r _ rfl
          exact ⟨_, rfl, rfl⟩
        · rintro _ rfl
          rfl
        · intro H5 x5 f5 e
          cases e
        · intro H5 x5 f5 e
          exact ⟨_, _, rfl, Ext.same_of hp0 s3 (x4'.trans x5), f5.pot⟩
    · rintro σ H3 ⟨y3, y4, rfl, s3, _⟩
      exact ⟨_, _, _, _, rfl, s3⟩
  · rintro σ H1 ⟨x1, x2, x3, x4, rfl, s1⟩
    exact k H1
end
/-! ### the end -/
theorem binds1 {K : PySem.W.Frag} {x qual : Str} {st : Stmt} {f : Addr} {fd : FuncData} {p : Str} (F : Fun K x qual st f fd)
    (h : ∀ (kV doc pm : Value) (an : Option Addr) (cdv ct : Value) (u : Value), bindArgs (PySem.W.fnOf x qual (defArgs st) (defBody st) (defScope st) .none kV doc pm an cdv ct) ⟨[], [(p, u)]⟩ = pure [(p, u)]) : KB0 K fd [p] [p] idL := by
  obtain ⟨oc, od, kV, doc, pm, an, cdv, ct, osl, rfl, lk, hcd⟩ := F.ex
  refine ⟨fun s ws _ hl => ?_, fun r => r⟩
  match ws, hl with
  | [u], _ => exact .of_eq (h kV doc pm an cdv ct u)
theorem all_mk {l : PySem.W.OpenLaw} {w : World} {K : PySem.W.Frag} {h : Heap} {mg : Str → Option Value} {fa : Addr} (X : K.In h) (G : h.Ns mainGlobals mg) (hfa : mg "law" = some (.ref fa))
    {f0 f1 f2 f3 f4 f5 f6 f7 f8 f9 f10 : Addr} {od0 an0 od1 an1 od2 an2 od3 an3 od4 an4 od5 an5 od6 an6 od7 an7 od8 an8 od9 an9 od10 an10 : Option Addr} {sl0 sl1 sl2 sl3 sl4 sl5 sl6 sl7 sl8 sl9 sl10 : Array (Option Value)} {oc0 kV0 dc0 pm0 cd0 ct0 oc1 kV1 dc1 pm1 cd1 ct1 oc2 kV2 dc2 pm2 cd2 ct2 oc3 kV3 dc3 pm3 cd3 ct3 oc4 kV4 dc4 pm4 cd4 ct4 oc5 kV5 dc5 pm5 cd5 ct5 oc6 kV6 dc6 pm6 cd6 ct6 oc7 kV7 dc7 pm7 cd7 ct7 oc8 kV8 dc8 pm8 cd8 ct8 oc9 kV9 dc9 pm9 cd9 ct9 oc10 kV10 dc10 pm10 cd10 ct10 : Value}
    (a0 : PySem.W.nsIn K mainGlobals "is_name" = some (some (.ref f0))) (l0 : K.lookup f0 = some ⟨oc0, od0, .func (PySem.W.fnOf "is_name" "is_name" (defArgs s_is_name) (defBody s_is_name) (defScope s_is_name) .none kV0 dc0 pm0 an0 cd0 ct0), sl0⟩) (c0 : PySem.W.codeIn K cd0 "is_name" = true) (k0 : PySem.W.keepIn K (.ref f0) = true)
    (a1 : PySem.W.nsIn K mainGlobals "is_integer" = some (some (.ref f1))) (l1 : K.lookup f1 = some ⟨oc1, od1, .func (PySem.W.fnOf "is_integer" "is_integer" (defArgs s_is_integer) (defBody s_is_integer) (defScope s_is_integer) .none kV1 dc1 pm1 an1 cd1 ct1), sl1⟩) (c1 : PySem.W.codeIn K cd1 "is_integer" = true) (k1 : PySem.W.keepIn K (.ref f1) = true)
    (a2 : PySem.W.nsIn K mainGlobals "_law_pot" = some (some (.ref f2))) (l2 : K.lookup f2 = some ⟨oc2, od2, .func (PySem.W.fnOf "_law_pot" "_law_pot" (defArgs s_l_pot) (defBody s_l_pot) (defScope s_l_pot) .none kV2 dc2 pm2 an2 cd2 ct2), sl2⟩) (c2 : PySem.W.codeIn K cd2 "_law_pot" = true) (k2 : PySem.W.keepIn K (.ref f2) = true)
    (a3 : PySem.W.nsIn K mainGlobals "_law_draw" = some (some (.ref f3))) (l3 : K.lookup f3 = some ⟨oc3, od3, .func (PySem.W.fnOf "_law_draw" "_law_draw" (defArgs s_l_draw) (defBody s_l_draw) (defScope s_l_draw) .none kV3 dc3 pm3 an3 cd3 ct3), sl3⟩) (c3 : PySem.W.codeIn K cd3 "_law_draw" = true) (k3 : PySem.W.keepIn K (.ref f3) = true)
    (a4 : PySem.W.nsIn K mainGlobals "_law_word" = some (some (.ref f4))) (l4 : K.lookup f4 = some ⟨oc4, od4, .func (PySem.W.fnOf "_law_word" "_law_word" (defArgs s_l_word) (defBody s_l_word) (defScope s_l_word) .none kV4 dc4 pm4 an4 cd4 ct4), sl4⟩) (c4 : PySem.W.codeIn K cd4 "_law_word" = true) (k4 : PySem.W.keepIn K (.ref f4) = true)
    (a5 : PySem.W.nsIn K mainGlobals "_law_odd" = some (some (.ref f5))) (l5 : K.lookup f5 = some ⟨oc5, od5, .func (PySem.W.fnOf "_law_odd" "_law_odd" (defArgs s_l_odd) (defBody s_l_odd) (defScope s_l_odd) .none kV5 dc5 pm5 an5 cd5 ct5), sl5⟩) (c5 : PySem.W.codeIn K cd5 "_law_odd" = true) (k5 : PySem.W.keepIn K (.ref f5) = true)
    (a6 : PySem.W.nsIn K mainGlobals "_law_is_word" = some (some (.ref f6))) (l6 : K.lookup f6 = some ⟨oc6, od6, .func (PySem.W.fnOf "_law_is_word" "_law_is_word" (defArgs s_l_is_word) (defBody s_l_is_word) (defScope s_l_is_word) .none kV6 dc6 pm6 an6 cd6 ct6), sl6⟩) (c6 : PySem.W.codeIn K cd6 "_law_is_word" = true) (k6 : PySem.W.keepIn K (.ref f6) = true)
    (a7 : PySem.W.nsIn K mainGlobals "_law_string" = some (some (.ref f7))) (l7 : K.lookup f7 = some ⟨oc7, od7, .func (PySem.W.fnOf "_law_string" "_law_string" (defArgs s_l_string) (defBody s_l_string) (defScope s_l_string) .none kV7 dc7 pm7 an7 cd7 ct7), sl7⟩) (c7 : PySem.W.codeIn K cd7 "_law_string" = true) (k7 : PySem.W.keepIn K (.ref f7) = true)
    (a8 : PySem.W.nsIn K mainGlobals "_law_whole" = some (some (.ref f8))) (l8 : K.lookup f8 = some ⟨oc8, od8, .func (PySem.W.fnOf "_law_whole" "_law_whole" (defArgs s_l_whole) (defBody s_l_whole) (defScope s_l_whole) .none kV8 dc8 pm8 an8 cd8 ct8), sl8⟩) (c8 : PySem.W.codeIn K cd8 "_law_whole" = true) (k8 : PySem.W.keepIn K (.ref f8) = true)
    (a9 : PySem.W.nsIn K mainGlobals "_law_right" = some (some (.ref f9))) (l9 : K.lookup f9 = some ⟨oc9, od9, .func (PySem.W.fnOf "_law_right" "_law_right" (defArgs s_l_right) (defBody s_l_right) (defScope s_l_right) .none kV9 dc9 pm9 an9 cd9 ct9), sl9⟩) (c9 : PySem.W.codeIn K cd9 "_law_right" = true) (k9 : PySem.W.keepIn K (.ref f9) = true)
    (a10 : PySem.W.nsIn K mainGlobals "law" = some (some (.ref f10))) (l10 : K.lookup f10 = some ⟨oc10, od10, .func (PySem.W.fnOf "law" "law" (defArgs s_law) (defBody s_law) (defScope s_law) .none kV10 dc10 pm10 an10 cd10 ct10), sl10⟩) (c10 : PySem.W.codeIn K cd10 "law" = true) (k10 : PySem.W.keepIn K (.ref f10) = true)
    (b_abs : PySem.W.nsIn K mainGlobals "abs" = some none)
    (b_all : PySem.W.nsIn K mainGlobals "all" = some none)
    (b_bool : PySem.W.nsIn K mainGlobals "bool" = some none)
    (b_divmod : PySem.W.nsIn K mainGlobals "divmod" = some none)
    (b_int : PySem.W.nsIn K mainGlobals "int" = some none)
    (b_isinstance : PySem.W.nsIn K mainGlobals "isinstance" = some none)
    (b_len : PySem.W.nsIn K mainGlobals "len" = some none)
    (b_max : PySem.W.nsIn K mainGlobals "max" = some none)
    (b_min : PySem.W.nsIn K mainGlobals "min" = some none)
    (b_range : PySem.W.nsIn K mainGlobals "range" = some none)
    (b_repr : PySem.W.nsIn K mainGlobals "repr" = some none)
    (b_str : PySem.W.nsIn K mainGlobals "str" = some none)
    {t_LETTERS : Tok} (g_LETTERS : PySem.W.nsIn K mainGlobals "LETTERS" = some (some (.str "abcdefghijklmnopqrstuvwxyz" t_LETTERS)))
    {t_MOST_LETTERS : Tok} (g_MOST_LETTERS : PySem.W.nsIn K mainGlobals "MOST_LETTERS" = some (some (.int 8 t_MOST_LETTERS))) :
    ∃ fd : FuncData, (∀ (s : Shared) (v : Value), BindsTo s fd ⟨[v], []⟩ [("_law_script", v)]) ∧ ∀ base : Heap, K.In base → base.Ns mainGlobals mg → FnG l.prog w K mg base CX0 3 fa fd ["_law_script"] (spLaw K) := by
  have e := hfa.symm.trans (PySem.W.mg_of X G a10)
  cases e
  have T : Txt K mg := ⟨trivial, PySem.W.mg_none_of X G b_abs, PySem.W.mg_none_of X G b_all, PySem.W.mg_none_of X G b_bool, PySem.W.mg_none_of X G b_divmod, PySem.W.mg_none_of X G b_int, PySem.W.mg_none_of X G b_isinstance, PySem.W.mg_none_of X G b_len, PySem.W.mg_none_of X G b_max, PySem.W.mg_none_of X G b_min, PySem.W.mg_none_of X G b_range, PySem.W.mg_none_of X G b_repr, PySem.W.mg_none_of X G b_str, ⟨_, PySem.W.mg_of X G g_LETTERS⟩, ⟨_, PySem.W.mg_of X G g_MOST_LETTERS⟩⟩
  have Fn := (fun_mk (st := s_is_name) l0 c0 k0)
  have Fi := (fun_mk (st := s_is_integer) l1 c1 k1)
  have Fp := (fun_mk (st := s_l_pot) l2 c2 k2)
  have Fd := (fun_mk (st := s_l_draw) l3 c3 k3)
  have Fw := (fun_mk (st := s_l_word) l4 c4 k4)
  have Fo := (fun_mk (st := s_l_odd) l5 c5 k5)
  have Fiw := (fun_mk (st := s_l_is_word) l6 c6 k6)
  have Fs := (fun_mk (st := s_l_string) l7 c7 k7)
  have Fwh := (fun_mk (st := s_l_whole) l8 c8 k8)
  have Fr' := (fun_mk (st := s_l_right) l9 c9 k9)
  refine ⟨(PySem.W.fnOf "law" "law" (defArgs s_law) (defBody s_law) (defScope s_law) .none kV10 dc10 pm10 an10 cd10 ct10), fun s v => .of_eq rfl, fun base _ _ => ?_⟩
  have D_draw : DfD l.prog w K mg base := ⟨_, _, ok_l_draw Fd T, (PySem.W.mg_of X G a3), k3, Fd.binds fun _ _ _ _ _ _ us hl => match us, hl with | [_, _], _ => rfl⟩
  have D_is_name : DfN l.prog w K mg base "is_name" "value" fun d => .bool (isNameD d) := ⟨_, _, ok_is_name Fn T, (PySem.W.mg_of X G a0), k0, Fn.binds fun _ _ _ _ _ _ us hl => match us, hl with | [_], _ => rfl⟩
  have D_is_integer : DfN l.prog w K mg base "is_integer" "value" fun d => .bool (isIntD d) := ⟨_, _, ok_is_integer Fi T, (PySem.W.mg_of X G a1), k1, Fi.binds fun _ _ _ _ _ _ us hl => match us, hl with | [_], _ => rfl⟩
  have W_is_name : KfN l.prog w K mg base "is_name" "value" fun d => .bool (isNameD d) := ⟨_, _, ok_is_name Fn T, (PySem.W.mg_of X G a0), k0, binds1 Fn fun _ _ _ _ _ _ _ => rfl⟩
  have W_is_integer : KfN l.prog w K mg base "is_integer" "value" fun d => .bool (isIntD d) := ⟨_, _, ok_is_integer Fi T, (PySem.W.mg_of X G a1), k1, binds1 Fi fun _ _ _ _ _ _ _ => rfl⟩
  have D_is_word : DfN l.prog w K mg base "_law_is_word" "_law_thing" fun d => .bool (isNameD d) := ⟨_, _, ok_l_is_word Fiw T, (PySem.W.mg_of X G a6), k6, Fiw.binds fun _ _ _ _ _ _ us hl => match us, hl with | [_], _ => rfl⟩
  exact ok_law (fun_mk (st := s_law) l10 c10 k10) T
    ⟨_, _, ok_l_pot Fp T, (PySem.W.mg_of X G a2), k2, Fp.binds fun _ _ _ _ _ _ us hl => match us, hl with | [_, _], _ => rfl⟩ D_draw
    ⟨_, _, ok_l_string Fs T D_draw, (PySem.W.mg_of X G a7), k7, Fs.binds fun _ _ _ _ _ _ us hl => match us, hl with | [_], _ => rfl⟩
    ⟨_, _, ok_l_whole Fwh T D_draw, (PySem.W.mg_of X G a8), k8, Fwh.binds fun _ _ _ _ _ _ us hl => match us, hl with | [_], _ => rfl⟩
    ⟨_, _, ok_l_odd Fo T D_draw, (PySem.W.mg_of X G a5), k5, Fo.binds fun _ _ _ _ _ _ us hl => match us, hl with | [_], _ => rfl⟩
    ⟨_, _, ok_l_word Fw T D_draw, (PySem.W.mg_of X G a4), k4, Fw.binds fun _ _ _ _ _ _ us hl => match us, hl with | [_, _], _ => rfl⟩
    ⟨_, _, ok_l_right Fr' T D_is_word D_is_name D_is_integer W_is_name W_is_integer, (PySem.W.mg_of X G a9), k9, Fr'.binds fun _ _ _ _ _ _ us hl => match us, hl with | [_], _ => rfl⟩
theorem walk {l : PySem.W.OpenLaw} {q : Program} {loose : List Str} {XP : (Str → Option Value) → Heap → Prop} {YP : World → Heap → Prop} {d : DefRec} {K : Params → PySem.W.Frag} (hn : l.most = some 63) (hdf : d.params.defaults = [])
    (hY : ∀ (w : World) (h : Heap), YP w h → (K w.params).In h)
    (F : ∀ (w : World) (mg : Str → Option Value) (fa : Addr) (h : Heap), (K w.params).In h → h.Ns mainGlobals mg → mg d.name = some (.ref fa) →
      ∃ fd : FuncData, (∀ (s : Shared) (u : Value), BindsTo s fd ⟨[u], []⟩ [("_law_script", u)]) ∧ ∀ base : Heap, (K w.params).In base → base.Ns mainGlobals mg → FnG l.prog w (K w.params) mg base CX0 3 fa fd ["_law_script"] (spLaw (K w.params))) :
    PySem.W.WalkO q loose XP YP l.row.toRowW d [] (fun f vs => PySem.call f vs) :=
  walk_ofG (n := 63) (k := 3) (x := "_law_script") (CX := fun _ => CX0) (sp := fun w => spLaw (K w.params)) hn (by decide) hdf ⟨rfl, by decide, by decide⟩ hY F (fun _ _ a ns hl _ hS => ⟨a, ns, rfl, hS, hl, fun _ => rfl⟩) fun _ _ _ _ _ z => z
end K11

open PySem PySem.W PyProof.Rows in
set_option maxRecDepth 100000 in
set_option maxHeartbeats 0 in
theorem PySem.Challenge.cw_lastheld_k11_names_and_integers_holds : PySem.Challenge.rw_lastheld_k11_names_and_integers.Holds := by
  w_on; o_law; k_head; (case hw => w_witness2)
  k_fill
  refine K11.walk (l := PySem.Challenge.rw_lastheld_k11_names_and_integers) rfl rfl (fun w h Y => PySem.W.kIn_of Y) ?F
  case F =>
    intro w mg fa h KX G hmg
    refine' K11.all_mk KX G hmg ?a0 ?l0 ?c0 ?k0 ?a1 ?l1 ?c1 ?k1 ?a2 ?l2 ?c2 ?k2 ?a3 ?l3 ?c3 ?k3 ?a4 ?l4 ?c4 ?k4 ?a5 ?l5 ?c5 ?k5 ?a6 ?l6 ?c6 ?k6 ?a7 ?l7 ?c7 ?k7 ?a8 ?l8 ?c8 ?k8 ?a9 ?l9 ?c9 ?k9 ?a10 ?l10 ?c10 ?k10 ?b_abs ?b_all ?b_bool ?b_divmod ?b_int ?b_isinstance ?b_len ?b_max ?b_min ?b_range ?b_repr ?b_str ?g_LETTERS ?g_MOST_LETTERS
    (case a0 => k_is)
    (case l0 => k_is)
    (case c0 => k_is)
    (case k0 => k_is)
    (case a1 => k_is)
    (case l1 => k_is)
    (case c1 => k_is)
    (case k1 => k_is)
    (case a2 => k_is)
    (case l2 => k_is)
    (case c2 => k_is)
    (case k2 => k_is)
    (case a3 => k_is)
    (case l3 => k_is)
    (case c3 => k_is)
    (case k3 => k_is)
    (case a4 => k_is)
    (case l4 => k_is)
    (case c4 => k_is)
    (case k4 => k_is)
    (case a5 => k_is)
    (case l5 => k_is)
    (case c5 => k_is)
    (case k5 => k_is)
    (case a6 => k_is)
    (case l6 => k_is)
    (case c6 => k_is)
    (case k6 => k_is)
    (case a7 => k_is)
    (case l7 => k_is)
    (case c7 => k_is)
    (case k7 => k_is)
    (case a8 => k_is)
    (case l8 => k_is)
    (case c8 => k_is)
    (case k8 => k_is)
    (case a9 => k_is)
    (case l9 => k_is)
    (case c9 => k_is)
    (case k9 => k_is)
    (case a10 => k_is)
    (case l10 => k_is)
    (case c10 => k_is)
    (case k10 => k_is)
    (case b_abs => k_is)
    (case b_all => k_is)
    (case b_bool => k_is)
    (case b_divmod => k_is)
    (case b_int => k_is)
    (case b_isinstance => k_is)
    (case b_len => k_is)
    (case b_max => k_is)
    (case b_min => k_is)
    (case b_range => k_is)
    (case b_repr => k_is)
    (case b_str => k_is)
    (case g_LETTERS => k_is)
    (case g_MOST_LETTERS => k_is)
