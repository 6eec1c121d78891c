import PyProof.Rows.All
import Wide.All
import OpenK.AllK
import Wide.FinOn
import HandS.ForMost
import HandS.IsInst
import HandS.WideBits
import HandS.Walk
import PyProof.ReprRoads
import PyProof.ReprText
import HandS.ForExc
import PyProof.ReprBulk
import HandS.ExcInit
import HandS.ExcField
import HandS.ExcOwn
import HandS.ExcIs
import HandS.Defaults
import HandS.ClsMeth
import HandS.Wide
import HandS.WordsExc
import KE.KExcIs
import HandS.Gcd
import HandS.Text
import HandS.FStr
import KE.KExcInit
import HandS.Star
import HandS.TryMany
import HandS.Style
import HandS.Property
import HandS.DictComp
import HandS.TupAny
import OpenK.KOps
import HandS.List
import HandS.Deep
import HandS.More
import KE.DataCmp
import KE.GoesEnum
import KE.KRevSl
import KE.KParC
import HandS.Iter
import HandS.TryOnly
import PySem.Challenge.RW_lastheld_k91_texts_of_settings
set_option Elab.async false
set_option linter.all false
set_option maxRecDepth 100000
set_option maxHeartbeats 4000000
/-! LK1: data of any kind behind a value, over the heap without the objects that change -/
namespace LK
open PySem PySem.Spec L2
open PyProof.Rows hiding St

/-! ### the heap without some addresses -/
def off (S : List Addr) (H : Hp) : Hp := fun b => if b ∈ S then none else H b
theorem off_some {S : List Addr} {H : Hp} {b : Addr} {o : HO} (h : off S H b = some o) : b ∉ S ∧ H b = some o := by
  unfold off at h
  by_cases m : b ∈ S
  · rw [if_pos m] at h
    cases h
  · rw [if_neg m] at h
    exact ⟨m, h⟩
theorem off_mk {S : List Addr} {H : Hp} {b : Addr} {o : HO} (m : b ∉ S) (h : H b = some o) : off S H b = some o := by
  unfold off
  rw [if_neg m]
  exact h
theorem off_le {S : List Addr} {H : Hp} : Same (off S H) H := fun _ _ h => (off_some h).2
theorem off_sub {S T : List Addr} {H : Hp} (h : ∀ b ∈ S, b ∈ T) : Same (off T H) (off S H) := fun b o e =>
  off_mk (fun m => (off_some e).1 (h b m)) (off_some e).2
/-- a pot: two ints -/
def PotAt (H : Hp) (a : Addr) : Prop := ∃ p q : Int, H a = some (.lst [.int p, .int q]) ∧ 0 ≤ p ∧ 0 ≤ q ∧ q < 2147483648
/-- all but a is kept, at a a pot stays a pot -/
structure Ext (a : Addr) (H H' : Hp) : Prop where
  keep : ∀ b o, b ≠ a → H b = some o → H' b = some o
  pot : PotAt H a → PotAt H' a
theorem Ext.refl {a : Addr} {H : Hp} : Ext a H H := ⟨fun _ _ _ h => h, fun h => h⟩
theorem Ext.trans {a : Addr} {H H1 H2 : Hp} (x : Ext a H H1) (y : Ext a H1 H2) : Ext a H H2 := ⟨fun b o n h => y.keep b o n (x.keep b o n h), fun h => y.pot (x.pot h)⟩
theorem Ext.of_same {a : Addr} {H H' : Hp} (s : Same H H') : Ext a H H' := ⟨fun b o _ h => s b o h, fun ⟨p, q, h, r⟩ => ⟨p, q, s _ _ h, r⟩⟩
theorem same_new {H : Hp} {p : Addr} {o : HO} (h : H p = none) : Same H (upd H p o) := fun b u e => by
  rw [upd_ne (ne_of_none e h)]
  exact e
theorem Ext.new {a : Addr} {H : Hp} {p : Addr} {o : HO} (h : H p = none) : Ext a H (upd H p o) := Ext.of_same (same_new h)
theorem Ext.off {a : Addr} {S : List Addr} {H H' : Hp} (x : Ext a H H') (m : a ∈ S) : Same (off S H) (off S H') := fun b o h => by
  obtain ⟨n, e⟩ := off_some h
  exact off_mk n (x.keep b o (fun z => n (z ▸ m)) e)
/-- the place: the pot, the objects that change, all of them there -/
structure Fr (a : Addr) (S : List Addr) (H : Hp) : Prop where
  mem : a ∈ S
  pot : PotAt H a
  all : ∀ b ∈ S, ∃ o, H b = some o
theorem Fr.ext {a : Addr} {S : List Addr} {H H' : Hp} (f : Fr a S H) (x : Ext a H H') : Fr a S H' := ⟨f.mem, x.pot f.pot, fun b m => by
  by_cases e : b = a
  · subst e
    obtain ⟨p, q, h, _⟩ := x.pot f.pot
    exact ⟨_, h⟩
  · obtain ⟨o, h⟩ := f.all b m
    exact ⟨o, x.keep b o e h⟩⟩
theorem Fr.out {a : Addr} {S : List Addr} {H : Hp} (f : Fr a S H) {p : Addr} (h : H p = none) : p ∉ S := fun m => by
  obtain ⟨o, e⟩ := f.all p m
  rw [h] at e
  cases e
theorem same_off_push {S : List Addr} {H H' : Hp} {L : Addr} (h : H L = none) (s : Same (off S H) (off S H')) : Same (off S H) (off (L :: S) H') := fun b o e => by
  obtain ⟨n, e1⟩ := off_some (s b o e)
  obtain ⟨_, e0⟩ := off_some e
  refine off_mk (fun m => ?_) e1
  rcases List.mem_cons.mp m with z | z
  · rw [z, h] at e0
    cases e0
  · exact n z
theorem same_off_pop {S : List Addr} {H : Hp} {L : Addr} : Same (off (L :: S) H) (off S H) := off_sub fun _ m => List.mem_cons_of_mem _ m

/-! ### data -/
def kD : Key → PyData
  | .inl i => .int i
  | .inr x => .str x
mutual
inductive D (K : PySem.W.Frag) (H : Hp) : V → PyData → Prop
  | non : D K H .non .none
  | bl (b : Bool) : D K H (.bl b) (.bool b)
  | int (i : Int) : D K H (.int i) (.int i)
  | str (x : Str) : D K H (.str x) (.str x)
  | lst {a : Addr} {xs : List V} {ds : List PyData} : H a = some (.lst xs) → DA K H xs ds → D K H (.ref a) (.list ds)
  | tup {a : Addr} {xs : List V} {ds : List PyData} : SqT K H a xs → DA K H xs ds → D K H (.ref a) (.tuple ds)
  | dic {a : Addr} {kvs : List (Key × V)} {ds : List (PyData × PyData)} : H a = some (.dK kvs) → DK K H kvs ds → D K H (.ref a) (.dict ds)
inductive DA (K : PySem.W.Frag) (H : Hp) : List V → List PyData → Prop
  | nil : DA K H [] []
  | cons {v : V} {vs : List V} {d : PyData} {ds : List PyData} : D K H v d → DA K H vs ds → DA K H (v :: vs) (d :: ds)
inductive DK (K : PySem.W.Frag) (H : Hp) : List (Key × V) → List (PyData × PyData) → Prop
  | nil : DK K H [] []
  | cons {k : Key} {v : V} {kvs : List (Key × V)} {d : PyData} {ds : List (PyData × PyData)} : D K H v d → DK K H kvs ds → DK K H ((k, v) :: kvs) ((kD k, d) :: ds)
end
theorem sqT_same {K : PySem.W.Frag} {H H' : Hp} {a : Addr} {xs : List V} (e : Same H H') (h : SqT K H a xs) : SqT K H' a xs := by
  rcases h with (h | ⟨o, h⟩) | h
  · exact .inl (.inl (e _ _ h))
  · exact .inl (.inr ⟨o, e _ _ h⟩)
  · exact .inr h
section
variable {K : PySem.W.Frag} {H H' : Hp}
mutual
theorem D.same (e : Same H H') : ∀ (d : PyData) (v : V), D K H v d → D K H' v d
  | .none, _, h => by
    cases h
    exact .non
  | .bool b, _, h => by
    cases h
    exact .bl b
  | .int i, _, h => by
    cases h
    exact .int i
  | .str x, _, h => by
    cases h
    exact .str x
  | .list ds, _, h => by
    cases h with
    | lst h1 h2 => exact .lst (e _ _ h1) (DA.same e ds _ h2)
  | .tuple ds, _, h => by
    cases h with
    | tup h1 h2 => exact .tup (sqT_same e h1) (DA.same e ds _ h2)
  | .dict ds, _, h => by
    cases h with
    | dic h1 h2 => exact .dic (e _ _ h1) (DK.same e ds _ h2)
theorem DA.same (e : Same H H') : ∀ (ds : List PyData) (vs : List V), DA K H vs ds → DA K H' vs ds
  | [], _, h => by
    cases h
    exact .nil
  | d :: ds, _, h => by
    cases h with
    | cons h1 h2 => exact .cons (D.same e d _ h1) (DA.same e ds _ h2)
theorem DK.same (e : Same H H') : ∀ (ds : List (PyData × PyData)) (vs : List (Key × V)), DK K H vs ds → DK K H' vs ds
  | [], _, h => by
    cases h
    exact .nil
  | (k, d) :: ds, _, h => by
    cases h with
    | cons h1 h2 => exact .cons (D.same e d _ h1) (DK.same e ds _ h2)
end
theorem D.mono {v : V} {d : PyData} (h : D K H v d) (e : Same H H') : D K H' v d := D.same e d v h
theorem DA.mono {v : List V} {d : List PyData} (h : DA K H v d) (e : Same H H') : DA K H' v d := DA.same e d v h
theorem DA.length : ∀ {vs : List V} {ds : List PyData}, DA K H vs ds → vs.length = ds.length
  | _, _, .nil => rfl
  | _, _, .cons _ h => congrArg (· + 1) h.length
theorem DA.append : ∀ {vs ws : List V} {ds es : List PyData}, DA K H vs ds → DA K H ws es → DA K H (vs ++ ws) (ds ++ es)
  | _, _, _, _, .nil, h => h
  | _, _, _, _, .cons a b, h => .cons a (b.append h)
theorem DA.get : ∀ {vs : List V} {ds : List PyData} {i : Nat} {d : PyData}, DA K H vs ds → ds[i]? = some d → ∃ v, vs[i]? = some v ∧ D K H v d
  | _, _, _, _, .nil, e => by simp at e
  | _, _, 0, _, .cons h _, e => by
    simp at e
    subst e
    exact ⟨_, rfl, h⟩
  | _, _, i + 1, d, .cons _ h, e => by
    obtain ⟨v, h1, h2⟩ := DA.get (i := i) (d := d) h (by simpa using e)
    exact ⟨v, by simpa using h1, h2⟩
theorem DA.getV : ∀ {vs : List V} {ds : List PyData} {i : Nat} {v : V}, DA K H vs ds → vs[i]? = some v → ∃ d, ds[i]? = some d ∧ D K H v d
  | _, _, _, _, .nil, e => by simp at e
  | _, _, 0, _, .cons h _, e => by
    simp at e
    subst e
    exact ⟨_, rfl, h⟩
  | _, _, i + 1, v, .cons _ h, e => by
    obtain ⟨d, h1, h2⟩ := DA.getV (i := i) (v := v) h (by simpa using e)
    exact ⟨d, by simpa using h1, h2⟩
theorem DA.bools : ∀ {vs : List V} {bs : List Bool}, DA K H vs (bs.map .bool) → vs = bs.map V.bl
  | _, [], h => by
    cases h
    rfl
  | _, b :: bs, h => by
    cases h with
    | cons h1 h2 =>
      cases h1
      rw [DA.bools h2]
      rfl
end

/-! ### what a value of this data is, for the kit -/
section
variable {X : Cx} {pins : List (Addr × Obj)} {σ : St} {H : Hp} {s : Shared}
theorem kv_of : ∀ {kvs : List (Key × V)} {vs : List (Key × Value)} {ds : List (PyData × PyData)}, KV kvs vs → DK X.K H kvs ds →
    ds.map (·.1) = vs.map (fun p => kD p.1) ∧ Vals (kvs.map (·.2)) (vs.map (·.2)) ∧ DA X.K H (kvs.map (·.2)) (ds.map (·.2))
  | _, _, _, .nil, .nil => ⟨rfl, .nil, .nil⟩
  | _, _, _, .cons r t, .cons h1 h2 => by
    obtain ⟨a, b, c⟩ := kv_of t h2
    refine ⟨?_, .cons r.2 b, .cons h1 c⟩
    rw [List.map_cons, List.map_cons, a]
    exact congrArg (kD · :: _) r.1
end
end LK
set_option Elab.async false
set_option linter.all false
set_option maxRecDepth 100000
set_option maxHeartbeats 4000000
/-! LK2: defs whose callers stand in no repr of a list, a tuple, a dict (the guards are told): the promise, the calls, the body, the law's end -/
namespace LK
open PySem PySem.Spec L2
open PyProof.Rows hiding St

/-- no repr of a container runs around -/
abbrev NoG (A : Around) : Prop := A.guards = some []

structure FnG (P : Program) (w : World) (K : PySem.W.Frag) (mg : Str → Option Value) (base : Heap) (CX : CXT)
    (k : Nat) (f : Addr) (fd : FuncData) (ps : List Str) (sp : Sp) : Prop where
  size : ∀ vs H Q E, sp vs H Q E → vs.length = ps.length
  go : ∀ A : Around, NoG A → Room k A → ∀ (outer : List Env) (s : Shared) (H : Hp), Env0 P w K mg base A outer s H →
    ∀ (args : Args) (us : List Value) (vs : List V) (Q : VK) (E : XK), BindsTo s fd args (ps.zip us) → Vals vs us → sp vs H Q E →
    codeAny (model P w) A (.call (.ref f) args) (CR CX outer P w H s Q E) s

section
variable {P : Program} {w : World} {K : PySem.W.Frag} {mg : Str → Option Value} {base : Heap} {CX : CXT} {j k : Nat} {f : Addr} {fd : FuncData} {ps : List Str} {sp sp' : Sp}
theorem FnG.up (F : FnG P w K mg base CX j f fd ps sp) (h : j ≤ k) : FnG P w K mg base CX k f fd ps sp :=
  ⟨F.size, fun A g hr => F.go A g (hr.mono h)⟩
theorem FnG.imp (F : FnG P w K mg base CX k f fd ps sp) (h : ∀ vs H Q E, sp' vs H Q E → sp vs H Q E) : FnG P w K mg base CX k f fd ps sp' :=
  ⟨fun vs H Q E q => F.size vs H Q E (h _ _ _ _ q), fun A g hr outer s H e args us vs Q E b r q => F.go A g hr outer s H e args us vs Q E b r (h _ _ _ _ q)⟩
end

/-- what is known of a def of the module by its name -/
structure Df (P : Program) (w : World) (K : PySem.W.Frag) (mg : Str → Option Value) (base : Heap) (CX : CXT) (k : Nat) (x : Str) (ps : List Str) (sp : Sp) : Prop where
  ex : ∃ (f : Addr) (fd : FuncData), FnG P w K mg base CX k f fd ps sp ∧ mg x = some (.ref f) ∧ PySem.W.keepIn K (.ref f) = true ∧ Binds K fd ps []
theorem Df.up {P : Program} {w : World} {K : PySem.W.Frag} {mg : Str → Option Value} {base : Heap} {CX : CXT} {j k : Nat} {x : Str} {ps : List Str} {sp : Sp}
    (F : Df P w K mg base CX j x ps sp) (h : j ≤ k) : Df P w K mg base CX k x ps sp := by
  obtain ⟨f, fd, a, b⟩ := F.ex
  exact ⟨f, fd, a.up h, b⟩

section
variable {X : Cx} {CX : CXT} {k : Nat} {f : Addr} {fd : FuncData} {ps ks : List Str} {sp : Sp} {E : XK} {x : Str} {p pos : Pos} {e : Expr} {es : List Expr} {kws : List Keyword} {t tk : TA}
theorem callee_end {pins : List (Addr × Obj)} {σ : St} {H : Hp} {s : Shared} {Q : VK} (hx : Passes CX X E) (I : Inv X pins σ H s) {r : Result} {s' : Shared}
    (h : CR CX X.stack X.prog X.w H s Q E r s') : callEnd (EP X pins σ Q) X.xe r s' := by
  rcases r with e | fl
  · exact hx pins σ H s e s' I h
  · cases fl
    case ret u => exact I.after h
    all_goals exact False.elim h
theorem run_g {pins : List (Addr × Obj)} {σ : St} {H : Hp} {s : Shared} {Q : VK} {us : List Value} {kw : List (Str × Value)} {vs : List V} {ws : List Value}
    (F : FnG X.prog X.w X.K X.mg X.base CX k f fd ps sp) (hg : NoG X.A) (hr : Room k X.A) (hb : BindsTo s fd ⟨us, kw⟩ (ps.zip ws)) (hx : Passes CX X E)
    (I : Inv X pins σ H s) (r : Vals vs ws) (h : sp vs H Q E) : wpAny (model X.prog X.w) X.A (call (.ref f) us kw) (EP X pins σ Q) X.xe s :=
  wpAny_call (codeAny_mono (F.go X.A hg hr X.stack s H I.env0 ⟨us, kw⟩ ws vs Q E hb r h) fun r' s' q => callee_end hx I q)

/-- f(e, ..), all parameters given -/
theorem pe_fn (F : Df X.prog X.w X.K X.mg X.base CX k x ps sp) (hg : NoG X.A) (hr : Room k X.A) (hgl : Gl X x) (hx : Passes CX X E)
    (ha : PA X (e :: es) t) (hdb : (x == ("__debug__" : Str)) = false := by decide) (he : starEach (e :: es) X.env = (false, eval e X.env) :: starEach es X.env := by rfl)
    (hpl : (backTo pos (starEach es X.env)).any (·.1) = false := by rfl) : PE X (.Call (.Name x p) (e :: es) [] pos) (tCall sp [] E t) := by
  obtain ⟨f, fd, G, hm, hk, hb⟩ := F.ex
  constructor
  intro pins s σ H Q I h
  apply wpAny_Call_Name_kw
  apply ld_glob I hgl hm _ hdb
  apply PySem.W.callWith_K (h₀ := X.base) I.ok.mod.kin hk _ he hpl
  apply thn (ha.run pos pins s σ H _ I h)
  rintro us s1 ⟨vs, H1, I1, r, q⟩
  have q' : sp vs H1 Q E := by simpa using q
  have l : (us ++ []).length = ps.length := by
    rw [List.append_nil, ← r.length]
    exact G.size _ _ _ _ q'
  have b := hb s1 us I1.kIn l
  rw [List.append_nil] at b
  exact ⟨I1.kIn, run_g G hg hr b hx I1 r q'⟩
/-- f(k = e), by names alone -/
structure KB0 (K : PySem.W.Frag) (fd : FuncData) (ps ks : List Str) (g : {α : Type} → List α → List α) : Prop where
  to : ∀ (s : Shared) (ws : List Value), K.In s.heap → ws.length = ks.length → BindsTo s fd ⟨[], ks.zip ws⟩ (ps.zip (g ws))
  rel : ∀ {zs : List V} {ws : List Value}, Vals zs ws → Vals (g zs) (g ws)
def tCallK0 (n : Nat) (sp : Sp) (g : List V → List V) (E : XK) (tk : TA) : TE := fun σ H Q => tk σ H fun zs H2 => zs.length = n ∧ sp (g zs) H2 Q E
theorem pe_fnK0 {g : {α : Type} → List α → List α} (G : FnG X.prog X.w X.K X.mg X.base CX k f fd ps sp) (hm : X.mg x = some (.ref f)) (hk : PySem.W.keepIn X.K (.ref f) = true)
    (hb : KB0 X.K fd ps ks g) (hg : NoG X.A) (hr : Room k X.A) (hgl : Gl X x) (hx : Passes CX X E) (hkw : PK X kws tk)
    (hall : (backToKw pos (keywordEach kws X.env)).all (·.1.isSome) = true := by rfl) (hks : (backToKw pos (keywordEach kws X.env)).filterMap (·.1) = ks := by rfl)
    (hdb : (x == ("__debug__" : Str)) = false := by decide)
    (hpl : ((backTo pos (starEach [] X.env)).any (·.1) || (backToKw pos (keywordEach kws X.env)).any (·.1.isNone)) = false := by rfl) :
    PE X (.Call (.Name x p) [] kws pos) (tCallK0 ks.length sp g E tk) := by
  constructor
  intro pins s σ H Q I h
  apply wpAny_Call_Name_kw
  apply ld_glob I hgl hm _ hdb
  apply PySem.W.callWith_KW0 (h₀ := X.base) I.ok.mod.kin hk hall _ hpl
  apply thn (hkw.run pos pins s σ H _ I h)
  rintro ws s2 ⟨zs, H2, I2, rz, l2, q2⟩
  refine ⟨I2.kIn, ?_⟩
  rw [hks]
  exact run_g (us := []) G hg hr (hb.to s2 ws I2.kIn (rz.length.symm.trans l2)) hx I2 (hb.rel rz) q2
end

section
variable {X : Cx} {CX : CXT} {k : Nat} {ps ks : List Str} {sp : Sp} {E : XK} {x : Str} {p pos : Pos} {kws : List Keyword} {tk : TA} {g : {α : Type} → List α → List α}
/-- a def that is called by names alone -/
structure DfK (P : Program) (w : World) (K : PySem.W.Frag) (mg : Str → Option Value) (base : Heap) (CX : CXT) (k : Nat) (x : Str) (ps ks : List Str) (g : {α : Type} → List α → List α) (sp : Sp) : Prop where
  ex : ∃ (f : Addr) (fd : FuncData), FnG P w K mg base CX k f fd ps sp ∧ mg x = some (.ref f) ∧ PySem.W.keepIn K (.ref f) = true ∧ KB0 K fd ps ks g
theorem pe_kw0 (F : DfK X.prog X.w X.K X.mg X.base CX k x ps ks g sp) (hg : NoG X.A) (hr : Room k X.A) (hgl : Gl X x) (hx : Passes CX X E) (hkw : PK X kws tk)
    (hall : (backToKw pos (keywordEach kws X.env)).all (·.1.isSome) = true := by rfl) (hks : (backToKw pos (keywordEach kws X.env)).filterMap (·.1) = ks := by rfl)
    (hdb : (x == ("__debug__" : Str)) = false := by decide)
    (hpl : ((backTo pos (starEach [] X.env)).any (·.1) || (backToKw pos (keywordEach kws X.env)).any (·.1.isNone)) = false := by rfl) :
    PE X (.Call (.Name x p) [] kws pos) (tCallK0 ks.length sp g E tk) := by
  obtain ⟨f, fd, G, hm, hk, hb⟩ := F.ex
  exact pe_fnK0 G hm hk hb hg hr hgl hx hkw hall hks hdb hpl
end
/-- the list as it is -/
def idL {α : Type} (l : List α) : List α := l

/-! ### a def's body -/
section
variable {P : Program} {w : World} {K : PySem.W.Frag} {mg : Str → Option Value} {base : Heap} {CX : CXT}
theorem fn_ofG {k : Nat} {f : Addr} {name qual : Str} {params : Arguments} {body : List Stmt} {scope : Scope} {dV kV doc pm cdv ct oc : Value} {an od : Option Addr} {osl : Array (Option Value)} {N ps : List Str} {sp : Sp}
    (lk : K.lookup f = some ⟨oc, od, .func (PySem.W.fnOf name qual params body scope dV kV doc pm an cdv ct), osl⟩) (hcd : PySem.W.codeIn K cdv qual = true) (S : FnScope N ps scope)
    (len : ∀ vs H Q E, sp vs H Q E → vs.length = ps.length)
    (hbody : ∀ (A : Around) (outer : List Env) (s : Shared) (H : Hp) (vs : List V) (Q : VK) (E : XK), NoG A → Room k (A.deeper (envOfC qual scope s.heap.objs.size f cdv)) → sp vs H Q E →
      ∃ t, PSs (cxOf CX P w K mg base N qual scope f cdv A outer s H E) body t ∧ t { nx := fun _ H' => Q .non H', rt := Q } (start N vs) H) :
    FnG P w K mg base CX (k + 1) f (PySem.W.fnOf name qual params body scope dV kV doc pm an cdv ct) ps sp := by
  constructor
  · exact len
  intro A hg hr outer s H e0 args us vs Q E hb r hsp
  have inK : K.In s.heap := e0.mod.kin.keeps fun b o e => (e0.bs b o e).1
  have nolim : s.heap.NoLimit := e0.mod.nolimit.keeps fun b o e => (e0.bs b o e).1
  have kinds : ∀ y ∈ ps.zip us, scope.names.lookup y.1 = some .local ∨ (scope.names.lookup y.1 = some .cell ∧ ((cellsFrom (s.heap.objs.size + 1) scope.names []).lookup y.1).isSome = true) := by
    rintro ⟨n, v⟩ hy
    rcases S.par n (List.of_mem_zip hy).1 with q | q
    · exact .inl q
    · exact .inr ⟨q, PySem.W.cellsFrom_some _ _ _ (.inl q)⟩
  apply codeAny_call_function hr.depth (inK _ _ lk) rfl S.co S.gen rfl (PySem.W.codeRec_of inK hcd)
  apply hb
  apply wpAny_newFunctionEnv_cells S.kind kinds
  rintro env rfl s1 x
  refine ⟨nolim.keeps x.toInCall.keep, ?_⟩
  apply codeAny_func
  obtain ⟨t, ht, hq⟩ := hbody A outer s H vs Q E hg (hr.deeper _) hsp
  have I := inv_start (CX := CX) (E := E) S hr.hd e0 (len _ _ _ _ hsp) r x
  apply wpAny_mono (ht.run [] s1 (start N vs) H _ I hq)
  · intro fl s' hs
    cases fl
    case ret u =>
      obtain ⟨v, σ', H', J, rv, q⟩ := hs
      exact ⟨v, H', J.os, J.bare, J.base, J.hok, rv, q⟩
    case next =>
      obtain ⟨σ', H', J, q⟩ := hs
      exact ⟨V.non, H', J.os, J.bare, J.base, J.hok, rfl, q⟩
    all_goals
      obtain ⟨_, _, _, q⟩ := hs
      exact False.elim q
  · intro e s' hs
    exact hs
/-- a def of the text out of which no exception comes -/
theorem fun_okG {x qual : Str} {st : Stmt} {f : Addr} {fd : FuncData} {N ps : List Str} {k : Nat} {sp : Sp} (F : Fun K x qual st f fd) (S : FnScope N ps (defScope st)) (len : ∀ vs H Q E, sp vs H Q E → vs.length = ps.length)
    (hbody : ∀ (cdv : Value) (A : Around) (outer : List Env) (s : Shared) (H : Hp) (vs : List V) (Q : VK) (E : XK), NoG A → Room k (A.deeper (envOfC qual (defScope st) s.heap.objs.size f cdv)) → sp vs H Q E →
      ∃ t, PSs (cxOf CX0 P w K mg base N qual (defScope st) f cdv A outer s H E).nox (defBody st) t ∧ t { nx := fun _ H' => Q .non H', rt := Q } (start N vs) H) : FnG P w K mg base CX0 (k + 1) f fd ps sp := by
  obtain ⟨oc, od, kV, doc, pm, an, cdv, ct, osl, rfl, lk, hcd⟩ := F.ex
  apply fn_ofG lk hcd S len
  intro A outer s H vs Q E hg hr hsp
  obtain ⟨t, h, q⟩ := hbody cdv A outer s H vs Q E hg hr hsp
  exact ⟨t, h.nox, q⟩
/-- .. out of which one may come -/
theorem fun_okXG {x qual : Str} {st : Stmt} {f : Addr} {fd : FuncData} {N ps : List Str} {k : Nat} {sp : Sp} (F : Fun K x qual st f fd) (S : FnScope N ps (defScope st)) (len : ∀ vs H Q E, sp vs H Q E → vs.length = ps.length)
    (hbody : ∀ (cdv : Value) (A : Around) (outer : List Env) (s : Shared) (H : Hp) (vs : List V) (Q : VK) (E : XK), NoG A → Room k (A.deeper (envOfC qual (defScope st) s.heap.objs.size f cdv)) → sp vs H Q E →
      ∃ t, PSs (cxOf (L2.CX P w) P w K mg base N qual (defScope st) f cdv A outer s H E) (defBody st) t ∧ t { nx := fun _ H' => Q .non H', rt := Q } (start N vs) H) : FnG P w K mg base (L2.CX P w) (k + 1) f fd ps sp := by
  obtain ⟨oc, od, kV, doc, pm, an, cdv, ct, osl, rfl, lk, hcd⟩ := F.ex
  exact fn_ofG lk hcd S len fun A outer s H vs Q E hg hr hsp => hbody cdv A outer s H vs Q E hg hr hsp
end

/-! ### the law's end -/
theorem law_callG {P : Program} {w : World} {K : PySem.W.Frag} {mg mb : Str → Option Value} {CX : CXT} {k : Nat} {fa a : Addr} {fd : FuncData} {x : Str} {sp : Sp} {s₁ : Shared} {vs : List Value} {ns : List Int}
    (KX : K.In s₁.heap) (hns : s₁.heap.Ns mainGlobals mg) (hb : s₁.heap.Ns builtinsNs mb) (hbb : ∀ x : Str, x ≠ "__name__" → mb x = bootBuiltins x) (hlim : s₁.heap.NoLimit) (hg : s₁.gens = #[])
    (ha : s₁.heap.get? a = some { cls := .type "list", data := .seq vs.toArray }) (hi : IntsAre vs ns) (hl : ns.length ≤ sizeLine) (hr : Room k callerA)
    (F : ∀ base : Heap, K.In base → base.Ns mainGlobals mg → FnG P w K mg base CX k fa fd [x] sp) (hbind : ∀ (s : Shared) (u : Value), BindsTo s fd ⟨[u], []⟩ [(x, u)])
    (hsp : ∀ H : Hp, Only H → SqL K H a (ns.map V.int) → sp [.ref a] H (fun v _ => v = .bl true) fun _ _ _ => False)
    (hCX : ∀ H e s', CX [] H s₁ (fun _ _ _ => False) e s' → False) :
    codeAny (model P w) callerA (.call (.ref fa) ⟨[.ref a], []⟩) (fun r s' => r = .ok (.ret (.bool true)) ∧ OldK s₁.heap s'.heap ∧ s'.os = s₁.os ∧ AllBare s'.gens) s₁ := by
  have rv := vals_ints hi
  have core : ∀ H : Hp, Only H → SqL K H a (ns.map V.int) → HOk P w H s₁.heap → (∀ b, H b ≠ none → b = a) → (H a ≠ none → K.lookup a = none) →
      codeAny (model P w) callerA (.call (.ref fa) ⟨[.ref a], []⟩) (fun r s' => r = .ok (.ret (.bool true)) ∧ OldK s₁.heap s'.heap ∧ s'.os = s₁.os ∧ AllBare s'.gens) s₁ := by
    intro H only sq ok one outK
    have stay : ∀ {b : Addr} {o : Obj}, s₁.heap.get? b = some o → H b = none → (hidT s₁.heap H).get? b = some o := fun e n => hidT_get e n
    have free_of : ∀ {b : Addr}, (b = a → H a = none) → H b = none := fun {b} h => by
      cases q : H b with
      | none => rfl
      | some u =>
        have e' : b = a := one b (by simp [q])
        rw [e', h e'] at q
        cases q
    have dict_free : ∀ {b : Addr} {o : Obj} {es : Array DictEntry} {ep : Nat}, s₁.heap.get? b = some o → o.data = .dict es ep → H b = none := fun {b o es ep} e d => by
      cases q : H b with
      | none => rfl
      | some u =>
        obtain rfl : b = a := one b (by simp [q])
        rw [ha] at e
        injection e with e
        subst e
        cases d
    have ns_stay : ∀ {b : Addr} {m : Str → Option Value}, s₁.heap.Ns b m → (hidT s₁.heap H).Ns b m := by
      rintro b m ⟨o, es, ep, e, d, r⟩
      exact ⟨o, es, ep, stay e (dict_free e d), d, r⟩
    have inB : K.In (hidT s₁.heap H) := by
      intro b o e
      refine stay (KX b o e) ?_
      cases q : H b with
      | none => rfl
      | some u =>
        obtain rfl : b = a := one b (by simp [q])
        rw [outK (by simp [q])] at e
        cases e
    obtain ⟨mc, l1, l2⟩ := hlim
    have modOk : Mod K mg (hidT s₁.heap H) := ⟨inB, ns_stay hns, ⟨mb, ns_stay hb, hbb⟩, ⟨mc, ns_stay l1, l2⟩⟩
    have env : Env0 P w K mg (hidT s₁.heap H) callerA [] s₁ H := by
      refine ⟨rfl, modOk, fun b o e => of_hidT e, ?_, trivial, ?_, ok, .of_eq hg⟩
      · exact Nat.le_of_eq (hidT_size _ _)
      · intro b m
        exact absurd (show b ∈ ([] : List Addr) from m) (by simp)
    have run := (F _ inB (ns_stay hns)).go callerA rfl hr [] s₁ H env ⟨[.ref a], []⟩ [.ref a] [.ref a] _ _ (hbind s₁ (.ref a)) (.cons rfl .nil) (hsp H only sq)
    apply codeAny_mono run
    intro r s' h
    rcases r with e | fl
    · exact (hCX H e s' h).elim
    cases fl
    case ret u =>
      obtain ⟨v, H', os, bare, un, hok', r', rfl⟩ := h
      obtain rfl : u = Value.bool true := r'
      refine ⟨rfl, OldK.of_keep ?_, os, bare⟩
      intro b o e
      cases q : H b with
      | none => exact un.keep b o e q (fun z => absurd (show b ∈ ([] : List Addr) from z) (by simp)) (by simp)
      | some u =>
        rcases only b with z | ⟨ob, xs, z⟩
        · rw [q] at z
          cases z
        · have e1 := (ok b _ z).1
          have e2 := (hok' b _ (un.frzs b ob _ z)).1
          rw [e] at e1
          injection e1 with e1
          rw [e1]
          exact e2
    all_goals exact False.elim h
  have len : vs.toArray.size ≤ sizeLine := by
    rw [List.size_toArray, hi.length]
    exact hl
  cases hk : K.lookup a with
  | some o =>
    have e := KX a o hk
    rw [ha] at e
    injection e with e
    subst e
    refine core (fun _ => none) (fun _ => .inl rfl) (.inr ⟨_, vs.toArray, _, hk, rfl, rfl, rfl, len, by simpa using rv⟩) ?_ ?_ ?_
    · intro b u z
      cases z
    · intro b z
      exact absurd rfl z
    · intro z
      exact absurd rfl z
  | none =>
    let G : Hp := fun b => if b = a then some (.frz { cls := .type "list", data := .seq vs.toArray } (.lst (ns.map V.int))) else none
    have G1 : G a = some (.frz { cls := .type "list", data := .seq vs.toArray } (.lst (ns.map V.int))) := if_pos rfl
    have G2 : ∀ b, b ≠ a → G b = none := fun b h => if_neg h
    refine core G ?_ (.inl (.inr ⟨_, G1⟩)) ?_ ?_ fun _ => hk
    · intro b
      by_cases h : b = a
      · rw [h]
        exact .inr ⟨_, _, G1⟩
      · exact .inl (G2 b h)
    · intro b u z
      by_cases h : b = a
      · subst h
        rw [G1] at z
        injection z with z
        subst z
        exact ⟨ha, by rw [List.length_map]; exact hl, vs, _, rv, ha⟩
      · rw [G2 b h] at z
        cases z
    · intro b z
      by_cases h : b = a
      · exact h
      · exact absurd (G2 b h) z
theorem walk_ofG {l : PySem.W.OpenLaw} {n k : Nat} {q : Program} {loose : List Str} {XP : (Str → Option Value) → Heap → Prop} {YP : World → Heap → Prop} {d : DefRec} {K : Params → PySem.W.Frag} {CX : World → CXT} {sp : World → Sp} {x : Str}
    (hn : l.most = some n) (hn2 : n ≤ sizeLine) (hdf : d.params.defaults = []) (hr : Room k callerA) (hY : ∀ (w : World) (h : Heap), YP w h → (K w.params).In h)
    (F : ∀ (w : World) (mg : Str → Option Value) (fa : Addr) (h : Heap), (K w.params).In h → h.Ns mainGlobals mg → mg d.name = some (.ref fa) →
      ∃ fd : FuncData, (∀ (s : Shared) (u : Value), BindsTo s fd ⟨[u], []⟩ [(x, u)]) ∧
        ∀ base : Heap, (K w.params).In base → base.Ns mainGlobals mg → FnG l.prog w (K w.params) mg base (CX w) k fa fd [x] (sp w))
    (hsp : ∀ (w : World) (H : Hp) (a : Addr) (ns : List Int), ns.length ≤ n → Only H → SqL (K w.params) H a (ns.map V.int) → sp w [.ref a] H (fun v _ => v = .bl true) fun _ _ _ => False)
    (hCX : ∀ (w : World) (H : Hp) (s : Shared) (e : Value) (s' : Shared), CX w [] H s (fun _ _ _ => False) e s' → False) :
    PySem.W.WalkO q loose XP YP l.row.toRowW d [] (fun f vs => PySem.call f vs) := by
  apply Att.attach_call hn hdf
  intro w s₀ s₁ mg mb fa o pm cd doc a vs ns G Y ho hd hcd hmg hobj hints hlen hg
  obtain ⟨fd, hb, hF⟩ := F w mg fa _ (hY w _ Y) G.T.g hmg
  apply law_callG (hY w _ Y) G.T.g G.T.b G.T.builtins G.T.nolimit hg hobj hints (Nat.le_trans hlen hn2) hr hF hb
  · intro H hO hS
    exact hsp w H a ns hlen hO hS
  · intro H e s'
    exact hCX w H s₁ e s'
end LK
set_option Elab.async false
set_option linter.all false
set_option maxRecDepth 100000
set_option maxHeartbeats 4000000
/-! LK3: what an expression comes to: Ev (a value of some data), EvT (a test), EvA (arguments); statements. G: the part of the heap that one knows -/
namespace LK
open PySem PySem.Spec L2
open PyProof.Rows hiding St

section
variable (K : PySem.W.Frag) (a : Addr) (G : Hp)
def Ev (te : TE) (σ : St) (C : PyData → Prop) : Prop :=
  ∀ S H1, Fr a S H1 → Same G (off S H1) → ∀ Q : VK, (∀ v d H2, Ext a H1 H2 → D K (off S H2) v d → C d → Q v H2) → te σ H1 Q
def EvT (tt : TT) (σ : St) (C : Bool → Prop) : Prop :=
  ∀ S H1, Fr a S H1 → Same G (off S H1) → ∀ Q : Bool → Hp → Prop, (∀ b H2, Ext a H1 H2 → C b → Q b H2) → tt σ H1 Q
def EvA (ta : TA) (σ : St) (C : List PyData → Prop) : Prop :=
  ∀ S H1, Fr a S H1 → Same G (off S H1) → ∀ Q : List V → Hp → Prop, (∀ vs ds H2, Ext a H1 H2 → DA K (off S H2) vs ds → C ds → Q vs H2) → ta σ H1 Q
end

section
variable {K : PySem.W.Frag} {a : Addr} {S : List Addr} {σ : St} {G G' H H' : Hp} {ta tb tc te : TE} {t u : TT} {tr : TA} {C C1 C2 C3 : PyData → Prop} {B B1 B2 : Bool → Prop} {A1 A2 : List PyData → Prop}
theorem Fr.same (f : Fr a S H) (x : Ext a H H') (s : Same G (off S H)) : Same G (off S H') := s.trans (x.off f.mem)

/-! ### weakening -/
theorem Ev.at (h : Ev K a G te σ C) (e : Same G G') : Ev K a G' te σ C := fun S H1 f s => h S H1 f (e.trans s)
theorem EvT.at (h : EvT a G t σ B) (e : Same G G') : EvT a G' t σ B := fun S H1 f s => h S H1 f (e.trans s)
theorem EvA.at (h : EvA K a G tr σ A1) (e : Same G G') : EvA K a G' tr σ A1 := fun S H1 f s => h S H1 f (e.trans s)
theorem Ev.imp (h : Ev K a G te σ C1) (i : ∀ d, C1 d → C2 d) : Ev K a G te σ C2 := fun S H1 f s Q q =>
  h S H1 f s Q fun v d H2 e m c => q v d H2 e m (i d c)
theorem EvT.imp (h : EvT a G t σ B1) (i : ∀ d, B1 d → B2 d) : EvT a G t σ B2 := fun S H1 f s Q q => h S H1 f s Q fun v H2 e c => q v H2 e (i v c)
theorem EvA.imp (h : EvA K a G tr σ A1) (i : ∀ d, A1 d → A2 d) : EvA K a G tr σ A2 := fun S H1 f s Q q =>
  h S H1 f s Q fun v d H2 e m c => q v d H2 e m (i d c)

/-! ### names, constants -/
theorem ev_var {i : Nat} {v : V} {d : PyData} (h : σ[i]? = some (some v)) (m : D K G v d) : Ev K a G (tVar i) σ (· = d) := fun S H1 f s Q q =>
  ⟨v, h, q v d H1 Ext.refl (m.mono s) rfl⟩
theorem ev_c {v : V} {d : PyData} (m : D K (fun _ => none) v d) : Ev K a G (tC v) σ (· = d) := fun S H1 f s Q q =>
  q v d H1 Ext.refl (m.mono fun _ _ e => nomatch e) rfl
theorem ev_i {i : Int} : Ev K a G (tC (.int i)) σ (· = .int i) := ev_c (.int i)
theorem ev_s {i : Str} : Ev K a G (tC (.str i)) σ (· = .str i) := ev_c (.str i)
theorem ev_b {i : Bool} : Ev K a G (tC (.bl i)) σ (· = .bool i) := ev_c (.bl i)
theorem ev_n : Ev K a G (tC .non) σ (· = .none) := ev_c .non

/-! ### two parts, by values -/
/-- what an operation on values gives -/
def R2D (K : PySem.W.Frag) (a : Addr) (r : R2) (d e : PyData) (C : PyData → Prop) : Prop :=
  ∀ S H x y, Fr a S H → D K (off S H) x d → D K (off S H) y e → ∀ Q : VK, (∀ v z H2, Ext a H H2 → D K (off S H2) v z → C z → Q v H2) → r x y H Q
theorem ev_op {r : R2} (ha : Ev K a G ta σ C1) (hb : Ev K a G tb σ C2) (hr : ∀ d e, C1 d → C2 e → R2D K a r d e C) : Ev K a G (tOp r ta tb) σ C := fun S H1 f s Q q =>
  ha S H1 f s _ fun v d H2 x2 m c => hb S H2 (f.ext x2) (f.same x2 s) _ fun w e H3 x3 m3 c3 =>
    hr d e c c3 S H3 v w ((f.ext x2).ext x3) (m.mono (x3.off f.mem)) m3 Q fun z g H4 x4 m4 c4 => q z g H4 ((x2.trans x3).trans x4) m4 c4
theorem ev_un {r : V → Hp → VK → Prop} (ha : Ev K a G ta σ C1)
    (hr : ∀ d, C1 d → ∀ S H x, Fr a S H → D K (off S H) x d → ∀ Q : VK, (∀ v z H2, Ext a H H2 → D K (off S H2) v z → C z → Q v H2) → r x H Q) : Ev K a G (tUn r ta) σ C := fun S H1 f s Q q =>
  ha S H1 f s _ fun v d H2 x2 m c => hr d c S H2 v (f.ext x2) m Q fun z g H3 x3 m3 c3 => q z g H3 (x2.trans x3) m3 c3

/-! ints -/
theorem r2_I {c : Int → Int → Prop} {g : Int → Int → V} {i j : Int} {z : PyData} (hc : c i j) (hz : ∀ H, D K H (g i j) z) (cz : C z) : R2D K a (rI c g) (.int i) (.int j) C := by
  intro S H x y f mx my Q q
  cases mx
  cases my
  exact ⟨i, j, rfl, rfl, hc, q _ z H Ext.refl (hz _) cz⟩
theorem r2_I0 {g : Int → Int → V} {i j : Int} {z : PyData} (hz : ∀ H, D K H (g i j) z) (cz : C z) : R2D K a (rI0 g) (.int i) (.int j) C := by
  intro S H x y f mx my Q q
  cases mx
  cases my
  exact ⟨i, j, rfl, rfl, q _ z H Ext.refl (hz _) cz⟩
/-- ints of some kind -/
abbrev IsI (c : Int → Prop) : PyData → Prop := fun d => ∃ i, d = .int i ∧ c i
abbrev IsB (c : Bool → Prop) : PyData → Prop := fun d => ∃ i, d = .bool i ∧ c i
theorem ev_isI {c : Int → Prop} {i : Int} (h : Ev K a G te σ (· = .int i)) (hc : c i) : Ev K a G te σ (IsI c) := h.imp fun d e => ⟨i, e, hc⟩
theorem ev_int2 {cI cJ cR : Int → Prop} {c : Int → Int → Prop} {g : Int → Int → Int} (ha : Ev K a G ta σ (IsI cI)) (hb : Ev K a G tb σ (IsI cJ))
    (hr : ∀ i j, cI i → cJ j → c i j ∧ cR (g i j)) : Ev K a G (tOp (rI c fun i j => .int (g i j)) ta tb) σ (IsI cR) := by
  refine ev_op ha hb ?_
  rintro _ _ ⟨i, rfl, hi⟩ ⟨j, rfl, hj⟩
  obtain ⟨h1, h2⟩ := hr i j hi hj
  exact r2_I h1 (fun _ => .int _) ⟨_, rfl, h2⟩
theorem ev_int20 {cI cJ cR : Int → Prop} {g : Int → Int → Int} (ha : Ev K a G ta σ (IsI cI)) (hb : Ev K a G tb σ (IsI cJ))
    (hr : ∀ i j, cI i → cJ j → cR (g i j)) : Ev K a G (tOp (rI0 fun i j => .int (g i j)) ta tb) σ (IsI cR) := by
  refine ev_op ha hb ?_
  rintro _ _ ⟨i, rfl, hi⟩ ⟨j, rfl, hj⟩
  exact r2_I0 (fun _ => .int _) ⟨_, rfl, hr i j hi hj⟩
/-- a comparison of ints -/
theorem ev_cmpI {cI cJ : Int → Prop} {cB : Bool → Prop} {g : Int → Int → Bool} (ha : Ev K a G ta σ (IsI cI)) (hb : Ev K a G tb σ (IsI cJ))
    (hr : ∀ i j, cI i → cJ j → cB (g i j)) : Ev K a G (tOp (rI0 fun i j => .bl (g i j)) ta tb) σ (IsB cB) := by
  refine ev_op ha hb ?_
  rintro _ _ ⟨i, rfl, hi⟩ ⟨j, rfl, hj⟩
  exact r2_I0 (fun _ => .bl _) ⟨_, rfl, hr i j hi hj⟩

/-! ### tests -/
theorem et_val (h : Ev K a G te σ (IsB B)) : EvT a G (tB te) σ B := fun S H1 f s Q q => h S H1 f s _ fun v d H2 x2 m c => by
  obtain ⟨b, rfl, hB⟩ := c
  cases m
  exact ⟨b, rfl, q b H2 x2 hB⟩
theorem et_test (h : Ev K a G te σ (IsB B)) : EvT a G (tTest te) σ B := fun S H1 f s Q q => h S H1 f s _ fun v d H2 x2 m c => by
  obtain ⟨b, rfl, hB⟩ := c
  cases m
  exact ⟨b, rfl, q b H2 x2 hB⟩
theorem et_not (h : EvT a G t σ B1) (hb : ∀ b, B1 b → B (!b)) : EvT a G (tNot t) σ B := fun S H1 f s Q q => h S H1 f s _ fun b H2 x2 c => q _ H2 x2 (hb b c)
theorem et_and (h1 : EvT a G t σ B1) (h2 : B1 true → EvT a G u σ B) (h3 : B1 false → B false) : EvT a G (tAnd t u) σ B := fun S H1 f s Q q => h1 S H1 f s _ fun b H2 x2 c => by
  cases b with
  | true => exact h2 c S H2 (f.ext x2) (f.same x2 s) Q fun b H3 x3 => q b H3 (x2.trans x3)
  | false => exact q false H2 x2 (h3 c)
theorem et_or (h1 : EvT a G t σ B1) (h2 : B1 false → EvT a G u σ B) (h3 : B1 true → B true) : EvT a G (tOr t u) σ B := fun S H1 f s Q q => h1 S H1 f s _ fun b H2 x2 c => by
  cases b with
  | false => exact h2 c S H2 (f.ext x2) (f.same x2 s) Q fun b H3 x3 => q b H3 (x2.trans x3)
  | true => exact q true H2 x2 (h3 c)
theorem ev_andV (h1 : Ev K a G ta σ (IsB B)) (h2 : B true → Ev K a G tb σ C) (h3 : B false → C (.bool false)) : Ev K a G (tAndV ta tb) σ C := fun S H1 f s Q q =>
  h1 S H1 f s _ fun v d H2 x2 m c => by
    obtain ⟨b, rfl, hB⟩ := c
    cases m
    refine ⟨b, rfl, ?_⟩
    cases b with
    | true => exact h2 hB S H2 (f.ext x2) (f.same x2 s) Q fun v d H3 x3 => q v d H3 (x2.trans x3)
    | false => exact q _ _ H2 x2 (.bl _) (h3 hB)
theorem ev_orV (h1 : Ev K a G ta σ (IsB B)) (h2 : B false → Ev K a G tb σ C) (h3 : B true → C (.bool true)) : Ev K a G (tOrV ta tb) σ C := fun S H1 f s Q q =>
  h1 S H1 f s _ fun v d H2 x2 m c => by
    obtain ⟨b, rfl, hB⟩ := c
    cases m
    refine ⟨b, rfl, ?_⟩
    cases b with
    | false => exact h2 hB S H2 (f.ext x2) (f.same x2 s) Q fun v d H3 x3 => q v d H3 (x2.trans x3)
    | true => exact q _ _ H2 x2 (.bl _) (h3 hB)
theorem ev_notV (h1 : Ev K a G ta σ (IsB fun b => C (.bool (!b)))) : Ev K a G (tNotV ta) σ C := fun S H1 f s Q q => h1 S H1 f s _ fun v d H2 x2 m c => by
  obtain ⟨b, rfl, hB⟩ := c
  cases m
  exact ⟨b, rfl, q _ _ H2 x2 (.bl _) hB⟩
theorem ev_if (h : EvT a G t σ B) (h1 : B true → Ev K a G ta σ C) (h2 : B false → Ev K a G tb σ C) : Ev K a G (tIf t ta tb) σ C := fun S H1 f s Q q => h S H1 f s _ fun b H2 x2 c => by
  cases b with
  | true => exact h1 c S H2 (f.ext x2) (f.same x2 s) Q fun v d H3 x3 => q v d H3 (x2.trans x3)
  | false => exact h2 c S H2 (f.ext x2) (f.same x2 s) Q fun v d H3 x3 => q v d H3 (x2.trans x3)

/-! ### arguments, displays -/
theorem ea_nil : EvA K a G tNil σ (· = []) := fun S H1 f s Q q => q [] [] H1 Ext.refl .nil rfl
theorem ea_cons (h : Ev K a G te σ C) (hr : EvA K a G tr σ A1) : EvA K a G (tCons te tr) σ (fun ds => ∃ d r, ds = d :: r ∧ C d ∧ A1 r) := fun S H1 f s Q q =>
  h S H1 f s _ fun v d H2 x2 m c => hr S H2 (f.ext x2) (f.same x2 s) _ fun vs ds H3 x3 m3 c3 => q _ _ H3 (x2.trans x3) (.cons (m.mono (x3.off f.mem)) m3) ⟨d, ds, rfl, c, c3⟩
/-- written items, each exactly known -/
theorem ea_eq {d : PyData} {ds : List PyData} (h : Ev K a G te σ (· = d)) (hr : EvA K a G tr σ (· = ds)) : EvA K a G (tCons te tr) σ (· = d :: ds) :=
  (ea_cons h hr).imp fun _ ⟨_, _, e, e1, e2⟩ => by rw [e, e1, e2]
theorem same_off_new {p : Addr} {o : HO} (hp : H p = none) : Same (off S H) (off S (upd H p o)) := fun b u e => off_mk (off_some e).1 (same_new hp b u (off_some e).2)
theorem D.new_tup {p : Addr} {vs : List V} {ds : List PyData} (hp : H p = none) (hS : p ∉ S) (m : DA K (off S H) vs ds) : D K (off S (upd H p (.tup vs))) (.ref p) (.tuple ds) :=
  .tup (.inl (.inl (off_mk hS upd_same))) (m.mono (same_off_new hp))
theorem D.new_lst {p : Addr} {vs : List V} {ds : List PyData} (hp : H p = none) (hS : p ∉ S) (m : DA K (off S H) vs ds) : D K (off S (upd H p (.lst vs))) (.ref p) (.list ds) :=
  .lst (off_mk hS upd_same) (m.mono (same_off_new hp))
theorem ev_tup (h : EvA K a G tr σ A1) (hl : ∀ ds, A1 ds → ds.length ≤ 1000) : Ev K a G (tTup tr) σ (fun d => ∃ ds, d = .tuple ds ∧ A1 ds) := fun S H1 f s Q q => h S H1 f s _ fun vs ds H2 x2 m c =>
  ⟨by rw [m.length]; exact Nat.le_of_lt (small1000 (hl ds c)), fun p hp => q _ _ _ (x2.trans (Ext.new hp)) (D.new_tup hp ((f.ext x2).out hp) m) ⟨ds, rfl, c⟩⟩
theorem ev_lst (h : EvA K a G tr σ A1) (hl : ∀ ds, A1 ds → ds.length ≤ 1000) : Ev K a G (tLst tr) σ (fun d => ∃ ds, d = .list ds ∧ A1 ds) := fun S H1 f s Q q => h S H1 f s _ fun vs ds H2 x2 m c =>
  ⟨by rw [m.length]; exact Nat.le_of_lt (small1000 (hl ds c)), fun p hp => q _ _ _ (x2.trans (Ext.new hp)) (D.new_lst hp ((f.ext x2).out hp) m) ⟨ds, rfl, c⟩⟩
theorem ev_tupE {ds : List PyData} (h : EvA K a G tr σ (· = ds)) (hl : ds.length ≤ 1000) : Ev K a G (tTup tr) σ (· = .tuple ds) := (ev_tup h fun _ e => by rw [e]; exact hl).imp fun _ ⟨_, e, e'⟩ => by rw [e, e']
theorem ev_lstE {ds : List PyData} (h : EvA K a G tr σ (· = ds)) (hl : ds.length ≤ 1000) : Ev K a G (tLst tr) σ (· = .list ds) := (ev_lst h fun _ e => by rw [e]; exact hl).imp fun _ ⟨_, e, e'⟩ => by rw [e, e']

/-! ### calls -/
/-- what a built-in gives for data -/
def RCD (K : PySem.W.Frag) (a : Addr) (r : List V → Hp → VK → Prop) (ds : List PyData) (C : PyData → Prop) : Prop :=
  ∀ S H vs, Fr a S H → DA K (off S H) vs ds → ∀ Q : VK, (∀ v z H2, Ext a H H2 → D K (off S H2) v z → C z → Q v H2) → r vs H Q
theorem ev_cb {r : List V → Hp → VK → Prop} (h : EvA K a G tr σ A1) (hr : ∀ ds, A1 ds → RCD K a r ds C) : Ev K a G (tCB r tr) σ C := fun S H1 f s Q q =>
  h S H1 f s _ fun vs ds H2 x2 m c => hr ds c S H2 vs (f.ext x2) m Q fun z g H3 x3 m3 c3 => q z g H3 (x2.trans x3) m3 c3
/-- a def's promise, by data: asked and given -/
def spG (K : PySem.W.Frag) (pre : List PyData → Prop) (post : List PyData → PyData → Prop) : Sp := fun vs H Q _ => ∃ (a : Addr) (S : List Addr) (ds : List PyData),
  Fr a S H ∧ DA K (off S H) vs ds ∧ pre ds ∧ ∀ v d H', Ext a H H' → D K (off S H') v d → post ds d → Q v H'
/-- the same with the pot as the first argument -/
def spP (K : PySem.W.Frag) (pre : List PyData → Prop) (post : List PyData → PyData → Prop) : Sp := fun vs H Q _ => ∃ (a : Addr) (S : List Addr) (ws : List V) (ds : List PyData),
  vs = .ref a :: ws ∧ Fr a S H ∧ DA K (off S H) ws ds ∧ pre ds ∧ ∀ v d H', Ext a H H' → D K (off S H') v d → post ds d → Q v H'
theorem spG_len {pre : List PyData → Prop} {post : List PyData → PyData → Prop} {n : Nat} (hp : ∀ ds, pre ds → ds.length = n) {vs : List V} {H : Hp} {Q : VK} {E : XK} (h : spG K pre post vs H Q E) : vs.length = n := by
  obtain ⟨a, S, ds, _, m, p, _⟩ := h
  rw [m.length]
  exact hp ds p
theorem spP_len {pre : List PyData → Prop} {post : List PyData → PyData → Prop} {n : Nat} (hp : ∀ ds, pre ds → ds.length = n) {vs : List V} {H : Hp} {Q : VK} {E : XK} (h : spP K pre post vs H Q E) : vs.length = n + 1 := by
  obtain ⟨a, S, ws, ds, rfl, _, m, p, _⟩ := h
  rw [List.length_cons, m.length, hp ds p]
theorem ev_callG {pre : List PyData → Prop} {post : List PyData → PyData → Prop} {E : XK} (h : EvA K a G tr σ A1) (hp : ∀ ds, A1 ds → pre ds) (hc : ∀ ds d, A1 ds → post ds d → C d) :
    Ev K a G (tCall (spG K pre post) [] E tr) σ C := fun S H1 f s Q q => h S H1 f s _ fun vs ds H2 x2 m c =>
  ⟨a, S, ds, f.ext x2, by rw [List.append_nil]; exact m, hp ds c, fun v d H3 x3 m3 p => q v d H3 (x2.trans x3) m3 (hc ds d c p)⟩
theorem ev_callP {pre : List PyData → Prop} {post : List PyData → PyData → Prop} {E : XK} {i : Nat} (hi : σ[i]? = some (some (.ref a))) (h : EvA K a G tr σ A1) (hp : ∀ ds, A1 ds → pre ds) (hc : ∀ ds d, A1 ds → post ds d → C d) :
    Ev K a G (tCall (spP K pre post) [] E (tCons (tVar i) tr)) σ C := fun S H1 f s Q q => ⟨.ref a, hi, h S H1 f s _ fun vs ds H2 x2 m c =>
  ⟨a, S, vs, ds, by rw [List.append_nil], f.ext x2, m, hp ds c, fun v d H3 x3 m3 p => q v d H3 (x2.trans x3) m3 (hc ds d c p)⟩⟩
theorem ev_callK0 {pre : List PyData → Prop} {post : List PyData → PyData → Prop} {E : XK} {n : Nat} {g : {α : Type} → List α → List α} (h : EvA K a G tr σ A1) (hn : ∀ ds, A1 ds → ds.length = n)
    (hg : ∀ {H : Hp} {vs : List V} {ds : List PyData}, vs.length = n → DA K H vs ds → DA K H (g vs) (g ds)) (hp : ∀ ds, A1 ds → pre (g ds)) (hc : ∀ ds d, A1 ds → post (g ds) d → C d) :
    Ev K a G (tCallK0 n (spG K pre post) g E tr) σ C := fun S H1 f s Q q => h S H1 f s _ fun vs ds H2 x2 m c =>
  ⟨by rw [m.length]; exact hn ds c, a, S, g ds, f.ext x2, hg (by rw [m.length]; exact hn ds c) m, hp ds c, fun v d H3 x3 m3 p => q v d H3 (x2.trans x3) m3 (hc ds d c p)⟩

/-! ### statements -/
variable {Dn : Ends} {t1 t2 : TS}
theorem q_set {i : Nat} (h : Ev K a G te σ C) (f : Fr a S H) (s : Same G (off S H)) (q : ∀ v d H', Ext a H H' → Fr a S H' → D K (off S H') v d → C d → Dn.nx (σ.set i (some v)) H') : tAsg te (gName i) Dn σ H :=
  h S H f s _ fun v d H2 x m c => q v d H2 x (f.ext x) m c
theorem q_ret (h : Ev K a G te σ C) (f : Fr a S H) (s : Same G (off S H)) (q : ∀ v d H', Ext a H H' → D K (off S H') v d → C d → Dn.rt v H') : tRet te Dn σ H :=
  h S H f s _ fun v d H2 x m c => q v d H2 x m c
theorem q_drop (h : Ev K a G te σ C) (f : Fr a S H) (s : Same G (off S H)) (q : ∀ H', Ext a H H' → Fr a S H' → Dn.nx σ H') : tDrop te Dn σ H :=
  h S H f s _ fun v d H2 x m c => q H2 x (f.ext x)
theorem q_if (h : EvT a G t σ B) (f : Fr a S H) (s : Same G (off S H)) (q1 : ∀ H', Ext a H H' → Fr a S H' → B true → t1 Dn σ H') (q2 : ∀ H', Ext a H H' → Fr a S H' → B false → t2 Dn σ H') : tIfS t t1 t2 Dn σ H :=
  h S H f s _ fun b H2 x c => by
    cases b with
    | true => exact q1 H2 x (f.ext x) c
    | false => exact q2 H2 x (f.ext x) c

/-! ### comprehensions: what is walked comes to n items, the j-th of data in X j; every item gives one of data in Y -/
theorem ev_lc {wi : TI} {tt : TT} {vs : List Nat} {j : Nat} {N : Nat → Prop} {J : Nat → It} {Y : Nat → PyData → Prop}
    (hw : ∀ S H1, Fr a S H1 → Same G (off S H1) → ∀ R : It → Hp → Prop, (∀ n H2, Ext a H1 H2 → N n → R (J n) H2) → wi σ H1 R)
    (hgo : ∀ n i H', N n → i < n → (J n).go i H') (hst : ∀ n i H', N n → n ≤ i → (J n).stop i H')
    (hb : ∀ n i, N n → i < n → ∀ H' x H2, (J n).yld i H' x H2 → H2 = H' ∧ wipe ((wipe σ vs).set j (some x)) vs = wipe σ vs ∧ EvT a G tt ((wipe σ vs).set j (some x)) (· = true) ∧ Ev K a G te ((wipe σ vs).set j (some x)) (Y i))
    (hn : ∀ n, N n → n < 100000) :
    Ev K a G (tLc wi (gName j) tt te vs) σ (fun d => ∃ n ds, N n ∧ d = .list ds ∧ ds.length = n ∧ ∀ i z, ds[i]? = some z → Y i z) := by
  intro S H1 f s Q q
  refine hw S H1 f s _ fun n H2 x2 hN L hL => ?_
  have f2 := f.ext x2
  have hLS := f2.out hL
  refine ⟨fun i m H' => m = n - i ∧ i ≤ n ∧ Ext a H2 H' ∧ ∃ acc ds, H' L = some (.lst acc) ∧ DA K (off (L :: S) H') acc ds ∧ ds.length = i ∧ ∀ i z, ds[i]? = some z → Y i z,
    ⟨n, by simp, Nat.zero_le _, Ext.new hL, [], [], upd_same, .nil, rfl, fun i z e => by simp at e⟩, ?_⟩
  rintro i m H' ⟨rfl, hi, x', acc, ds, hacc, md, hlen, hY⟩
  have x12 := x2.trans x'
  have fL : Fr a (L :: S) H' := by
    refine ⟨List.mem_cons_of_mem _ f.mem, (f.ext x12).pot, fun b m => ?_⟩
    rcases List.mem_cons.mp m with e | m
    · rw [e]
      exact ⟨_, hacc⟩
    · exact (f.ext x12).all b m
  have sL : Same G (off (L :: S) H') := by
    have s2 : Same G (off S H2) := f.same x2 s
    intro b o e
    have e2 := s2 b o e
    have e3 := x'.off f.mem b o e2
    exact same_off_push hL (x'.off f.mem) b o e2
  have haL : L ≠ a := fun e => hLS (e ▸ f.mem)
  by_cases hlt : i < n
  · refine .inr ⟨hgo n i H' hN hlt, fun H'' => (n - (i + 1) = n - (i + 1) ∧ i + 1 ≤ n ∧ Ext a H2 H'' ∧ ∃ acc ds, H'' L = some (.lst acc) ∧ DA K (off (L :: S) H'') acc ds ∧ ds.length = i + 1 ∧ ∀ i z, ds[i]? = some z → Y i z), ?_, ?_⟩
    · intro H'' h
      exact ⟨n - (i + 1), by omega, h⟩
    · intro x H3 hy
      obtain ⟨e3, hwp, ht, he⟩ := hb n i hN hlt H' x H3 hy
      subst e3
      refine ⟨hwp, ?_⟩
      refine ht (L :: S) H3 fL sL _ fun b H4 x4 eb => ?_
      subst eb
      show te _ H4 _
      have f4 := fL.ext x4
      refine he (L :: S) H4 f4 (fL.same x4 sL) _ fun v d H5 x5 m5 c5 => ?_
      have x45 := x4.trans x5
      have hacc5 : H5 L = some (.lst acc) := x45.keep _ _ haL hacc
      have md5 : DA K (off (L :: S) H5) acc ds := md.mono (x45.off fL.mem)
      have off5 : off (L :: S) (upd H5 L (.lst (acc ++ [v]))) = off (L :: S) H5 := by
        funext b
        unfold off
        by_cases hb : b ∈ L :: S
        · rw [if_pos hb, if_pos hb]
        · rw [if_neg hb, if_neg hb, upd_ne (fun e => hb (by rw [e]; exact List.mem_cons_self))]
      refine ⟨acc, hacc5, ?_, rfl, hlt, ?_, acc ++ [v], ds ++ [d], upd_same, ?_, ?_, ?_⟩
      · rw [md.length, hlen]
        exact Nat.lt_trans (Nat.lt_of_lt_of_le hlt (Nat.le_of_lt (hn n hN))) (by decide)
      · have xx := x'.trans x45
        refine ⟨fun b o nb hb => ?_, fun hp => ?_⟩
        · rw [upd_ne (ne_of_none hb hL)]
          exact xx.keep b o nb hb
        · obtain ⟨p, q, h1, h2⟩ := xx.pot hp
          exact ⟨p, q, by rw [upd_ne haL.symm]; exact h1, h2⟩
      · rw [off5]
        exact md5.append (.cons m5 .nil)
      · rw [List.length_append, hlen]
        rfl
      · intro i2 z hz
        rw [List.getElem?_append] at hz
        split at hz
        · exact hY i2 z hz
        · rename_i h2
          have h3 : i2 - ds.length = 0 := by
            by_cases h4 : i2 - ds.length = 0
            · exact h4
            · rw [List.getElem?_eq_none (by simp; omega)] at hz
              cases hz
          rw [h3] at hz
          simp at hz
          subst hz
          have : i2 = i := by omega
          rw [this]
          exact c5
  · have hin : i = n := by omega
    refine .inl ⟨hst n i H' hN (by omega), ?_⟩
    refine q (.ref L) (.list ds) H' x12 ?_ ⟨n, ds, hN, rfl, by omega, hY⟩
    exact .lst (off_mk hLS hacc) (md.mono same_off_pop)
end
end LK
set_option Elab.async false
set_option linter.all false
set_option maxRecDepth 100000
set_option maxHeartbeats 4000000
/-! LK4: repr of data; isinstance of data; texts -/
namespace LK
open PySem PySem.Spec L2
open PyProof.Rows hiding St

section
variable {X : Cx} {pins : List (Addr × Obj)} {σ : St} {H : Hp} {s : Shared}
theorem key_reads {k : Key} {u : Value} {h : Heap} (e : keyIs k u = true) : Reads h u (kD k) [] := by
  rcases keyIs_shape e with ⟨i, t, rfl, rfl⟩ | ⟨x, t, rfl, rfl⟩
  · exact .int i t
  · exact .str x t
theorem keys_read {h : Heap} : ∀ {es : List DictEntry} {vs : List (Key × Value)}, Pairs (mixKind X.prog X.w) es vs → ReadsAll h (es.map (·.key)) (vs.map fun p => kD p.1) []
  | _, _, .nil => .nil
  | _, _, .cons e _ t => .cons (as := []) (bs := []) (key_reads e) (keys_read t)
theorem vals_at : ∀ {es : List DictEntry} {vs : List (Key × Value)}, Pairs (mixKind X.prog X.w) es vs → es.map (·.val) = vs.map (·.2)
  | _, _, .nil => rfl
  | _, _, .cons _ e t => by
    rw [List.map_cons, List.map_cons, vals_at t, e]
mutual
theorem D.reads (I : Inv X pins σ H s) : ∀ (d : PyData) (v : V) (u : Value), D X.K H v d → RelV v u → ∃ as, Reads s.heap u d as
  | .none, _, _, h, r => by
    cases h
    cases r
    exact ⟨_, .none⟩
  | .bool b, _, _, h, r => by
    cases h
    cases r
    exact ⟨_, .bool b⟩
  | .int i, _, _, h, r => by
    cases h
    obtain ⟨t, rfl⟩ := r
    exact ⟨_, .int i t⟩
  | .str x, _, _, h, r => by
    cases h
    obtain ⟨t, rfl⟩ := r
    exact ⟨_, .str x t⟩
  | .list ds, _, _, h, r => by
    cases h with
    | lst h1 h2 =>
      cases r
      obtain ⟨its, rv, ⟨o, n, ho, hc, _, hd⟩, _⟩ := I.list (SqL.of h1)
      obtain ⟨as, q⟩ := DA.reads I ds _ its h2 rv
      exact ⟨_, .list ho hc hd q⟩
  | .tuple ds, _, _, h, r => by
    cases h with
    | tup h1 h2 =>
      cases r
      obtain ⟨its, rv, ⟨o, ho, hc, n, hd⟩, _⟩ := I.tuple h1
      obtain ⟨as, q⟩ := DA.reads I ds _ its h2 rv
      exact ⟨_, .tuple ho hc hd q⟩
  | .dict ds, _, _, h, r => by
    cases h with
    | dic h1 h2 =>
      cases r
      obtain ⟨z, ny, vs, rk, o, es, ep, ho, hx, hd, _, hp, _⟩ := I.hok _ _ h1
      obtain ⟨e1, rv, da⟩ := kv_of rk h2
      obtain ⟨bs, q2⟩ := DK.reads I ds _ vs h2 rk
      refine ⟨_, Reads.dict (as := []) (bs := bs) ho hx.1 hd ?_ ?_⟩
      · rw [e1]
        exact keys_read hp
      · rw [vals_at hp]
        exact q2
theorem DA.reads (I : Inv X pins σ H s) : ∀ (ds : List PyData) (vs : List V) (us : List Value), DA X.K H vs ds → Vals vs us → ∃ as, ReadsAll s.heap us ds as
  | [], _, _, h, r => by
    cases h
    cases r
    exact ⟨_, .nil⟩
  | d :: ds, _, _, h, r => by
    cases h with
    | cons h1 h2 =>
      cases r with
      | cons r1 r2 =>
        obtain ⟨as, q1⟩ := D.reads I d _ _ h1 r1
        obtain ⟨bs, q2⟩ := DA.reads I ds _ _ h2 r2
        exact ⟨_, .cons q1 q2⟩
theorem DK.reads (I : Inv X pins σ H s) : ∀ (ds : List (PyData × PyData)) (kvs : List (Key × V)) (vs : List (Key × Value)), DK X.K H kvs ds → KV kvs vs → ∃ as, ReadsAll s.heap (vs.map (·.2)) (ds.map (·.2)) as
  | [], _, _, h, r => by
    cases h
    cases r
    exact ⟨_, .nil⟩
  | (k, d) :: ds, _, _, h, r => by
    cases h with
    | cons h1 h2 =>
      cases r with
      | cons r1 r2 =>
        obtain ⟨as, q1⟩ := D.reads I d _ _ h1 r1.2
        obtain ⟨bs, q2⟩ := DK.reads I ds _ _ h2 r2
        exact ⟨_, .cons q1 q2⟩
end
/-! the text of each part, whoever is being written around -/
abbrev RK (X : Cx) (h : Heap) (n : Nat) (u : Value) (t : Str) : Prop := ∃ bs, ReadAtMost h n bs ∧ ReprK X.prog X.w bs h n u t
abbrev RKA (X : Cx) (h : Heap) (n : Nat) (us : List Value) (ts : List Str) : Prop := ∃ bs, ReadAtMost h n bs ∧ ReprAllK X.prog X.w bs h n us ts
theorem ram_nil {h : Heap} {n : Nat} : ReadAtMost h n [] := by
  intro b m
  cases m
theorem rk_flat {h : Heap} {n : Nat} {u : Value} {t : Str} (r : ReprIs X.prog X.w u t) : RK X h n u t := ⟨[], ram_nil, .of_is r _ _ _⟩
theorem rka_cons {h : Heap} {n m : Nat} {u : Value} {us : List Value} {t : Str} {ts : List Str} (a : RK X h n u t) (b : RKA X h m us ts) : RKA X h (max n m) (u :: us) (t :: ts) := by
  obtain ⟨b1, r1, k1⟩ := a
  obtain ⟨b2, r2, k2⟩ := b
  refine ⟨b1 ++ b2, (r1.mono (Nat.le_max_left _ _)).append (r2.mono (Nat.le_max_right _ _)), .cons ?_ ?_⟩
  · exact (k1.more fun b m => List.mem_append_left _ m).level_le (Nat.le_max_left _ _)
  · exact k2.more_le (fun b m => List.mem_append_right _ m) (Nat.le_max_right _ _)
theorem shownAll_map : ∀ ds : List PyData, PyData.shownAll ds = ds.map PyData.shown
  | [] => by simp only [PyData.shownAll, List.map_nil]
  | d :: ds => by simp only [PyData.shownAll, List.map_cons, shownAll_map ds]
theorem keys_rk {h : Heap} : ∀ {es : List DictEntry} {vs : List (Key × Value)}, Pairs (mixKind X.prog X.w) es vs → (∀ p ∈ vs, (kD p.1).showable = true ∧ (kD p.1).shown.length ≤ sizeLine) → RKA X h 0 (es.map (·.key)) (vs.map fun p => (kD p.1).shown)
  | _, _, .nil, _ => ⟨[], ram_nil, .nil⟩
  | _, _, .cons (e := e) (kv := kv) is _ t, ok => by
    have one : RK X h 0 e.key (kD kv.1).shown := by
      have ok1 := ok kv (List.mem_cons_self ..)
      obtain ⟨k, val⟩ := kv
      rcases keyIs_shape is with ⟨i, tk, e1, e2⟩ | ⟨x, tk, e1, e2⟩
      · simp only at e1
        subst e1
        rw [e2]
        have z := ok1.1
        simp only [kD, PyData.showable, decide_eq_true_eq] at z
        rw [show (kD (.inl i)).shown = ((toString i : String) : Str) from PyData.shown_int i]
        exact rk_flat (ReprIs.int tk z)
      · simp only at e1
        subst e1
        rw [e2]
        have z := ok1.2
        rw [show (kD (.inr x)).shown = reprText x from PyData.shown_str x] at z ⊢
        exact rk_flat (ReprIs.str x tk z)
    have r := rka_cons one (keys_rk t fun p m => ok p (List.mem_cons_of_mem _ m))
    exact r
theorem dict_parts (I : Inv X pins σ H s) {a : Addr} {kvs : List (Key × V)} {ds : List (PyData × PyData)} (h1 : H a = some (.dK kvs)) (h2 : DK X.K H kvs ds) (sh : PyData.showableKv ds = true) (fit : (dictText (PyData.shownKv ds)).length ≤ sizeLine)
    (vals : ∀ vs, KV kvs vs → RKA X s.heap (PyData.depthAll (ds.map (·.2))) (vs.map (·.2)) (PyData.shownAll (ds.map (·.2)))) :
    ∃ o es n bs as, s.heap.get? a = some o ∧ o.cls = .type "dict" ∧ o.data = .dict es n ∧ (a == sysModules) = false ∧ a ∉ bs ∧ Reads s.heap (.ref a) (.dict ds) as ∧ ReadAtMost s.heap (PyData.depthKv ds) bs ∧
      ReprEntriesK X.prog X.w bs s.heap (PyData.depthKv ds) es.toList (List.zipWith (fun k v : Str => k ++ ": " ++ v) (PyData.shownAll (ds.map (·.1))) (PyData.shownAll (ds.map (·.2)))) := by
  obtain ⟨z, ny, vs, rk, o, es, ep, ho, hx, hd, _, hp, _⟩ := I.hok _ _ h1
  obtain ⟨e1, rv, da⟩ := kv_of rk h2
  obtain ⟨cs, q2⟩ := DK.reads I ds _ vs h2 rk
  have q1 : ReadsAll s.heap (es.toList.map (·.key)) (ds.map (·.1)) [] := by
    rw [e1]
    exact keys_read hp
  rw [← vals_at hp] at q2
  have rd := Reads.dict ho hx.1 hd q1 q2
  obtain ⟨sh1, sh2⟩ := PyData.showableKv_split ds sh
  have fit1 : ∀ t ∈ PyData.shownAll (ds.map (·.1)), t.length ≤ sizeLine := fun t m => by
    obtain ⟨p, hp, l⟩ := PyData.shownKv_key_le ds t m
    exact Nat.le_trans l (Nat.le_trans (dictText_mem_le hp) fit)
  have ek : PyData.shownAll (ds.map (·.1)) = vs.map fun p => (kD p.1).shown := by
    rw [shownAll_map, e1, List.map_map]
    rfl
  obtain ⟨b1, am1, k1⟩ := keys_rk (X := X) (h := s.heap) hp fun p m => by
    refine ⟨?_, fit1 _ ?_⟩
    · rw [e1] at sh1
      have all : ∀ l : List (Key × Value), PyData.showableAll (l.map fun p => kD p.1) = true → ∀ p ∈ l, (kD p.1).showable = true := by
        intro l
        induction l with
        | nil =>
          intro _ p m
          cases m
        | cons x r ih =>
          intro h p m
          simp only [List.map_cons, PyData.showableAll, Bool.and_eq_true] at h
          rcases List.mem_cons.mp m with e | m
          · rw [e]
            exact h.1
          · exact ih h.2 p m
      exact all vs sh1 p m
    · rw [ek]
      exact List.mem_map.mpr ⟨p, m, rfl⟩
  obtain ⟨b2, am2, k2⟩ := vals vs rk
  rw [← vals_at hp] at k2
  rw [← ek] at k1
  have am : ReadAtMost s.heap (PyData.depthKv ds) (b1 ++ b2) := (am1.mono (Nat.zero_le _)).append (am2.mono (PyData.depthAll_vals_le ds))
  refine ⟨o, es, _, b1 ++ b2, _, ho, hx.1, hd, ny, not_mem_of_deeper rd (by simp only [PyData.depth]; exact Nat.lt_succ_self _) am, rd, am, ?_⟩
  refine ReprEntriesK.of_two es.toList _ _ (k1.more_le (fun b m => List.mem_append_left _ m) (Nat.zero_le _)) ?_
  exact k2.more_le (fun b m => List.mem_append_right _ m) (PyData.depthAll_vals_le ds)
mutual
theorem D.rk (I : Inv X pins σ H s) : ∀ (d : PyData) (v : V) (u : Value), D X.K H v d → RelV v u → d.showable = true → d.shown.length ≤ sizeLine → RK X s.heap d.depth u d.shown
  | .none, _, _, h, r, _, _ => by
    cases h
    cases r
    rw [PyData.shown_none]
    exact rk_flat ReprIs.none
  | .bool b, _, _, h, r, _, _ => by
    cases h
    cases r
    rw [PyData.shown_bool]
    exact rk_flat (ReprIs.bool b)
  | .int i, _, _, h, r, sh, _ => by
    cases h
    obtain ⟨t, rfl⟩ := r
    simp only [PyData.showable, decide_eq_true_eq] at sh
    rw [PyData.shown_int]
    exact rk_flat (ReprIs.int t sh)
  | .str x, _, _, h, r, _, fit => by
    cases h
    obtain ⟨t, rfl⟩ := r
    rw [PyData.shown_str] at fit ⊢
    exact rk_flat (ReprIs.str x t fit)
  | .list ds, _, _, h, r, sh, fit => by
    cases h with
    | lst h1 h2 =>
      cases r
      obtain ⟨its, rv, ⟨o, n, ho, hc, _, hd⟩, _⟩ := I.list (SqL.of h1)
      obtain ⟨as, q⟩ := DA.reads I ds _ its h2 rv
      have rd := Reads.list ho hc hd q
      simp only [PyData.showable] at sh
      simp only [PyData.shown] at fit ⊢
      simp only [PyData.depth]
      obtain ⟨bs, am, kk⟩ := DA.rk I ds _ its h2 rv sh fun t m => Nat.le_trans (listText_mem_le m) fit
      have out := not_mem_of_deeper rd (by simp only [PyData.depth]; exact Nat.lt_succ_self _) am
      have am2 := ReadAtMost.cons rd (by simp only [PyData.depth]; exact Nat.le_succ _) am
      simp only [PyData.depth] at am2
      cases its with
      | nil =>
        cases q
        simp only [PyData.shownAll, listText_nil]
        exact ⟨_, am2, ReprK.listEmpty ho hc hd⟩
      | cons y l =>
        refine ⟨_, am2, ReprK.list ho hc hd out ?_ fun i z e => kk.item i z (by simpa using e)⟩
        simpa using kk.length_eq
  | .tuple ds, _, _, h, r, sh, fit => by
    cases h with
    | tup h1 h2 =>
      cases r
      obtain ⟨its, rv, ⟨o, ho, hc, n, hd⟩, _⟩ := I.tuple h1
      obtain ⟨as, q⟩ := DA.reads I ds _ its h2 rv
      have rd := Reads.tuple ho hc hd q
      simp only [PyData.showable] at sh
      simp only [PyData.shown] at fit ⊢
      simp only [PyData.depth]
      obtain ⟨bs, am, kk⟩ := DA.rk I ds _ its h2 rv sh fun t m => Nat.le_trans (tupleText_mem_le m) fit
      have out := not_mem_of_deeper rd (by simp only [PyData.depth]; exact Nat.lt_succ_self _) am
      have am2 := ReadAtMost.cons rd (by simp only [PyData.depth]; exact Nat.le_succ _) am
      simp only [PyData.depth] at am2
      exact ⟨_, am2, ReprK.tuple ho hc hd out kk⟩
  | .dict ds, _, _, h, r, sh, fit => by
    cases h with
    | dic h1 h2 =>
      cases r
      simp only [PyData.showable] at sh
      simp only [PyData.shown] at fit ⊢
      simp only [PyData.depth]
      obtain ⟨sh1, sh2⟩ := PyData.showableKv_split ds sh
      have fit2 : ∀ t ∈ PyData.shownAll (ds.map (·.2)), t.length ≤ sizeLine := fun t m => by
        obtain ⟨p, hp, l⟩ := PyData.shownKv_val_le ds t m
        exact Nat.le_trans l (Nat.le_trans (dictText_mem_le hp) fit)
      obtain ⟨o, es, n, bs, as, ho, hc, hd, ny, out, rd, am, ee⟩ := dict_parts I h1 h2 sh fit fun vs rk => DK.rk I ds _ vs h2 rk sh2 fit2
      have am3 := ReadAtMost.cons rd (by simp only [PyData.depth]; exact Nat.le_succ _) am
      simp only [PyData.depth] at am3
      rw [PyData.shownKv_eq]
      exact ⟨_, am3, ReprK.dict ho hc hd ny out ee⟩
theorem DA.rk (I : Inv X pins σ H s) : ∀ (ds : List PyData) (vs : List V) (us : List Value), DA X.K H vs ds → Vals vs us → PyData.showableAll ds = true → (∀ t ∈ PyData.shownAll ds, t.length ≤ sizeLine) → RKA X s.heap (PyData.depthAll ds) us (PyData.shownAll ds)
  | [], _, _, h, r, _, _ => by
    cases h
    cases r
    simp only [PyData.shownAll]
    exact ⟨[], ram_nil, .nil⟩
  | d :: ds, _, _, h, r, sh, fit => by
    cases h with
    | cons h1 h2 =>
      cases r with
      | cons r1 r2 =>
        simp only [PyData.showableAll, Bool.and_eq_true] at sh
        simp only [PyData.shownAll] at fit ⊢
        simp only [PyData.depthAll]
        exact rka_cons (D.rk I d _ _ h1 r1 sh.1 (fit _ (List.mem_cons_self ..))) (DA.rk I ds _ _ h2 r2 sh.2 fun t m => fit t (List.mem_cons_of_mem _ m))
theorem DK.rk (I : Inv X pins σ H s) : ∀ (ds : List (PyData × PyData)) (kvs : List (Key × V)) (vs : List (Key × Value)), DK X.K H kvs ds → KV kvs vs → PyData.showableAll (ds.map (·.2)) = true → (∀ t ∈ PyData.shownAll (ds.map (·.2)), t.length ≤ sizeLine) →
    RKA X s.heap (PyData.depthAll (ds.map (·.2))) (vs.map (·.2)) (PyData.shownAll (ds.map (·.2)))
  | [], _, _, h, r, _, _ => by
    cases h
    cases r
    simp only [List.map_nil, PyData.shownAll]
    exact ⟨[], ram_nil, .nil⟩
  | (k, d) :: ds, _, _, h, r, sh, fit => by
    cases h with
    | cons h1 h2 =>
      cases r with
      | cons r1 r2 =>
        simp only [List.map_cons, PyData.showableAll, Bool.and_eq_true] at sh
        simp only [List.map_cons, PyData.shownAll] at fit ⊢
        simp only [PyData.depthAll]
        exact rka_cons (D.rk I d _ _ h1 r1.2 sh.1 (fit _ (List.mem_cons_self ..))) (DK.rk I ds _ _ h2 r2 sh.2 fun t m => fit t (List.mem_cons_of_mem _ m))
end
end

/-- data that repr takes: no part too long -/
structure Tame (d : PyData) : Prop where
  sh : d.showable = true
  lv : d.leavesShort 2000 = true
  bk : d.bulk ≤ 8000
  dp : d.depth ≤ 60
theorem Tame.fits {d : PyData} (t : Tame d) : d.shown.length ≤ sizeLine := by
  have h := PyData.shown_le_bulk 2000 (by decide) d t.lv
  have := t.bk
  rw [sizeLine_eq]
  omega
def rRepr (K : PySem.W.Frag) : List V → Hp → VK → Prop := fun xs H Q => ∃ v d, xs = [v] ∧ D K H v d ∧ Tame d ∧ Q (.str d.shown) H
section
variable {X : Cx}
theorem call_repr (hg : NoG X.A) (hu : X.A.units + 64 < cLine) : CallR X (.builtin "repr") (rRepr X.K) := by
  intro pins s σ H xs us Q I r h
  obtain ⟨v, d, rfl, m, tm, q⟩ := h
  obtain ⟨u, rfl, ru⟩ := vals1 r
  have fit := tm.fits
  have room : X.A.units + 1 + d.depth < cLine := by
    have := tm.dp
    omega
  have fin : ∀ h' t tk, (∀ b o, s.heap.get? b = some o → h'.get? b = some o) → EP X pins σ Q (.str d.shown t) { s with heap := h', toks := tk } := fun h' t tk k => ⟨.str d.shown, H, I.kept k, ⟨_, rfl⟩, q⟩
  cases m with
  | non =>
    obtain rfl : u = Value.none := ru
    rw [PyData.shown_none] at q
    exact P.repr_of_none ⟨.str _, H, I.tok _, ⟨_, rfl⟩, q⟩
  | bl b =>
    obtain rfl : u = Value.bool b := ru
    rw [PyData.shown_bool] at q
    exact P.repr_of_bool ⟨.str _, H, I.tok _, ⟨_, rfl⟩, q⟩
  | int i =>
    obtain ⟨t, rfl⟩ := ru
    rw [PyData.shown_int] at q
    have z := tm.sh
    simp only [PyData.showable, decide_eq_true_eq] at z
    exact P.repr_of_int z ⟨.str _, H, I.tok _, ⟨_, rfl⟩, q⟩
  | str x =>
    obtain ⟨t, rfl⟩ := ru
    rw [PyData.shown_str] at q fit
    exact P.repr_of_str ⟨.str _, H, I.tok _, ⟨_, rfl⟩, q⟩ fit
  | lst h1 h2 =>
    obtain rfl := ru
    rename_i ds
    obtain ⟨its, rv, ⟨o, n, ho, hc, _, hd⟩, _⟩ := I.list (SqL.of h1)
    obtain ⟨as, rd⟩ := DA.reads I ds _ its h2 rv
    have sh := tm.sh
    simp only [PyData.showable] at sh
    simp only [PyData.depth] at room
    simp only [PyData.shown] at fit fin
    obtain ⟨bs, am, kk⟩ := DA.rk I ds _ its h2 rv sh fun t m => Nat.le_trans (listText_mem_le m) fit
    have out := not_mem_of_deeper (Reads.list ho hc hd rd) (by simp only [PyData.depth]; exact Nat.lt_succ_self _) am
    have ty : s.TypeIs (.ref _) "list" := ⟨o, ho, hc⟩
    apply call_repr_slot (by omega) ty F.slot_list_repr.toG
    cases its with
    | nil =>
      cases rd
      simp only [PyData.shownAll, listText_nil] at fin
      exact call_list_repr_empty ⟨o, ho, hc⟩ ho hd ⟨_, _, rfl, fin s.heap _ _ fun _ _ e => e⟩
    | cons y l =>
      exact call_list_reprK ho hc hd out (by simpa using kk.length_eq) (fun i z e => kk.item i z (by simpa using e)) hg (fun b _ => Clear.nil b) room (fun _ _ e => e) (fun h' t tk k => ⟨_, _, rfl, fin h' t tk k⟩) fit
  | tup h1 h2 =>
    obtain rfl := ru
    rename_i ds
    obtain ⟨its, rv, ⟨o, ho, hc, n, hd⟩, _⟩ := I.tuple h1
    obtain ⟨as, rd⟩ := DA.reads I ds _ its h2 rv
    have sh := tm.sh
    simp only [PyData.showable] at sh
    simp only [PyData.depth] at room
    simp only [PyData.shown] at fit fin
    obtain ⟨bs, am, kk⟩ := DA.rk I ds _ its h2 rv sh fun t m => Nat.le_trans (tupleText_mem_le m) fit
    have out := not_mem_of_deeper (Reads.tuple ho hc hd rd) (by simp only [PyData.depth]; exact Nat.lt_succ_self _) am
    have ty : s.TypeIs (.ref _) "tuple" := ⟨o, ho, hc⟩
    apply call_repr_slot (by omega) ty F.slot_tuple_repr
    exact call_tuple_reprK ho hc hd out kk hg (fun b _ => Clear.nil b) room (fun _ _ e => e) (fun h' t tk k => ⟨_, _, rfl, fin h' t tk k⟩) fit
  | dic h1 h2 =>
    obtain rfl := ru
    rename_i a kvs ds
    have sh := tm.sh
    simp only [PyData.showable] at sh
    simp only [PyData.shown] at fit fin
    simp only [PyData.depth] at room
    obtain ⟨sh1, sh2⟩ := PyData.showableKv_split ds sh
    have fit2 : ∀ t ∈ PyData.shownAll (ds.map (·.2)), t.length ≤ sizeLine := fun t m => by
      obtain ⟨p, hp, l⟩ := PyData.shownKv_val_le ds t m
      exact Nat.le_trans l (Nat.le_trans (dictText_mem_le hp) fit)
    obtain ⟨o, es, n, bs, as, ho, hc, hd, ny, out, rd, am, ee⟩ := dict_parts I h1 h2 sh fit fun vs rk => DK.rk I ds _ vs h2 rk sh2 fit2
    rw [PyData.shownKv_eq] at fit fin
    have ty : s.TypeIs (.ref a) "dict" := ⟨o, ho, hc⟩
    apply call_repr_slot (by omega) ty F.slot_dict_repr
    exact call_dict_reprK ho hc hd ny out ee hg (fun b _ => Clear.nil b) room (fun _ _ e => e) (fun h' t tk k => ⟨_, _, rfl, fin h' t tk k⟩) fit
end

/-! ### types -/
def tyD : PyData → String
  | .none => "NoneType"
  | .bool _ => "bool"
  | .int _ => "int"
  | .str _ => "str"
  | .list _ => "list"
  | .tuple _ => "tuple"
  | .dict _ => "dict"
theorem D.ty {K : PySem.W.Frag} {H : Hp} {v : V} {d : PyData} (m : D K H v d) : TyX K H v (.type (tyD d)) := by
  cases m with
  | non => exact .base .non
  | bl b => exact .base (.bl b)
  | int i => exact .base (.int i)
  | str x => exact .base (.str x)
  | lst h1 h2 => exact .base (.lst h1)
  | tup h1 h2 =>
    rcases h1 with (h | ⟨o, h⟩) | ⟨o, its, n, h, c, _⟩
    · exact .base (.tup h)
    · exact .fTuple h
    · exact .kTuple h c
  | dic h1 h2 => exact .base (.dK h1)
section
variable {K : PySem.W.Frag} {a : Addr} {G : Hp} {σ : St} {te : TE} {C : PyData → Prop}
/-- isinstance(x, T), T a built-in class -/
theorem ev_isi {n : String} {B : Bool → Prop} (h : Ev K a G te σ C) (hk : ∀ d, C d → ∃ b, kitB (tyD d) n = some b ∧ B b) :
    Ev K a G (tCB (rIsi K) (tCons te (tCons (tC (.ty n)) tNil))) σ (IsB B) := fun S H1 f s Q q =>
  h S H1 f s _ fun v d H2 x2 m c => by
    obtain ⟨b, h1, h2⟩ := hk d c
    exact ⟨v, .ty n, .type (tyD d), .type n, b, rfl, .ty n, (m.mono off_le).ty, kit_ty h1, q _ _ H2 x2 (.bl b) ⟨b, rfl, h2⟩⟩
theorem ev_repr (h : Ev K a G te σ C) (ht : ∀ d, C d → Tame d) : Ev K a G (tCB (rRepr K) (tCons te tNil)) σ (fun z => ∃ d, C d ∧ z = .str d.shown) := fun S H1 f s Q q =>
  h S H1 f s _ fun v d H2 x2 m c => ⟨v, d, rfl, m.mono off_le, ht d c, q _ _ H2 x2 (.str _) ⟨d, c, rfl⟩⟩
theorem ev_reprE {d : PyData} (h : Ev K a G te σ (· = d)) (ht : Tame d) : Ev K a G (tCB (rRepr K) (tCons te tNil)) σ (· = .str d.shown) :=
  (ev_repr h fun _ e => e ▸ ht).imp fun _ ⟨_, e, z⟩ => by rw [z, e]
/-- == of two texts -/
theorem r2_eqStr {x y : Str} : R2D K a rEq (.str x) (.str y) (· = .bool (decide (x = y))) := by
  intro S H u v f mx my Q q
  cases mx
  cases my
  refine ⟨rfl, q _ _ H Ext.refl (.bl _) ?_⟩
  by_cases e : x = y
  · rw [e]
    simp
  · have e' : ¬ V.str x = V.str y := fun z => e (V.str.inj z)
    rw [decide_eq_false e, decide_eq_false e']
end
end LK
set_option Elab.async false
set_option linter.all false
set_option maxRecDepth 100000
set_option maxHeartbeats 4000000
/-! LK5: operators and built-ins that serve several kinds of data; what they give by data -/
namespace LK
open PySem PySem.Spec L2
open PyProof.Rows hiding St

section
variable {X : Cx}
def rAddS : R2 := fun x y H Q => ∃ i j, x = .str i ∧ y = .str j ∧ i.length + j.length ≤ sizeLine ∧ Q (.str (i ++ j)) H
def rAddA (K : PySem.W.Frag) : R2 := fun x y H Q => rI0 (fun i j => .int (i + j)) x y H Q ∨ rAddS x y H Q ∨ rCat x y H Q ∨ rCatT K x y H Q
theorem oAdd : OpR X (binaryOp .Add) (rAddA X.K) := op_add.or (OpR.or (r := rAddS) op_add_str (op_cat.or op_catT))
def rMulS : R2 := fun x y H Q => ∃ z n, x = .str z ∧ y = .int n ∧ MulOk z n ∧ Q (.str (Txt.mul z n)) H
theorem op_mulS : OpR X (binaryOp .Mult) rMulS := by
  intro pins s σ H x y v u Q I rx ry h
  obtain ⟨z, n, rfl, rfl, ok, q⟩ := h
  obtain ⟨t, rfl⟩ := rx
  obtain ⟨t', rfl⟩ := ry
  exact SB.mul ok fun t2 k => ⟨.str _, H, I.tok _, ⟨_, rfl⟩, q⟩
def rMulA : R2 := fun x y H Q => rI CMulX (fun i j => .int (i * j)) x y H Q ∨ rMulS x y H Q ∨ rRep x y H Q
theorem oMul : OpR X (binaryOp .Mult) rMulA := op_mulX.or (op_mulS.or op_rep)
/-- two lists of unlike lengths -/
def rLenN (K : PySem.W.Frag) (z : Bool) : R2 := fun x y H Q => ∃ (a b : Addr) (xs ys : List V), x = .ref a ∧ y = .ref b ∧ SqL K H a xs ∧ SqL K H b ys ∧ xs.length ≠ ys.length ∧ Q (.bl z) H
theorem op_eqN (hu : X.A.units + 64 < cLine) : OpR X (compareOp .Eq) (rLenN X.K false) := by
  intro pins s σ H x y v u Q I rx ry h
  obtain ⟨a, b, xs, ys, rfl, rfl, h1, h2, hne, q⟩ := h
  cases rx
  cases ry
  obtain ⟨i1, r1, p1, _⟩ := I.list h1
  obtain ⟨i2, r2, p2, _⟩ := I.list h2
  have e1 := r1.length
  have e2 := r2.length
  exact SeqAt.RcAt.lists_lengths p1.isList p2.isList (by simp only [List.size_toArray, bne_iff_ne]; omega) (by omega) _ _ _ _ ⟨.bl false, H, I, rfl, q⟩
theorem op_neN (hu : X.A.units + 64 < cLine) : OpR X (compareOp .NotEq) (rLenN X.K true) := by
  intro pins s σ H x y v u Q I rx ry h
  obtain ⟨a, b, xs, ys, rfl, rfl, h1, h2, hne, q⟩ := h
  cases rx
  cases ry
  obtain ⟨i1, r1, p1, _⟩ := I.list h1
  obtain ⟨i2, r2, p2, _⟩ := I.list h2
  have e1 := r1.length
  have e2 := r2.length
  exact SeqAt.RcNeAt.lists_lengths p1.isList p2.isList (by simp only [List.size_toArray, bne_iff_ne]; omega) (by omega) _ _ _ _ ⟨.bl true, H, I, rfl, q⟩
def rEqA (K : PySem.W.Frag) : R2 := fun x y H Q => rEq x y H Q ∨ rEqD K x y H Q ∨ rLenN K false x y H Q
def rNeA (K : PySem.W.Frag) : R2 := fun x y H Q => rNe x y H Q ∨ rNeD K x y H Q ∨ rLenN K true x y H Q
theorem oEq (hu : X.A.units + 64 < cLine) : OpR X (compareOp .Eq) (rEqA X.K) := op_eq.or (OpR.or (op_eqD hu) (op_eqN hu))
theorem oNe (hu : X.A.units + 64 < cLine) : OpR X (compareOp .NotEq) (rNeA X.K) := op_ne.or (OpR.or (op_neD hu) (op_neN hu))
def rSgn : R2 := fun x y H Q => ∃ (c : Nat) (z : Str), x = .str ⟨#[c]⟩ ∧ y = .str z ∧ Q (.bl (decide (c ∈ z.cps.toList))) H
def rNSgn : R2 := fun x y H Q => ∃ (c : Nat) (z : Str), x = .str ⟨#[c]⟩ ∧ y = .str z ∧ Q (.bl (!decide (c ∈ z.cps.toList))) H
def rInA (K : PySem.W.Frag) : R2 := fun x y H Q => rSgn x y H Q ∨ rIn K false x y H Q
def rNotInA (K : PySem.W.Frag) : R2 := fun x y H Q => rNSgn x y H Q ∨ rIn K true x y H Q
theorem oIn : OpR X (compareOp .In) (rInA X.K) := OpR.or (r := rSgn) op_in_sign op_in_seq
theorem oNotIn : OpR X (compareOp .NotIn) (rNotInA X.K) := OpR.or (r := rNSgn) op_notIn_sign op_notIn_seq
def rLenA (K : PySem.W.Frag) : List V → Hp → VK → Prop := fun xs H Q => ∃ x n, xs = [x] ∧ LenV K x H n ∧ Q (.int (n : Nat)) H
theorem cLen : CallR X (.builtin "len") (rLenA X.K) := call_len
theorem cIsi : CallR X (.builtin "isinstance") (rIsi X.K) := call_isi
theorem cAll (hc : X.calm = true) : CallR X (.builtin "all") (rAll X.K) := cr_all hc
def rDm : List V → Hp → VK → Prop := fun xs H Q => ∃ i j, xs = [.int i, .int j] ∧ CDivW i j ∧ ∀ p, H p = none → Q (.ref p) (upd H p (.tup [.int (i / j), .int (i % j)]))
theorem call_divmodX : CallR X (.builtin "divmod") rDm := by
  intro pins s σ H xs us Q I r h
  obtain ⟨i, j, rfl, ⟨pos, small⟩, q⟩ := h
  obtain ⟨u1, u2, rfl, ⟨t1, rfl⟩, ⟨t2, rfl⟩⟩ := vals2 r
  have nz : j ≠ 0 := by omega
  have nn : 0 ≤ j := by omega
  have fr := I.fresh
  apply PyProof.Rows.divmod_int nz _ (.inl (PyProof.noPylong_of_log2 small))
  rw [Int.fdiv_eq_ediv_of_nonneg i nn, Int.fmod_eq_emod_of_nonneg i nn]
  refine ⟨.ref s.heap.objs.size, _, I.laid (o := .tup [.int (i / j), .int (i % j)]) (fun b o e => Heap.get?_push_of_some _ e) (Nat.le_refl _) ?_, rfl, q _ fr⟩
  refine ⟨by show 2 ≤ sizeLine; decide, [.int (i / j) s.toks, .int (i % j) (s.toks + 1)], .cons ⟨_, rfl⟩ (.cons ⟨_, rfl⟩ .nil), ?_⟩
  exact ⟨_, Heap.get?_push_size s.heap rfl, rfl, 0, rfl⟩
/-! the same with the written part by its own name -/
theorem kAdd {K : PySem.W.Frag} (e : X.K = K := by rfl) : OpR X (binaryOp .Add) (rAddA K) := e ▸ oAdd
theorem kEq {K : PySem.W.Frag} (hu : X.A.units + 64 < cLine) (e : X.K = K := by rfl) : OpR X (compareOp .Eq) (rEqA K) := e ▸ oEq hu
theorem kNe {K : PySem.W.Frag} (hu : X.A.units + 64 < cLine) (e : X.K = K := by rfl) : OpR X (compareOp .NotEq) (rNeA K) := e ▸ oNe hu
theorem kIn {K : PySem.W.Frag} (e : X.K = K := by rfl) : OpR X (compareOp .In) (rInA K) := e ▸ oIn
theorem kNotIn {K : PySem.W.Frag} (e : X.K = K := by rfl) : OpR X (compareOp .NotIn) (rNotInA K) := e ▸ oNotIn
theorem kLen {K : PySem.W.Frag} (e : X.K = K := by rfl) : CallR X (.builtin "len") (rLenA K) := e ▸ cLen
theorem kIsi {K : PySem.W.Frag} (e : X.K = K := by rfl) : CallR X (.builtin "isinstance") (rIsi K) := e ▸ cIsi
theorem kAll {K : PySem.W.Frag} (hc : X.calm = true) (e : X.K = K := by rfl) : CallR X (.builtin "all") (rAll K) := e ▸ cAll hc
theorem kRepr {K : PySem.W.Frag} (hg : NoG X.A) (hu : X.A.units + 64 < cLine) (e : X.K = K := by rfl) : CallR X (.builtin "repr") (rRepr K) := by
  subst e
  exact call_repr hg hu
theorem kIx {K : PySem.W.Frag} (e : X.K = K := by rfl) : IxR X (rIx K) := e ▸ ix_seq
/-- a module's text, a module's int -/
theorem pe_gS {x z : Str} {pos : Pos} (hg : Gl X x) (hm : ∃ t, X.mg x = some (.str z t)) (hd : (x == ("__debug__" : Str)) = false := by decide) : PE X (.Name x pos) (tC (.str z)) := by
  obtain ⟨t, e⟩ := hm
  exact pe_glob hg e ⟨t, rfl⟩ hd
theorem pe_gI {x : Str} {z : Int} {pos : Pos} (hg : Gl X x) (hm : ∃ t, X.mg x = some (.int z t)) (hd : (x == ("__debug__" : Str)) = false := by decide) : PE X (.Name x pos) (tC (.int z)) := by
  obtain ⟨t, e⟩ := hm
  exact pe_glob hg e ⟨t, rfl⟩ hd
end

section
variable {K : PySem.W.Frag} {a : Addr} {S : List Addr} {σ : St} {G H : Hp} {ta tb tc te : TE} {tr : TA} {C C1 C2 : PyData → Prop} {r r' : R2} {d e : PyData}
theorem R2D.inl (h : R2D K a r d e C) : R2D K a (fun x y H Q => r x y H Q ∨ r' x y H Q) d e C := fun S H x y f m1 m2 Q q => .inl (h S H x y f m1 m2 Q q)
theorem R2D.inr (h : R2D K a r' d e C) : R2D K a (fun x y H Q => r x y H Q ∨ r' x y H Q) d e C := fun S H x y f m1 m2 Q q => .inr (h S H x y f m1 m2 Q q)
theorem R2D.imp (h : R2D K a r d e C1) (i : ∀ z, C1 z → C z) : R2D K a r d e C := fun S H x y f m1 m2 Q q => h S H x y f m1 m2 Q fun v z H2 x2 m c => q v z H2 x2 m (i z c)
/-! + -/
theorem ra_int {i j : Int} : R2D K a (rAddA K) (.int i) (.int j) (· = .int (i + j)) := R2D.inl (r2_I0 (fun _ => .int _) rfl)
theorem ra_str {i j : Str} (h : i.length + j.length ≤ 1000000) : R2D K a (rAddA K) (.str i) (.str j) (· = .str (i ++ j)) := R2D.inr (R2D.inl fun S H x y f m1 m2 Q q => by
  cases m1
  cases m2
  exact ⟨i, j, rfl, rfl, Nat.le_trans h (by decide), q _ _ H Ext.refl (.str _) rfl⟩)
theorem ra_lst {ds es : List PyData} (h : ds.length + es.length ≤ 1000000) : R2D K a (rAddA K) (.list ds) (.list es) (· = .list (ds ++ es)) := R2D.inr (R2D.inr (R2D.inl fun S H x y f m1 m2 Q q => by
  cases m1 with
  | lst h1 n1 =>
    cases m2 with
    | lst h2 n2 =>
      exact ⟨_, _, _, _, rfl, rfl, off_le _ _ h1, off_le _ _ h2, by rw [n1.length, n2.length]; exact Nat.le_trans h (by decide), fun p hp =>
        q _ _ _ (Ext.new hp) (D.new_lst hp (f.out hp) (n1.append n2)) rfl⟩))
theorem ra_tup {ds es : List PyData} (h0 : ds ≠ []) (h : ds.length + es.length ≤ 1000000) : R2D K a (rAddA K) (.tuple ds) (.tuple es) (· = .tuple (ds ++ es)) := R2D.inr (R2D.inr (R2D.inr fun S H x y f m1 m2 Q q => by
  cases m1 with
  | tup h1 n1 =>
    cases m2 with
    | tup h2 n2 =>
      rename_i b1 x1 b2 x2
      have hne : x1 ≠ [] := fun z => by
        subst z
        have := n1.length
        exact h0 (List.length_eq_zero_iff.mp this.symm)
      refine ⟨_, _, x1, x2, rfl, rfl, sqT_same off_le h1, sqT_same off_le h2, hne, by rw [n1.length, n2.length]; exact Nat.le_trans h (by decide), ?_, ?_⟩
      · intro z
        have l := n2.length
        rw [z] at l
        have ez : es = [] := List.length_eq_zero_iff.mp l.symm
        refine q _ _ H Ext.refl (.tup h1 n1) ?_
        rw [ez, List.append_nil]
      · intro _ p hp
        exact q _ _ _ (Ext.new hp) (D.new_tup hp (f.out hp) (n1.append n2)) rfl))
theorem ev_addI {cI cJ cR : Int → Prop} (ha : Ev K a G ta σ (IsI cI)) (hb : Ev K a G tb σ (IsI cJ)) (hr : ∀ i j, cI i → cJ j → cR (i + j)) : Ev K a G (tOp (rAddA K) ta tb) σ (IsI cR) := by
  refine ev_op ha hb ?_
  rintro _ _ ⟨i, rfl, hi⟩ ⟨j, rfl, hj⟩
  exact ra_int.imp fun z e => ⟨_, e, hr i j hi hj⟩
theorem ev_mulI {cI cJ cR : Int → Prop} (ha : Ev K a G ta σ (IsI cI)) (hb : Ev K a G tb σ (IsI cJ)) (hr : ∀ i j, cI i → cJ j → CMulX i j ∧ cR (i * j)) : Ev K a G (tOp rMulA ta tb) σ (IsI cR) := by
  refine ev_op ha hb ?_
  rintro _ _ ⟨i, rfl, hi⟩ ⟨j, rfl, hj⟩
  obtain ⟨h1, h2⟩ := hr i j hi hj
  exact R2D.inl (r2_I h1 (fun _ => .int _) ⟨_, rfl, h2⟩)
theorem ev_mulS {z : Str} {n : Int} (ha : Ev K a G ta σ (· = .str z)) (hb : Ev K a G tb σ (· = .int n)) (ok : MulOk z n) : Ev K a G (tOp rMulA ta tb) σ (· = .str (Txt.mul z n)) := by
  refine ev_op ha hb ?_
  rintro _ _ rfl rfl
  exact R2D.inr (R2D.inl fun S H x y f m1 m2 Q q => by
    cases m1
    cases m2
    exact ⟨z, n, rfl, rfl, ok, q _ _ H Ext.refl (.str _) rfl⟩)
/-! == -/
theorem ev_eqS {x y : Str} (ha : Ev K a G ta σ (· = .str x)) (hb : Ev K a G tb σ (· = .str y)) : Ev K a G (tOp (rEqA K) ta tb) σ (· = .bool (decide (x = y))) := by
  refine ev_op ha hb ?_
  rintro _ _ rfl rfl
  exact R2D.inl r2_eqStr
theorem r2_neStr {x y : Str} : R2D K a rNe (.str x) (.str y) (· = .bool (!decide (x = y))) := by
  intro S H u v f mx my Q q
  cases mx
  cases my
  refine ⟨rfl, q _ _ H Ext.refl (.bl _) ?_⟩
  by_cases e : x = y
  · rw [e]
    simp
  · have e' : ¬ V.str x = V.str y := fun z => e (V.str.inj z)
    rw [decide_eq_false e, decide_eq_false e']
theorem ev_neS {x y : Str} (ha : Ev K a G ta σ (· = .str x)) (hb : Ev K a G tb σ (· = .str y)) : Ev K a G (tOp (rNeA K) ta tb) σ (· = .bool (!decide (x = y))) := by
  refine ev_op ha hb ?_
  rintro _ _ rfl rfl
  exact R2D.inl r2_neStr
/-! in -/
theorem ev_inSgn {P : Nat → Prop} {z : Str} {B : Bool → Prop} (ha : Ev K a G ta σ (fun d => ∃ c, d = .str ⟨#[c]⟩ ∧ P c)) (hb : Ev K a G tb σ (· = .str z)) (hB : ∀ c, P c → B (decide (c ∈ z.cps.toList))) :
    Ev K a G (tOp (rInA K) ta tb) σ (IsB B) := by
  refine ev_op ha hb ?_
  rintro _ _ ⟨c, rfl, hc⟩ rfl
  exact R2D.inl fun S H x y f m1 m2 Q q => by
    cases m1
    cases m2
    exact ⟨c, z, rfl, rfl, q _ _ H Ext.refl (.bl _) ⟨_, rfl, hB c hc⟩⟩
/-! len -/
def lenD : PyData → Option Nat
  | .str x => some x.length
  | .list xs => some xs.length
  | .tuple xs => some xs.length
  | _ => none
theorem ev_len {cI : Int → Prop} (h : Ev K a G te σ C) (hl : ∀ d, C d → ∃ n, lenD d = some n ∧ n ≤ 1000000 ∧ cI (n : Nat)) : Ev K a G (tCB (rLenA K) (tCons te tNil)) σ (IsI cI) := fun S H1 f s Q q =>
  h S H1 f s _ fun v d H2 x2 m c => by
    obtain ⟨n, e, z, hn⟩ := hl d c
    have big : ∀ k : Nat, k ≤ 1000000 → k ≤ sizeLine := fun k hk => Nat.le_trans hk (by decide)
    cases m with
    | str x =>
      cases e
      exact ⟨.str x, x.length, rfl, ⟨big _ z, rfl⟩, q _ _ H2 x2 (.int _) ⟨_, rfl, hn⟩⟩
    | lst h1 h2 =>
      cases e
      exact ⟨_, _, rfl, .inl ⟨_, SqL.of (off_le _ _ h1), h2.length.symm⟩, q _ _ H2 x2 (.int _) ⟨_, rfl, hn⟩⟩
    | tup h1 h2 =>
      cases e
      exact ⟨_, _, rfl, .inr ⟨_, sqT_same off_le h1, h2.length.symm⟩, q _ _ H2 x2 (.int _) ⟨_, rfl, hn⟩⟩
    | _ => cases e
/-! all -/
theorem ev_all {B : Bool → Prop} (h : Ev K a G te σ C) (hl : ∀ d, C d → ∃ bs : List Bool, d = .list (bs.map .bool) ∧ B (bs.all id)) : Ev K a G (tCB (rAll K) (tCons te tNil)) σ (IsB B) := fun S H1 f s Q q =>
  h S H1 f s _ fun v d H2 x2 m c => by
    obtain ⟨bs, rfl, hB⟩ := hl d c
    cases m with
    | lst h1 h2 =>
      have e := h2.bools
      subst e
      exact ⟨_, bs, rfl, SqL.of (off_le _ _ h1), q _ _ H2 x2 (.bl _) ⟨_, rfl, hB⟩⟩
/-! items -/
theorem ev_ixL {cI : Int → Prop} (ha : Ev K a G ta σ C1) (hb : Ev K a G tb σ (IsI cI)) (hr : ∀ d i, C1 d → cI i → ∃ ds z, (d = .list ds ∨ d = .tuple ds) ∧ atI ds i = some z ∧ C z) : Ev K a G (tOp (rIx K) ta tb) σ C := by
  refine ev_op ha hb ?_
  rintro d _ c1 ⟨i, rfl, ci⟩
  obtain ⟨ds, z, e, hz, cz⟩ := hr d i c1 ci
  intro S H x y f m1 m2 Q q
  cases m2
  have item : ∀ {xs : List V}, DA K (off S H) xs ds → ∃ v, atI xs i = some v ∧ D K (off S H) v z := by
    intro xs da
    unfold atI at hz ⊢
    rw [da.length]
    cases hx : ixN ds.length i with
    | none =>
      rw [hx] at hz
      cases hz
    | some j =>
      rw [hx] at hz
      exact da.get hz
  rcases e with rfl | rfl
  · cases m1 with
    | lst h1 n1 =>
      obtain ⟨v, e1, e2⟩ := item n1
      exact .inl ⟨_, _, i, v, rfl, rfl, SqL.of (off_le _ _ h1), e1, q v z H Ext.refl e2 cz⟩
  · cases m1 with
    | tup h1 n1 =>
      obtain ⟨v, e1, e2⟩ := item n1
      exact .inr (.inl ⟨_, _, i, v, rfl, rfl, sqT_same off_le h1, e1, q v z H Ext.refl e2 cz⟩)
/-- a sign of a text -/
theorem ev_ixS {cI : Int → Prop} {z : Str} (ha : Ev K a G ta σ (· = .str z)) (hb : Ev K a G tb σ (IsI cI)) (hz : z.length ≤ 1000000) (hr : ∀ i, cI i → ∃ c, atI z.cps.toList i = some c ∧ C (.str ⟨#[c]⟩)) : Ev K a G (tOp (rIx K) ta tb) σ C := by
  refine ev_op ha hb ?_
  rintro _ _ rfl ⟨i, rfl, ci⟩
  obtain ⟨c, hc, cz⟩ := hr i ci
  intro S H x y f m1 m2 Q q
  cases m1
  cases m2
  exact .inr (.inr ⟨z, i, c, rfl, rfl, Nat.le_trans hz (by decide), hc, q _ _ H Ext.refl (.str _) cz⟩)
/-! a < b < c of ints -/
theorem et_chainI {cA cB cC : Int → Prop} {B : Bool → Prop} {g g' : Int → Int → Bool} (ha : Ev K a G ta σ (IsI cA)) (hb : Ev K a G tb σ (IsI cB)) (hc : Ev K a G tc σ (IsI cC)) (h : ∀ i j k, cA i → cB j → cC k → B (g i j && g' j k))
    (hf : ∀ i j, cA i → cB j → g i j = false → B false) : EvT a G (tTest (tChain (rI0 fun i j => .bl (g i j)) (rI0 fun i j => .bl (g' i j)) ta tb tc)) σ B := fun S H1 f s Q q =>
  ha S H1 f s _ fun v d H2 x2 m c => hb S H2 (f.ext x2) (f.same x2 s) _ fun w e H3 x3 m3 c3 => by
    obtain ⟨i, rfl, hi⟩ := c
    obtain ⟨j, rfl, hj⟩ := c3
    cases m
    cases m3
    refine ⟨i, j, rfl, rfl, g i j, rfl, ?_⟩
    cases hg : g i j with
    | false => exact ⟨false, rfl, q false H3 (x2.trans x3) (hf i j hi hj hg)⟩
    | true =>
      have f3 := (f.ext x2).ext x3
      refine hc S H3 f3 (f.same (x2.trans x3) s) _ fun z g2 H4 x4 m4 c4 => ?_
      obtain ⟨k, rfl, hk⟩ := c4
      cases m4
      have hB := h i j k hi hj hk
      rw [hg, Bool.true_and] at hB
      exact ⟨j, k, rfl, rfl, g' j k, rfl, q _ H4 ((x2.trans x3).trans x4) hB⟩
/-! what is walked -/
theorem wr_range {cI : Int → Prop} (h : Ev K a G te σ (IsI cI)) (hb : ∀ i, cI i → 0 ≤ i ∧ i < 100000) {S : List Addr} {H1 : Hp} (f : Fr a S H1) (s : Same G (off S H1)) (R : It → Hp → Prop) (q : ∀ n H2, Ext a H1 H2 → cI (n : Nat) → R (Itr 0 n) H2) : iRng1 (tCons te tNil) σ H1 R :=
  h S H1 f s _ fun v d H2 x2 m c => by
    obtain ⟨i, rfl, ci⟩ := c
    cases m
    obtain ⟨h1, h2⟩ := hb i ci
    have e : ((i.toNat : Nat) : Int) = i := Int.toNat_of_nonneg h1
    exact ⟨i, rfl, by omega, by omega, q i.toNat H2 x2 (by rw [e]; exact ci)⟩
theorem wr_str {z : Str} (h : Ev K a G te σ (· = .str z)) {S : List Addr} {H1 : Hp} (f : Fr a S H1) (s : Same G (off S H1)) (R : It → Hp → Prop) (q : ∀ H2, Ext a H1 H2 → R (Its z) H2) : iStr te σ H1 R :=
  h S H1 f s _ fun v d H2 x2 m c => by
    subst c
    cases m
    exact ⟨z, rfl, q H2 x2⟩
theorem et_yes : EvT a G tYes σ (· = true) := fun S H1 f s Q q => q true H1 Ext.refl rfl
/-- [e for k in range(n)] -/
theorem ev_lcR {cI : Int → Prop} {j : Nat} {Y : Nat → PyData → Prop} (h : Ev K a G ta σ (IsI cI)) (hb : ∀ i, cI i → 0 ≤ i ∧ i < 100000) (hj : ∀ x, wipe ((wipe σ [j]).set j (some x)) [j] = wipe σ [j])
    (he : ∀ i : Nat, Ev K a G te ((wipe σ [j]).set j (some (.int (i : Nat)))) (Y i)) :
    Ev K a G (tLc (iRng1 (tCons ta tNil)) (gName j) tYes te [j]) σ (fun d => ∃ n ds, cI (n : Nat) ∧ d = .list ds ∧ ds.length = n ∧ ∀ i z, ds[i]? = some z → Y i z) := by
  refine ev_lc (N := fun n => cI (n : Nat)) (J := fun n => Itr 0 n) (fun S H1 f s R q => wr_range h hb f s R q) (fun n i H' _ l => l) (fun n i H' _ l => l) ?_ ?_
  · rintro n i _ _ H' x H2 ⟨e1, e2⟩
    refine ⟨e1, hj x, et_yes, ?_⟩
    rw [e2, Int.zero_add]
    exact he i
  · intro n hn
    have := (hb _ hn).2
    omega
/-- [e for c in text] -/
theorem ev_lcS {z : Str} {j : Nat} {Y : Nat → PyData → Prop} (h : Ev K a G ta σ (· = .str z)) (hz : z.length < 100000) (hj : ∀ x, wipe ((wipe σ [j]).set j (some x)) [j] = wipe σ [j])
    (he : ∀ i c, z.cps[i]? = some c → Ev K a G te ((wipe σ [j]).set j (some (.str ⟨#[c]⟩))) (Y i)) :
    Ev K a G (tLc (iStr ta) (gName j) tYes te [j]) σ (fun d => ∃ ds, d = .list ds ∧ ds.length = z.length ∧ ∀ i z, ds[i]? = some z → Y i z) := by
  refine Ev.imp (ev_lc (Y := Y) (N := fun n => n = z.length) (J := fun n => Its z) (fun S H1 f s R q => wr_str h f s R fun H2 x2 => q z.length H2 x2 rfl) (fun n i H' e l => by subst e; exact l) (fun n i H' e l => by subst e; exact l) ?_ ?_) ?_
  · rintro n i hn _ H' x H2 ⟨e1, c, hc, e2⟩
    refine ⟨e1, hj x, et_yes, ?_⟩
    rw [e2]
    exact he i c hc
  · rintro n rfl
    exact hz
  · rintro d ⟨n, ds, rfl, e, hl, hY⟩
    exact ⟨ds, e, hl, hY⟩
end
end LK
set_option Elab.async false
set_option linter.all false
set_option maxRecDepth 100000
set_option maxHeartbeats 4000000
/-! LK6: written data, joined texts, items by a draw -/
namespace LK
open PySem PySem.Spec L2
open PyProof.Rows hiding St
section
variable {K : PySem.W.Frag} {a : Addr} {S : List Addr} {σ : St} {G H : Hp} {ta tb tc te : TE} {tr : TA} {C C1 C2 : PyData → Prop}
theorem ev_negE {i : Int} (h : Ev K a G te σ (· = .int i)) : Ev K a G (tUn (rU fun i => .int (-i)) te) σ (· = .int (-i)) := by
  refine ev_un h ?_
  rintro _ rfl S H x f m Q q
  cases m
  exact ⟨i, rfl, q _ _ H Ext.refl (.int _) rfl⟩
theorem ev_powE {i j : Int} (ha : Ev K a G ta σ (· = .int i)) (hb : Ev K a G tb σ (· = .int j)) (hc : CPow i j) : Ev K a G (tOp (rI CPow fun i j => .int (i ^ j.toNat)) ta tb) σ (· = .int (i ^ j.toNat)) := by
  refine ev_op ha hb ?_
  rintro _ _ rfl rfl
  exact r2_I hc (fun _ => .int _) rfl
theorem ev_dnew : Ev K a G tDNewK σ (· = .dict []) := fun S H1 f s Q q p hp =>
  q _ _ _ (Ext.new hp) (.dic (off_mk (f.out hp) upd_same) .nil) rfl
theorem ev_catL {ds es : List PyData} (ha : Ev K a G ta σ (· = .list ds)) (hb : Ev K a G tb σ (· = .list es)) (h : ds.length + es.length ≤ 1000000) : Ev K a G (tOp (rAddA K) ta tb) σ (· = .list (ds ++ es)) := by
  refine ev_op ha hb ?_
  rintro _ _ rfl rfl
  exact ra_lst h
theorem ev_catS {x y : Str} (ha : Ev K a G ta σ (· = .str x)) (hb : Ev K a G tb σ (· = .str y)) (h : x.length + y.length ≤ 1000000) : Ev K a G (tOp (rAddA K) ta tb) σ (· = .str (x ++ y)) := by
  refine ev_op ha hb ?_
  rintro _ _ rfl rfl
  exact ra_str h
theorem at_mem {ds : List PyData} {i : Int} (h0 : 0 ≤ i) (h1 : i < (ds.length : Nat)) : ∃ z, atI ds i = some z ∧ z ∈ ds := by
  have hl : i.toNat < ds.length := by omega
  refine ⟨ds[i.toNat], ?_, List.getElem_mem hl⟩
  have e : ((i.toNat : Nat) : Int) = i := Int.toNat_of_nonneg h0
  have h := atI_nat (List.getElem?_eq_getElem hl)
  rw [e] at h
  exact h
theorem at_memN {ds : List Nat} {i : Int} (h0 : 0 ≤ i) (h1 : i < (ds.length : Nat)) : ∃ z, atI ds i = some z ∧ z ∈ ds := by
  have hl : i.toNat < ds.length := by omega
  refine ⟨ds[i.toNat], ?_, List.getElem_mem hl⟩
  have e : ((i.toNat : Nat) : Int) = i := Int.toNat_of_nonneg h0
  have h := atI_nat (List.getElem?_eq_getElem hl)
  rw [e] at h
  exact h
/-- an item of a written list, by a draw -/
theorem ev_pick {ds : List PyData} (ha : Ev K a G ta σ (· = .list ds)) (hb : Ev K a G tb σ (IsI fun k => 0 ≤ k ∧ k < (ds.length : Nat))) : Ev K a G (tOp (rIx K) ta tb) σ (· ∈ ds) := by
  refine ev_ixL ha hb ?_
  rintro _ i rfl ⟨h0, h1⟩
  obtain ⟨z, e, m⟩ := at_mem h0 h1
  exact ⟨ds, z, .inl rfl, e, m⟩
/-- .. of a list whose items are told -/
theorem ev_pickL {n : Nat} {A : List PyData → Prop} (ha : Ev K a G ta σ (fun d => ∃ ds, d = .list ds ∧ A ds)) (hb : Ev K a G tb σ (IsI fun k => 0 ≤ k ∧ k < (n : Nat))) (hn : ∀ ds, A ds → ds.length = n ∧ ∀ z ∈ ds, C z) : Ev K a G (tOp (rIx K) ta tb) σ C := by
  refine ev_ixL ha hb ?_
  rintro _ i ⟨ds, rfl, hA⟩ ⟨h0, h1⟩
  obtain ⟨l, hC⟩ := hn ds hA
  obtain ⟨z, e, m⟩ := at_mem (ds := ds) h0 (by omega)
  exact ⟨ds, z, .inl rfl, e, hC z m⟩
/-- a sign of a written text, by a draw -/
theorem ev_pickS {z : Str} (ha : Ev K a G ta σ (· = .str z)) (hb : Ev K a G tb σ (IsI fun k => 0 ≤ k ∧ k < (z.length : Nat))) (hz : z.length ≤ 1000000) : Ev K a G (tOp (rIx K) ta tb) σ (fun d => ∃ c, d = .str ⟨#[c]⟩ ∧ c ∈ z.cps.toList) := by
  refine ev_ixS ha hb hz ?_
  rintro i ⟨h0, h1⟩
  obtain ⟨c, e, m⟩ := at_memN (ds := z.cps.toList) h0 (by rw [Array.length_toList]; exact h1)
  exact ⟨c, e, c, rfl, m⟩
end
/-! ### joined texts -/
theorem join_chars : ∀ ys : List Str, (Str.join Str.empty ys).cps.toList = (ys.map fun y => y.cps.toList).flatten
  | [] => rfl
  | [x] => by
    show x.cps.toList = ([x.cps.toList]).flatten
    simp
  | x :: y :: r => by
    have ih := join_chars (y :: r)
    show (x ++ Str.empty ++ Str.join Str.empty (y :: r)).cps.toList = _
    have e : ∀ u v : Str, (u ++ v).cps.toList = u.cps.toList ++ v.cps.toList := fun u v => Array.toList_append
    rw [e, e, ih]
    simp [Str.empty]
theorem empty_is : ("" : Str) = Str.empty := by decide +kernel
/-- one sign each -/
theorem join_ones {cs : List Nat} : (Txt.join ("" : Str) (cs.map fun c => (⟨#[c]⟩ : Str))).cps.toList = cs := by
  rw [TL.join_eq, empty_is, join_chars]
  induction cs with
  | nil => rfl
  | cons c r ih =>
    rw [List.map_cons, List.map_cons, List.flatten_cons, ih]
    rfl
section
variable {K : PySem.W.Frag} {a : Addr} {S : List Addr} {σ : St} {G H : Hp} {ta tb tc te : TE} {tr : TA} {C C1 C2 : PyData → Prop}
theorem DA.strs : ∀ {vs : List V} {ys : List Str}, DA K H vs (ys.map .str) → vs = ys.map V.str
  | _, [], h => by
    cases h
    rfl
  | _, b :: bs, h => by
    cases h with
    | cons h1 h2 =>
      cases h1
      rw [DA.strs h2]
      rfl
end
section
variable {X : Cx} {K : PySem.W.Frag} {o e : Expr} {es : List Expr} {to : TE} {t : TA} {pos apos : Pos}
abbrev rJoin (K : PySem.W.Frag) : V → List V → Hp → VK → Prop := fun x xs H Q => ∃ a p, ∃ ys : List Str, x = .str a ∧ xs = [.ref p] ∧ (SqL K H p (ys.map V.str) ∨ SqT K H p (ys.map V.str)) ∧ (ys.map (·.length)).sum + ys.length * a.length ≤ 16777216 ∧ Q (.str (Txt.join a ys)) H
theorem kJoin (e : X.K = K := by rfl) : MtR X "str.join" (rJoin K) := e ▸ mt_join
end
section
variable {K : PySem.W.Frag} {a : Addr} {S : List Addr} {σ : St} {G H : Hp} {ta tb tc te : TE} {tr : TA} {C C1 C2 : PyData → Prop}
theorem ev_join {z : Str} (h : Ev K a G te σ C) (hC : ∀ d, C d → ∃ ys : List Str, d = .list (ys.map .str) ∧ (ys.map (·.length)).sum + ys.length * z.length ≤ 16777216 ∧ C1 (.str (Txt.join z ys))) :
    Ev K a G (tBM K "str" (rJoin K) (tC (.str z)) (tCons te tNil)) σ C1 := fun S H1 f s Q q =>
  ⟨rfl, h S H1 f s _ fun v d H2 x2 m c => by
    obtain ⟨ys, rfl, hs, hc⟩ := hC d c
    cases m with
    | lst h1 h2 =>
      have e := h2.strs
      subst e
      exact ⟨z, _, ys, rfl, rfl, .inl (SqL.of (off_le _ _ h1)), hs, q _ _ H2 x2 (.str _) hc⟩⟩
/-- ''.join of a list of signs -/
theorem ev_joinS {P : Nat → Prop} {N : Nat → Prop} (h : Ev K a G te σ (fun d => ∃ n ds, N n ∧ d = .list ds ∧ ds.length = n ∧ ∀ (i : Nat) z, ds[i]? = some z → ∃ c, z = .str ⟨#[c]⟩ ∧ P c)) (hN : ∀ n, N n → n ≤ 1000) :
    Ev K a G (tBM K "str" (rJoin K) (tC (.str "")) (tCons te tNil)) σ (fun d => ∃ w : Str, d = .str w ∧ N w.length ∧ ∀ c ∈ w.cps.toList, P c) := by
  refine ev_join h ?_
  rintro _ ⟨n, ds, hn, rfl, hl, hY⟩
  obtain ⟨cs, e, hP⟩ : ∃ cs : List Nat, ds = cs.map (fun c => PyData.str ⟨#[c]⟩) ∧ ∀ c ∈ cs, P c := by
    clear h hN hn hl
    induction ds with
    | nil => exact ⟨[], rfl, by simp⟩
    | cons d r ih =>
      obtain ⟨cs, e, hc⟩ := ih fun i z hz => hY (i + 1) z (by simpa using hz)
      obtain ⟨c, ec, pc⟩ := hY 0 d rfl
      refine ⟨c :: cs, by rw [e, ec]; rfl, fun x hx => ?_⟩
      rcases List.mem_cons.mp hx with z | z
      · rw [z]
        exact pc
      · exact hc x z
  have ones := join_ones (cs := cs)
  refine ⟨cs.map fun c => (⟨#[c]⟩ : Str), by rw [e, List.map_map]; rfl, ?_, _, rfl, ?_, ?_⟩
  · have e1 : ((cs.map fun c => (⟨#[c]⟩ : Str)).map (·.length)).sum = cs.length := by
      rw [List.map_map]
      clear e hP ones
      induction cs with
      | nil => rfl
      | cons c r ih =>
        rw [List.map_cons, List.sum_cons, ih, List.length_cons, Nat.add_comm]
        rfl
    have e2 : ("" : Str).length = 0 := by decide +kernel
    have l : cs.length = n := by rw [← hl, e, List.length_map]
    have := hN n hn
    rw [e1, e2]
    omega
  · have l : cs.length = n := by rw [← hl, e, List.length_map]
    have e3 : (Txt.join ("" : Str) (cs.map fun c => (⟨#[c]⟩ : Str))).length = n := by
      show (Txt.join ("" : Str) (cs.map fun c => (⟨#[c]⟩ : Str))).cps.size = n
      rw [← Array.length_toList, ones, l]
    rw [e3]
    exact hn
  · rw [ones]
    exact hP
end
end LK
set_option Elab.async false
set_option linter.all false
set_option maxRecDepth 100000
set_option maxHeartbeats 4000000
/-! LK7: own exceptions whose __init__ names its own base class and keeps a field; made, raised, caught, asked; defaults -/
namespace LK
open PySem PySem.Spec L2
open PyProof.Rows hiding St

/-! ### classes -/
structure XC (K : PySem.W.Frag) (mg : Str → Option Value) (x : Str) (C : Addr) : Prop where
  g : mg x = some (.ref C)
  ox : OexC K C
  fl : XfC K C
  is : ExcC K C
  tp : PySem.W.typeIn K (.ref C) = some (.type "type")
  self : PySem.W.subIn K (.ref C) (.ref C) = some true
/-- a base class of the program's own over ValueError, as its heirs' __init__ names it -/
structure XB (K : PySem.W.Frag) (mg : Str → Option Value) (x : Str) (L : Addr) : Prop where
  g : mg x = some (.ref L)
  rd : ClX.CRead K L (.type "type")
  it : PySem.W.findCls K (.ref L) (.type "type") "__init__" = some (.val (.builtin "ValueError.__init__"))
theorem XC.exm {K : PySem.W.Frag} {mg : Str → Option Value} {x : Str} {C : Addr} (T : XC K mg x C) : PySem.W.exmOne K (.ref C) (.ref C) = some true :=
  PySem.W.exm_ref T.is.hs T.is.hd T.tp T.self
theorem kit_sub {K : PySem.W.Frag} {C B : Addr} {b : Bool} (h : PySem.W.subIn K (.ref C) (.ref B) = some b) (hs : PySem.W.subIn K (.ref C) (.ref C) = some true) (hc : PySem.W.isClsIn K B = true) (ht : PySem.W.typeIn K (.ref B) = some (.type "type")) :
    PySem.W.kitOne K (.ref C) (.ref B) = some b := by
  unfold PySem.W.kitOne
  by_cases e : C = B
  · subst e
    rw [h] at hs
    injection hs with hs
    rw [hs, if_pos (beq_self_eq_true _)]
  · rw [if_neg (by simpa using e)]
    unfold PySem.W.kitCls
    have hc' : (PySem.W.clsIn K B).isSome = true := hc
    dsimp only
    rw [hc', ht]
    exact h
theorem kit_subT {K : PySem.W.Frag} {C : Addr} {T : String} {b : Bool} (h : PySem.W.subIn K (.ref C) (.type T) = some b) (hm : PySem.W.kitMeta T = true) : PySem.W.kitOne K (.ref C) (.type T) = some b := by
  unfold PySem.W.kitOne
  rw [if_neg (by simp)]
  unfold PySem.W.kitCls
  dsimp only
  rw [hm]
  exact h

/-! ### __init__ -/
section
variable {X : Cx} {e : Expr} {es : List Expr} {ta : TA} {te : TE} {x : Str} {L : Addr} {p p1 p2 pos pos' : Pos}
def MethIs (X : Cx) (o : Expr) (m : Str) (p2 pos : Pos) (as : List Expr) (pl : Sem Bool) : Prop :=
  eval (.Call (.Attribute o m p2) as [] pos) X.env = (eval o X.env >>= fun ov => standAt p2.atName >>= fun _ => holding [ov] (getMethod ov m pl) >>= fun fx => callWith pos fx.1 fx.2 (backTo pos (starEach as X.env)) (backToKw pos (keywordEach [] X.env)))
theorem pe_bi (B : XB X.K X.mg x L) (hg : Gl X x) (ha : PA X (e :: es) ta) {pl : Sem Bool} (hc : MethIs X (.Name x p1) "__init__" p2 pos (e :: es) pl := by rfl) (hdb : (x == ("__debug__" : Str)) = false := by decide)
    (he : starEach (e :: es) X.env = (false, eval e X.env) :: starEach es X.env := by rfl) (hpl : (backTo pos (starEach es X.env)).any (·.1) = false := by rfl) :
    PE X (.Call (.Attribute (.Name x p1) "__init__" p2) (e :: es) [] pos) (tVeI X.K ta) := by
  constructor
  intro pins s σ H Q I h
  apply PySem.W.methodCall_KW (pl := pl) _ hc
  apply ld_glob I hg B.g _ hdb
  apply PySem.W.method_cls I.kIn B.rd.ga
  apply PySem.W.cls_value I.kIn B.rd.rd B.it (by decide +kernel)
  show wpAny (model X.prog X.w) X.A (callWith pos (.builtin "ValueError.__init__") [] (backTo pos (starEach (e :: es) X.env)) []) _ _ _
  apply callWith_method1 _ he hpl
  apply thn (ha.run pos pins _ σ H _ (I.tok _) h)
  rintro us s1 ⟨vs, H1, I1, r1, a, C, ws, rfl, hl, T, ea, q⟩
  cases r1 with
  | @cons _ u0 _ ur ra rw' =>
    cases (show u0 = Value.ref a from ra)
    have hlen : ur.length ≤ sizeLine := by
      have := Paired.length rw'
      rw [sizeLine_eq]
      omega
    exact oinit_ok T I1 ea hlen fun s' J => ⟨.non, H1, J, rfl, q⟩
end
/-- [self, v]: the exception without a dict; behind it its dict holds f = v -/
def spI (C : Addr) (f : Str) : Sp := fun vs H Q _ => ∃ (a : Addr) (v : V), vs = [.ref a, v] ∧ H a = some (exo a C none) ∧ ∀ dx, H dx = none → dx ≠ a → Q .non (upd (upd H dx (exd dx [(f, v)])) a (exo a C (some dx)))
theorem rd_init {K : PySem.W.Frag} {C : Addr} {f z : Str} {vs : List V} {H : Hp} {Q : VK} {E : XK} {p0 p1 : Str} (T : OexC K C) (hno : PySem.W.findIn K (.ref C) f = some none) (h : spI C f vs H Q E) :
    tSeq (tDrop (tVeI K (tCons (tVar 0) (tCons (tC (.str z)) tNil)))) (tOst K f (tVar 0) (tVar 1)) { nx := fun _ H' => Q .non H', rt := Q } (start [p0, p1] vs) H := by
  obtain ⟨a, v, rfl, ea, q⟩ := h
  refine ⟨.ref a, rfl, a, C, [.str z], rfl, (by show 1 ≤ 1000; decide), T, ea, v, rfl, .ref a, rfl, a, C, rfl, T, hno, .inl ⟨ea, fun dx hn hne => q dx hn hne⟩⟩

/-! ### a class that may be raised: C(v) -/
structure XR (P : Program) (w : World) (K : PySem.W.Frag) (mg : Str → Option Value) (base : Heap) (x : Str) (C : Addr) (f : Str) : Prop where
  c : XC K mg x C
  init : ∃ (fI : Addr) (fd : FuncData) (ps : List Str), PySem.W.findIn K (.ref C) "__init__" = some (some (.ref fI)) ∧ PySem.W.typeIn K (.ref fI) = some (.type "function") ∧ FnOk P w K mg base CX0 1 fI fd ps (spI C f) ∧ Binds K fd ps []
/-- a reading, made weaker in its end -/
def tUp (te : TE) : TE := fun σ H Q => ∃ K1 : VK, te σ H K1 ∧ ∀ v H1, K1 v H1 → Q v H1
section
variable {X : Cx} {e : Expr} {te : TE} {x f : Str} {C : Addr} {p pos pos' : Pos} {W : WX}
theorem pe_up (h : PE X e te) : PE X e (tUp te) := by
  constructor
  rintro pins s σ H Q I ⟨K1, h1, h2⟩
  apply thn (h.run pins s σ H K1 I h1)
  rintro u s1 ⟨v, H1, I1, r, q⟩
  exact ⟨v, H1, I1, r, h2 v H1 q⟩
def tMkV (C : Addr) (f : Str) (te : TE) : St → Hp → XK → Prop := fun σ H Q => te σ H fun v H1 => ∀ (dd : Addr) (H' : Hp), Same H1 H' → H1 dd = none → H' dd = some (.xd [(f, v)]) → Q (.ref C) (some dd) H'
theorem pmk_v (R : XR X.prog X.w X.K X.mg X.base x C f) (hr : Room 2 X.A) (hg : Gl X x) (he : PE X e te) (hdb : (x == ("__debug__" : Str)) = false := by decide)
    (hs : starEach [e] X.env = (false, eval e X.env) :: starEach [] X.env := by rfl) (hpl : (backTo pos (starEach [] X.env)).any (·.1) = false := by rfl) : PMk X (.Call (.Name x p) [e] [] pos) (tMkV C f te) := by
  obtain ⟨fI, fd, ps, iC, tI, F1, hb⟩ := R.init
  intro pins s σ H Q I h
  refine pmk_oex (ds := []) (dvs := []) R.c.ox iC tI F1 hr hb .nil pass0 hg R.c.g (pa_cons (pe_up he) pa_nil hs) hdb hs hpl pins s σ H Q I ⟨_, h, fun v H1 k => ⟨(by show 1 ≤ 1000; decide), fun a na => ?_⟩⟩
  refine ⟨a, v, rfl, upd_same, fun dx nd ne => ⟨rfl, dx, [(f, v)], upd_same, ?_, ?_, ?_⟩⟩
  · rw [upd_ne ne]
    exact upd_same
  · rw [upd_ne ne] at nd
    exact nd
  · have nd' : H1 dx = none := by
      rw [upd_ne ne] at nd
      exact nd
    refine k dx _ (fun b o e => ?_) nd' upd_same
    have ba := ne_of_none e na
    rw [upd_ne (ne_of_none e nd'), del_ne ba, upd_ne ba, upd_ne (ne_of_none e nd'), upd_ne ba]
    exact e
/-- raise C(e) -/
def tRse (C : Addr) (f : Str) (W : WX) (te : TE) : TS := fun _ σ H => tMkV C f te σ H fun cls d H' => W cls d σ H'
theorem ps_rse (hc : X.calm = true) (tk : Takes X W) (R : XR X.prog X.w X.K X.mg X.base x C f) (hr : Room 2 X.A) (hg : Gl X x) (he : PE X e te) (hdb : (x == ("__debug__" : Str)) = false := by decide)
    (hs : starEach [e] X.env = (false, eval e X.env) :: starEach [] X.env := by rfl) (hpl : (backTo pos (starEach [] X.env)).any (·.1) = false := by rfl) : PS X (.Raise (some (.Call (.Name x p) [e] [] pos)) none pos') (tRse C f W te) :=
  ps_raise hc tk (pmk_v R hr hg he hdb hs hpl)
end

/-! ### calls that may raise, with defaults -/
structure DfX (P : Program) (w : World) (K : PySem.W.Frag) (mg : Str → Option Value) (base : Heap) (CX : CXT) (k : Nat) (x : Str) (ps : List Str) (dvs : List V) (sp : Sp) : Prop where
  ex : ∃ (f : Addr) (fd : FuncData), FnG P w K mg base CX k f fd ps sp ∧ mg x = some (.ref f) ∧ PySem.W.keepIn K (.ref f) = true ∧ ∃ ds, Vals dvs ds ∧ Binds K fd ps ds
def tCallX (sp : Sp) (dvs : List V) (E : St → XK) (t : TA) : TE := fun σ H Q => t σ H fun vs H1 => sp (vs ++ dvs) H1 Q (E σ)
section
variable {X : Cx} {CX : CXT} {k : Nat} {ps : List Str} {sp : Sp} {dvs : List V} {E : St → XK} {x : Str} {p pos : Pos} {e : Expr} {es : List Expr} {t : TA}
theorem pe_fnX (F : DfX X.prog X.w X.K X.mg X.base CX k x ps dvs sp) (hg : NoG X.A) (hr : Room k X.A) (hgl : Gl X x) (hx : ∀ σ, PassesAt CX X σ (E σ)) (ha : PA X (e :: es) t)
    (hdb : (x == ("__debug__" : Str)) = false := by decide) (he : starEach (e :: es) X.env = (false, eval e X.env) :: starEach es X.env := by rfl) (hpl : (backTo pos (starEach es X.env)).any (·.1) = false := by rfl) :
    PE X (.Call (.Name x p) (e :: es) [] pos) (tCallX sp dvs E t) := by
  obtain ⟨f, fd, G, hm, hk, ds, rd, hb⟩ := F.ex
  constructor
  intro pins s σ H Q I h
  apply wpAny_Call_Name_kw
  apply ld_glob I hgl hm _ hdb
  apply PySem.W.callWith_K (h₀ := X.base) I.ok.mod.kin hk _ he hpl
  apply thn (ha.run pos pins s σ H _ I h)
  rintro us s1 ⟨vs, H1, I1, r, q⟩
  have r2 : Vals (vs ++ dvs) (us ++ ds) := r.append rd
  have l : (us ++ ds).length = ps.length := by
    rw [← r2.length]
    exact G.size _ _ _ _ q
  refine ⟨I1.kIn, wpAny_call (codeAny_mono (G.go X.A hg hr X.stack s1 H1 I1.env0 ⟨us, []⟩ (us ++ ds) (vs ++ dvs) Q (E σ) (hb s1 us I1.kIn l) r2 q) fun r' s' q' => ?_)⟩
  rcases r' with er | fl
  · exact hx σ pins H1 s1 er s' I1 q'
  · cases fl
    case ret u => exact I1.after q'
    all_goals exact False.elim q'
end
/-- a def with defaults -/
theorem FunD.okG {P : Program} {w : World} {K : PySem.W.Frag} {mg : Str → Option Value} {base : Heap} {x qual : Str} {params : Arguments} {body : List Stmt} {scope : Scope} {dvs : List V} {kws : List (Str × V)} {f : Addr} {fd : FuncData}
    {CX : CXT} {N ps : List Str} {k : Nat} {sp : Sp} (F : FunD K x qual params body scope dvs kws f fd) (S : FnScope N ps scope) (len : ∀ vs H Q E, sp vs H Q E → vs.length = ps.length)
    (hbody : ∀ (cdv : Value) (A : Around) (outer : List Env) (s : Shared) (H : Hp) (vs : List V) (Q : VK) (E : XK), NoG A → Room k (A.deeper (envOfC qual scope s.heap.objs.size f cdv)) → sp vs H Q E →
      ∃ t, PSs (cxOf CX P w K mg base N qual scope f cdv A outer s H E) body t ∧ t { nx := fun _ H' => Q .non H', rt := Q } (start N vs) H) : FnG P w K mg base CX (k + 1) f fd ps sp := by
  obtain ⟨oc, od, dV, kV, doc, pm, an, cdv, ct, osl, rfl, lk, hcd, _, _⟩ := F.ex
  exact fn_ofG lk hcd S len fun A outer s H vs Q E hg hr hsp => hbody cdv A outer s H vs Q E hg hr hsp
theorem fund_mk {K : PySem.W.Frag} {x qual : Str} {st : Stmt} {f T : Addr} {oc tc : Value} {od an td : Option Addr} {osl tsl : Array (Option Value)} {kV doc pm cdv ct : Value} {its : List Value} {n : Nat} {dvs : List V}
    (l : K.lookup f = some ⟨oc, od, .func (PySem.W.fnOf x qual (defArgs st) (defBody st) (defScope st) (.ref T) kV doc pm an cdv ct), osl⟩) (c : PySem.W.codeIn K cdv qual = true) (k : PySem.W.keepIn K (.ref f) = true)
    (lT : K.lookup T = some ⟨tc, td, .seq its.toArray n, tsl⟩) (r : Vals dvs its) (hd : dvs ≠ []) : FunD K x qual (defArgs st) (defBody st) (defScope st) dvs [] f (PySem.W.fnOf x qual (defArgs st) (defBody st) (defScope st) (.ref T) kV doc pm an cdv ct) :=
  ⟨⟨oc, od, .ref T, kV, doc, pm, an, cdv, ct, osl, rfl, l, c, .inr ⟨hd, T, _, its, n, rfl, lT, rfl, r⟩, .inl rfl⟩, k⟩
/-- names alone, defaults looked up but not used -/
theorem FunD.kb0 {K : PySem.W.Frag} {x qual : Str} {params : Arguments} {body : List Stmt} {scope : Scope} {dvs : List V} {kws : List (Str × V)} {f : Addr} {fd : FuncData} {ps ks : List Str} {g : {α : Type} → List α → List α}
    (F : FunD K x qual params body scope dvs kws f fd) (hd : dvs ≠ []) (hrel : ∀ {zs : List V} {ws : List Value}, Vals zs ws → Vals (g zs) (g ws))
    (h : ∀ (T : Addr) (kV doc pm : Value) (an : Option Addr) (cdv ct : Value) (ws its : List Value), ws.length = ks.length → its.length = dvs.length →
      ∃ k, bindArgs (PySem.W.fnOf x qual params body scope (.ref T) kV doc pm an cdv ct) ⟨[], ks.zip ws⟩ = seqItems? (.ref T) >>= k ∧ k (some its.toArray) = pure (ps.zip (g ws))) : KB0 K fd ps ks g := by
  obtain ⟨oc, od, dV, kV, doc, pm, an, cdv, ct, osl, rfl, lk, hcd, hD, _⟩ := F.ex
  rcases hD with ⟨e, _⟩ | ⟨_, T, o, its, m, rfl, lT, oT, rT⟩
  · exact absurd e hd
  · refine ⟨fun s ws X hl => ?_, hrel⟩
    obtain ⟨k, e1, e2⟩ := h T kV doc pm an cdv ct ws its hl rT.length.symm
    apply BindsTo.of_looks
    intro M
    rw [e1]
    exact looks_items X lT oT (.of_pure e2)

/-! ### the caught exception: its field, isinstance -/
/-- the dict of the exception holds fs -/
def rIsX (K : PySem.W.Frag) (a : Addr) (cls : Value) (d : Option Addr) : List V → Hp → VK → Prop := fun xs H Q => ∃ (C : Addr) (c : V) (b : Bool), xs = [.ref a, c] ∧ cls = .ref C ∧ ExcC K C ∧ (∀ dx, d = some dx → ∃ fs, H dx = some (.xd fs)) ∧
  ((∃ u, ClsV c u ∧ PySem.W.kitOne K (.ref C) u = some b) ∨ (∃ tp cs us, c = .ref tp ∧ H tp = some (.tup cs) ∧ Paired ClsV cs us ∧ PySem.W.kitAny K (.ref C) us = some b)) ∧ Q (.bl b) H
section
variable {X : Cx} {a : Addr} {oe : Obj} {cls : Value} {d : Option Addr} {pn : List (Addr × Obj)}
theorem call_isX (hz : Zc cls d oe) (hf : ∃ vs, oe.data = .fields vs) : CallR (X.suite a ((a, oe) :: pn)) (.builtin "isinstance") (rIsX X.K a cls d) := by
  intro pins s σ H xs us Q I r h
  obtain ⟨C, c, b, rfl, rfl, T, hdd, hk, q⟩ := h
  cases r with
  | cons rx rr =>
    cases rr with
    | cons rt rr =>
      cases rr
      cases rx
      have hget := (I.pin (a, oe) (List.mem_append_left _ List.mem_cons_self)).1
      obtain ⟨vs, hv⟩ := hf
      have J : ∃ od, PySem.W.InstAt s.heap a oe C od := by
        have hno : PySem.W.notCls oe = true := by
          unfold PySem.W.notCls
          rw [hv] <;> rfl
        obtain ⟨h1, h2⟩ := hz
        cases d with
        | none => exact ⟨none, hget, h1, hno, by rw [h2]; exact True.intro⟩
        | some dx =>
          obtain ⟨fs, hfs⟩ := hdd dx rfl
          obtain ⟨o, ho⟩ := objOk_get (I.hok dx _ hfs)
          exact ⟨some o, hget, h1, hno, by rw [h2]; exact ho⟩
      obtain ⟨od, J⟩ := J
      have hcl : (PySem.W.clsIn X.K C).isSome = true := by
        have := T.hd
        unfold PySem.W.hasDictIn at this
        cases hc : PySem.W.clsIn X.K C with
        | some _ => rfl
        | none =>
          rw [hc] at this
          cases this
      have Z := PySem.W.kitx_exc (x := a) (ox := oe) (od := od) hcl T.hg T.hk T.hs T.ha T.hn T.ht T.hm
      rcases hk with ⟨u, hu, e⟩ | ⟨tp, cs, ws, rfl, hT, k, e⟩
      · cases hu.eq rt
        exact PySem.W.kia_one Z I.kIn J e (fun z => nomatch z) fun tk => ⟨.bl b, H, I.tok tk, rfl, q⟩
      · cases rt
        obtain ⟨_, its, rv, o, h1, h2, n, h3⟩ := (show ObjOk X.prog X.w H s.heap tp (.tup cs) from I.hok tp _ hT)
        cases ClsV.all k rv
        obtain ⟨oc, od', dt, sl⟩ := o
        simp only at h2 h3
        subst h2 h3
        exact PySem.W.kia_tup Z I.kIn J h1 e (fun z => nomatch z) fun tk => ⟨.bl b, H, I.tok tk, rfl, q⟩
theorem kIsX {K : PySem.W.Frag} (hz : Zc cls d oe) (hf : ∃ vs, oe.data = .fields vs) (e : X.K = K := by rfl) : CallR (X.suite a ((a, oe) :: pn)) (.builtin "isinstance") (rIsX K a cls d) := e ▸ call_isX hz hf
/-- e.f -/
def tXg (K : PySem.W.Frag) (a : Addr) (cls : Value) (d : Option Addr) (f : Str) (te : TE) : TE := fun σ H Q => te σ H fun x H1 => x = .ref a ∧ ∃ (C dd : Addr) (fs : List (Str × V)) (v : V), cls = .ref C ∧ XfC K C ∧ PySem.W.findIn K (.ref C) f = some none ∧ d = some dd ∧ H1 dd = some (.xd fs) ∧ fs.lookup f = some v ∧ Q v H1
theorem pe_xg {e : Expr} {te : TE} {pos : Pos} {n : Str} (hz : Zc cls d oe) (hf : ∃ vs, oe.data = .fields vs) (he : PE (X.suite a ((a, oe) :: pn)) e te)
    (hb : attributeBase e n X.env (eval e X.env) = eval e X.env := by rfl) : PE (X.suite a ((a, oe) :: pn)) (.Attribute e n pos) (tXg X.K a cls d n te) := by
  constructor
  intro pins s σ H Q I h
  apply attr_of hb
  apply thn (he.run pins s σ H _ I h)
  rintro u s1 ⟨x, H1, I1, rx, rfl, C, dd, fs, v, rfl, T, hno, rfl, ea, l, q⟩
  cases (show u = Value.ref a from rx)
  have hx : ObjOk X.prog X.w H1 s1.heap dd (.xd fs) := I1.hok dd _ ea
  obtain ⟨mA, hns, hr⟩ := hx
  obtain ⟨od, ho, hl⟩ := lookIn_ns hns
  obtain ⟨u, hu, ru⟩ := RelO.some_of (v := v) (o := mA n) (by rw [← l]; exact hr n)
  have J : PySem.W.InstAt s1.heap a oe C (some od) := by
    obtain ⟨vs, hd⟩ := hf
    refine ⟨(I1.pin (a, oe) (List.mem_append_left _ List.mem_cons_self)).1, hz.1, ?_, ?_⟩
    · unfold PySem.W.notCls
      rw [hd] <;> rfl
    · rw [hz.2]
      exact ho
  have ff := PySem.W.findObj_own (od := od) T.hdC hno rfl (by rw [hl, hu])
  apply HandSPX.exc_get I1.kIn J T.ga T.gg T.exC ff (handed_of ru)
  exact ⟨v, H1, I1.tok _, ru, q⟩
end

/-! ### promises with a way out, by data -/
def spX (K : PySem.W.Frag) (C : Addr) (f : Str) (pre : List PyData → Prop) (post rp : List PyData → PyData → Prop) : Sp := fun vs H Q E => ∃ (a : Addr) (S : List Addr) (ds : List PyData),
  Fr a S H ∧ DA K (off S H) vs ds ∧ pre ds ∧ (∀ v d H', Ext a H H' → D K (off S H') v d → post ds d → Q v H') ∧
    ∀ v d dd H', Ext a H H' → D K (off S H') v d → rp ds d → H' dd = some (.xd [(f, v)]) → dd ∉ S → E (.ref C) (some dd) H'
theorem spX_len {K : PySem.W.Frag} {C : Addr} {f : Str} {pre : List PyData → Prop} {post rp : List PyData → PyData → Prop} {n : Nat} (hp : ∀ ds, pre ds → ds.length = n) {vs : List V} {H : Hp} {Q : VK} {E : XK} (h : spX K C f pre post rp vs H Q E) : vs.length = n := by
  obtain ⟨a, S, ds, _, m, p, _⟩ := h
  rw [m.length]
  exact hp ds p
section
variable {K : PySem.W.Frag} {a : Addr} {S : List Addr} {σ : St} {G H : Hp} {ta tb te : TE} {tr : TA} {C C1 C2 : PyData → Prop} {A1 : List PyData → Prop} {Dn : Ends} {W : WX} {Cl : Addr} {f : Str}
theorem q_rse (h : Ev K a G te σ C) (fr : Fr a S H) (s : Same G (off S H)) (q : ∀ v d dd H', Ext a H H' → Fr a S H' → D K (off S H') v d → C d → H' dd = some (.xd [(f, v)]) → dd ∉ S → W (.ref Cl) (some dd) σ H') : tRse Cl f W te Dn σ H :=
  h S H fr s _ fun v d H2 x m c dd H' sm nd hd => q v d dd H' (x.trans (Ext.of_same sm)) (fr.ext (x.trans (Ext.of_same sm))) (m.mono ((Ext.of_same sm).off fr.mem)) c hd ((fr.ext x).out nd)
/-! ### ints compared -/
theorem ev_eqI {cI cJ : Int → Prop} {cB : Bool → Prop} (ha : Ev K a G ta σ (IsI cI)) (hb : Ev K a G tb σ (IsI cJ)) (hr : ∀ i j, cI i → cJ j → cB (decide (i = j))) : Ev K a G (tOp (rEqA K) ta tb) σ (IsB cB) := by
  refine ev_op ha hb ?_
  rintro _ _ ⟨i, rfl, hi⟩ ⟨j, rfl, hj⟩
  refine R2D.inl fun S H x y f mx my Q q => ?_
  cases mx
  cases my
  refine ⟨rfl, q _ (.bool (decide (i = j))) H Ext.refl ?_ ⟨_, rfl, hr i j hi hj⟩⟩
  have e : decide (V.int i = V.int j) = decide (i = j) := by simp
  rw [e]
  exact .bl _
theorem ev_neI {cI cJ : Int → Prop} {cB : Bool → Prop} (ha : Ev K a G ta σ (IsI cI)) (hb : Ev K a G tb σ (IsI cJ)) (hr : ∀ i j, cI i → cJ j → cB (!decide (i = j))) : Ev K a G (tOp (rNeA K) ta tb) σ (IsB cB) := by
  refine ev_op ha hb ?_
  rintro _ _ ⟨i, rfl, hi⟩ ⟨j, rfl, hj⟩
  refine R2D.inl fun S H x y f mx my Q q => ?_
  cases mx
  cases my
  refine ⟨rfl, q _ (.bool (!decide (i = j))) H Ext.refl ?_ ⟨_, rfl, hr i j hi hj⟩⟩
  have e : decide (V.int i = V.int j) = decide (i = j) := by simp
  rw [e]
  exact .bl _
end
/-! ### // by any divisor but 0 -/
def CDivV (_ j : Int) : Prop := j ≠ 0 ∧ j.natAbs.log2 < 9000
theorem op_fdivV {X : Cx} : OpR X (binaryOp .FloorDiv) (rI CDivV fun i j => .int (i.fdiv j)) := by
  refine opI (g := fun i j => i.fdiv j) fun i j _ _ _ _ _ hc q => ?_
  exact floordiv_int hc.1 q (.inl (PyProof.noPylong_of_log2 hc.2))
theorem div_ok {i j : Int} {b : Nat} (h : j ≠ 0) (hb : j.natAbs < 2 ^ b) (h0 : 0 < b) (h9 : b ≤ 9000) : CDivV i j := ⟨h, Nat.lt_of_lt_of_le (PySem.Flt.log2_lt_of h0 hb) h9⟩
end LK
set_option Elab.async false
set_option linter.all false
set_option maxRecDepth 100000
set_option maxHeartbeats 4000000
/-! LK8: sizes of data, pairs of slots, walks over a tuple's items, ratios -/
namespace LK
open PySem PySem.Spec L2
open PyProof.Rows hiding St

/-! ### sizes -/
structure Sz (n k : Nat) (d : PyData) : Prop where
  sh : d.showable = true
  lv : d.leavesShort 2000 = true
  bk : d.bulk ≤ n
  dp : d.depth ≤ k
theorem Sz.tame {n k : Nat} {d : PyData} (h : Sz n k d) (hn : n ≤ 8000 := by decide) (hk : k ≤ 60 := by decide) : Tame d := ⟨h.sh, h.lv, Nat.le_trans h.bk hn, Nat.le_trans h.dp hk⟩
theorem Sz.up {n k m j : Nat} {d : PyData} (h : Sz n k d) (hn : n ≤ m) (hk : k ≤ j) : Sz m j d := ⟨h.sh, h.lv, Nat.le_trans h.bk hn, Nat.le_trans h.dp hk⟩
theorem sz_all {n k : Nat} : ∀ ds : List PyData, (∀ d ∈ ds, Sz n k d) → PyData.showableAll ds = true ∧ PyData.leavesShortAll 2000 ds = true ∧ PyData.bulkAll ds ≤ ds.length * (n + 1) ∧ PyData.depthAll ds ≤ k
  | [], _ => ⟨by simp [PyData.showableAll], by simp [PyData.leavesShortAll], by simp [PyData.bulkAll], by simp [PyData.depthAll]⟩
  | d :: ds, h => by
    obtain ⟨a, b, c, e⟩ := sz_all ds fun z m => h z (List.mem_cons_of_mem _ m)
    obtain ⟨a1, b1, c1, e1⟩ := h d List.mem_cons_self
    refine ⟨by simp [PyData.showableAll, a, a1], by simp [PyData.leavesShortAll, b, b1], ?_, ?_⟩
    · simp only [PyData.bulkAll, List.length_cons, Nat.add_mul, Nat.one_mul]
      omega
    · simp only [PyData.depthAll]
      omega
theorem Sz.list {n k : Nat} {ds : List PyData} (h : ∀ d ∈ ds, Sz n k d) : Sz (ds.length * (n + 1)) (k + 1) (.list ds) := by
  obtain ⟨a, b, c, e⟩ := sz_all ds h
  refine ⟨by simp [PyData.showable, a], by simp [PyData.leavesShort, b], ?_, ?_⟩
  · simp only [PyData.bulk]
    exact c
  · simp only [PyData.depth]
    omega
theorem Sz.tup {n k : Nat} {ds : List PyData} (h : ∀ d ∈ ds, Sz n k d) : Sz (ds.length * (n + 1)) (k + 1) (.tuple ds) := by
  obtain ⟨a, b, c, e⟩ := sz_all ds h
  refine ⟨by simp [PyData.showable, a], by simp [PyData.leavesShort, b], ?_, ?_⟩
  · simp only [PyData.bulk]
    exact c
  · simp only [PyData.depth]
    omega
theorem sz_int {i : Int} (h : i.natAbs < 2 ^ 1000) : Sz 0 0 (.int i) := by
  have hl : i.natAbs.log2 < 1001 := by
    by_cases z : i.natAbs = 0
    · rw [z]
      decide
    · exact Nat.lt_succ_of_lt ((Nat.log2_lt z).mpr h)
  refine ⟨?_, ?_, by simp [PyData.bulk], by simp [PyData.depth]⟩
  · simp only [PyData.showable, decide_eq_true_eq]
    omega
  · simp only [PyData.leavesShort, decide_eq_true_eq, PyData.shown_int]
    have := int_text_length_le (a := i) (k := 1001) (by decide) hl
    rw [PySem.ofString_length]
    omega
theorem sz_bool {b : Bool} : Sz 0 0 (.bool b) := ⟨by simp [PyData.showable], by simp [PyData.leavesShort], by simp [PyData.bulk], by simp [PyData.depth]⟩
def szB (n k : Nat) (d : PyData) : Bool := d.showable && d.leavesShort 2000 && decide (d.bulk ≤ n) && decide (d.depth ≤ k)
theorem Sz.of {n k : Nat} {d : PyData} (h : szB n k d = true) : Sz n k d := by
  unfold szB at h
  simp only [Bool.and_eq_true, decide_eq_true_eq] at h
  exact ⟨h.1.1.1, h.1.1.2, h.1.2, h.2⟩

section
variable {K : PySem.W.Frag} {a : Addr} {S : List Addr} {σ : St} {G H : Hp} {ta tb te : TE} {tt : TT} {tr : TA} {C C1 C2 : PyData → Prop} {B : Bool → Prop} {A1 : List PyData → Prop} {Dn : Ends}
/-- x, y = e, f -/
theorem q_par {i j : Nat} (ha : Ev K a G ta σ C1) (hb : Ev K a G tb σ C2) (f : Fr a S H) (s : Same G (off S H))
    (q : ∀ v w d e H', Ext a H H' → Fr a S H' → D K (off S H') v d → D K (off S H') w e → C1 d → C2 e → Dn.nx ((σ.set i (some v)).set j (some w)) H') : tPar i j (tCons ta (tCons tb tNil)) Dn σ H :=
  ha S H f s _ fun v d H1 x1 m1 c1 => hb S H1 (f.ext x1) (f.same x1 s) _ fun w e H2 x2 m2 c2 =>
    ⟨v, w, rfl, q v w d e H2 (x1.trans x2) ((f.ext x1).ext x2) (m1.mono (x2.off f.mem)) m2 c1 c2⟩
/-- if t: x = e, where x holds something before -/
theorem q_opt {i : Nat} {R : TS} {v0 : V} {d0 : PyData} (ht : EvT a G tt σ B) (he : Ev K a G te σ C) (hi : σ[i]? = some (some v0)) (m0 : D K (off S H) v0 d0) (c0 : C d0) (f : Fr a S H) (s : Same G (off S H))
    (q : ∀ v d H', Ext a H H' → Fr a S H' → D K (off S H') v d → C d → R Dn (σ.set i (some v)) H') : tSeq (tIfS tt (tAsg te (gName i)) tNext) R Dn σ H := by
  refine ht S H f s _ fun b H1 x1 _ => ?_
  cases b with
  | true => exact he S H1 (f.ext x1) (f.same x1 s) _ fun v d H2 x2 m c => q v d H2 (x1.trans x2) ((f.ext x1).ext x2) m c
  | false =>
    have e : σ.set i (some v0) = σ := by
      apply List.ext_getElem?
      intro j
      by_cases h : i = j
      · subst h
        rw [hi]
        have hl : i < σ.length := by
          by_cases h : i < σ.length
          · exact h
          · rw [List.getElem?_eq_none (by omega)] at hi
            cases hi
        rw [List.getElem?_set_self hl]
      · rw [List.getElem?_set_ne h]
    have z := q v0 d0 H1 x1 (f.ext x1) (m0.mono (x1.off f.mem)) c0
    rw [e] at z
    exact z
theorem ev_I {σ : St} {te : TE} {i : Int} {cI : Int → Prop} (h : Ev K a G te σ (· = .int i)) (hc : cI i) : Ev K a G te σ (IsI cI) := ev_isI h hc
/-- abs -/
def rAbs : List V → Hp → VK → Prop := fun xs H Q => ∃ i, xs = [V.int i] ∧ Q (V.int (if i < 0 then -i else i)) H
theorem ev_abs {i : Int} (h : Ev K a G te σ (· = .int i)) : Ev K a G (tCB (fun xs H Q => ∃ i, xs = [V.int i] ∧ Q (V.int (if i < 0 then -i else i)) H) (tCons te tNil)) σ (· = .int (i.natAbs : Int)) := by
  refine ev_cb (A1 := (· = [.int i])) (ea_eq h ea_nil) ?_
  rintro _ rfl S H vs f m Q q
  obtain ⟨v, rfl, mv⟩ : ∃ v, vs = [v] ∧ D K (off S H) v (.int i) := by
    cases m with
    | cons m1 m2 =>
      cases m2
      exact ⟨_, rfl, m1⟩
  cases mv
  have e : (if i < 0 then -i else i) = (i.natAbs : Int) := by
    split <;> omega
  refine ⟨i, rfl, ?_⟩
  rw [e]
  exact q _ _ H Ext.refl (.int _) rfl
theorem ev_modE {i j : Int} (ha : Ev K a G ta σ (· = .int i)) (hb : Ev K a G tb σ (· = .int j)) (hj : 0 < j) : Ev K a G (tOp (rI (fun _ j => 0 < j) fun i j => .int (i % j)) ta tb) σ (· = .int (i % j)) := by
  refine ev_op ha hb ?_
  rintro _ _ rfl rfl
  exact r2_I hj (fun _ => .int _) rfl
theorem ev_divE {i j : Int} (ha : Ev K a G ta σ (· = .int i)) (hb : Ev K a G tb σ (· = .int j)) (hj : CDivW i j) : Ev K a G (tOp (rI CDivW fun i j => .int (i / j)) ta tb) σ (· = .int (i / j)) := by
  refine ev_op ha hb ?_
  rintro _ _ rfl rfl
  exact r2_I hj (fun _ => .int _) rfl
theorem ev_divV {i j : Int} (ha : Ev K a G ta σ (· = .int i)) (hb : Ev K a G tb σ (· = .int j)) (hj : CDivV i j) : Ev K a G (tOp (rI CDivV fun i j => .int (i.fdiv j)) ta tb) σ (· = .int (i.fdiv j)) := by
  refine ev_op ha hb ?_
  rintro _ _ rfl rfl
  exact r2_I hj (fun _ => .int _) rfl
/-- an item of a known tuple or list -/
theorem ev_at {ds : List PyData} {i : Int} {d : PyData} (ha : Ev K a G ta σ (fun z => z = .list ds ∨ z = .tuple ds)) (hb : Ev K a G tb σ (· = .int i)) (h : atI ds i = some d) : Ev K a G (tOp (rIx K) ta tb) σ (· = d) := by
  refine ev_ixL ha (ev_isI (c := (· = i)) hb rfl) ?_
  rintro z _ hz rfl
  exact ⟨ds, d, hz, h, rfl⟩
/-- a comprehension over what is walked, the walk told from what is known -/
theorem ev_lc2 {wi : TI} {vs : List Nat} {j : Nat} {N : Nat → Prop} {J : Nat → It} {Y : Nat → PyData → Prop}
    (hw : ∀ S H1, Fr a S H1 → Same G (off S H1) → ∀ R : It → Hp → Prop, (∀ n H2, Ext a H1 H2 → N n → R (J n) H2) → wi σ H1 R)
    (hgo : ∀ n i H', Same G H' → N n → i < n → (J n).go i H') (hst : ∀ n i H', Same G H' → N n → n ≤ i → (J n).stop i H')
    (hb : ∀ n i, N n → i < n → ∀ H' x H2, Same G H' → (J n).yld i H' x H2 → H2 = H' ∧ wipe ((wipe σ vs).set j (some x)) vs = wipe σ vs ∧ EvT a G tt ((wipe σ vs).set j (some x)) (· = true) ∧ Ev K a G te ((wipe σ vs).set j (some x)) (Y i))
    (hn : ∀ n, N n → n < 100000) :
    Ev K a G (tLc wi (gName j) tt te vs) σ (fun d => ∃ n ds, N n ∧ d = .list ds ∧ ds.length = n ∧ ∀ (i : Nat) z, ds[i]? = some z → Y i z) := by
  intro S H1 f s Q q
  refine hw S H1 f s _ fun n H2 x2 hN L hL => ?_
  have f2 := f.ext x2
  have hLS := f2.out hL
  refine ⟨fun i m H' => m = n - i ∧ i ≤ n ∧ Ext a H2 H' ∧ ∃ acc ds, H' L = some (.lst acc) ∧ DA K (off (L :: S) H') acc ds ∧ ds.length = i ∧ ∀ (i : Nat) z, ds[i]? = some z → Y i z,
    ⟨n, by simp, Nat.zero_le _, Ext.new hL, [], [], upd_same, .nil, rfl, fun i z e => by simp at e⟩, ?_⟩
  rintro i m H' ⟨rfl, hi, x', acc, ds, hacc, md, hlen, hY⟩
  have x12 := x2.trans x'
  have fL : Fr a (L :: S) H' := by
    refine ⟨List.mem_cons_of_mem _ f.mem, (f.ext x12).pot, fun b m => ?_⟩
    rcases List.mem_cons.mp m with e | m
    · rw [e]
      exact ⟨_, hacc⟩
    · exact (f.ext x12).all b m
  have sL : Same G (off (L :: S) H') := by
    intro b o e
    exact same_off_push hL (x'.off f.mem) b o (f.same x2 s b o e)
  have sH : Same G H' := fun b o e => (off_some (sL b o e)).2
  have haL : L ≠ a := fun e => hLS (e ▸ f.mem)
  by_cases hlt : i < n
  · refine .inr ⟨hgo n i H' sH hN hlt, fun H'' => (n - (i + 1) = n - (i + 1) ∧ i + 1 ≤ n ∧ Ext a H2 H'' ∧ ∃ acc ds, H'' L = some (.lst acc) ∧ DA K (off (L :: S) H'') acc ds ∧ ds.length = i + 1 ∧ ∀ (i : Nat) z, ds[i]? = some z → Y i z), ?_, ?_⟩
    · intro H'' h
      exact ⟨n - (i + 1), by omega, h⟩
    · intro x H3 hy
      obtain ⟨e3, hwp, ht, he⟩ := hb n i hN hlt H' x H3 sH hy
      subst e3
      refine ⟨hwp, ?_⟩
      refine ht (L :: S) H3 fL sL _ fun b H4 x4 eb => ?_
      subst eb
      show te _ H4 _
      have f4 := fL.ext x4
      refine he (L :: S) H4 f4 (fL.same x4 sL) _ fun v d H5 x5 m5 c5 => ?_
      have x45 := x4.trans x5
      have hacc5 : H5 L = some (.lst acc) := x45.keep _ _ haL hacc
      have md5 : DA K (off (L :: S) H5) acc ds := md.mono (x45.off fL.mem)
      have off5 : off (L :: S) (upd H5 L (.lst (acc ++ [v]))) = off (L :: S) H5 := by
        funext b
        unfold off
        by_cases hb : b ∈ L :: S
        · rw [if_pos hb, if_pos hb]
        · rw [if_neg hb, if_neg hb, upd_ne (fun e => hb (by rw [e]; exact List.mem_cons_self))]
      refine ⟨acc, hacc5, ?_, rfl, hlt, ?_, acc ++ [v], ds ++ [d], upd_same, ?_, ?_, ?_⟩
      · rw [md.length, hlen]
        exact Nat.lt_trans (Nat.lt_of_lt_of_le hlt (Nat.le_of_lt (hn n hN))) (by decide)
      · have xx := x'.trans x45
        refine ⟨fun b o nb hb => ?_, fun hp => ?_⟩
        · rw [upd_ne (ne_of_none hb hL)]
          exact xx.keep b o nb hb
        · obtain ⟨p, q, h1, h2⟩ := xx.pot hp
          exact ⟨p, q, by rw [upd_ne haL.symm]; exact h1, h2⟩
      · rw [off5]
        exact md5.append (.cons m5 .nil)
      · rw [List.length_append, hlen]
        rfl
      · intro i2 z hz
        rw [List.getElem?_append] at hz
        split at hz
        · exact hY i2 z hz
        · rename_i h2
          have h3 : i2 - ds.length = 0 := by
            by_cases h4 : i2 - ds.length = 0
            · exact h4
            · rw [List.getElem?_eq_none (by simp; omega)] at hz
              cases hz
          rw [h3] at hz
          simp at hz
          subst hz
          have : i2 = i := by omega
          rw [this]
          exact c5
  · have hin : i = n := by omega
    refine .inl ⟨hst n i H' sH hN (by omega), ?_⟩
    refine q (.ref L) (.list ds) H' x12 ?_ ⟨n, ds, hN, rfl, by omega, hY⟩
    exact .lst (off_mk hLS hacc) (md.mono same_off_pop)
/-- [e for x in t], t a tuple that stands in a slot -/
theorem ev_lcT {k j : Nat} {v : V} {ds : List PyData} {Y : Nat → PyData → Prop} (hk : σ[k]? = some (some v)) (m : D K G v (.tuple ds)) (hl : ds.length < 100000) (hj : ∀ x, wipe ((wipe σ [j]).set j (some x)) [j] = wipe σ [j])
    (hb : ∀ i x d, ds[i]? = some d → D K G x d → Ev K a G te ((wipe σ [j]).set j (some x)) (Y i)) :
    Ev K a G (tLc (iTup K (tVar k)) (gName j) tYes te [j]) σ (fun d => ∃ es, d = .list es ∧ es.length = ds.length ∧ ∀ (i : Nat) z, es[i]? = some z → Y i z) := by
  cases m with
  | @tup t xs _ ht mx =>
    refine Ev.imp (ev_lc2 (N := (· = ds.length)) (Y := Y) (J := fun _ => Itt K t) ?_ ?_ ?_ ?_ (by rintro _ rfl; exact hl)) ?_
    · intro S H1 f s R r
      exact ⟨.ref t, hk, t, rfl, ⟨xs, sqT_same (fun b o e => (off_some (s b o e)).2) ht⟩, r _ H1 Ext.refl rfl⟩
    · rintro _ i H' s rfl hi
      obtain ⟨x, hx, _⟩ := mx.get (List.getElem?_eq_getElem hi)
      exact ⟨xs, x, sqT_same s ht, hx⟩
    · rintro _ i H' s rfl hi
      exact ⟨xs, sqT_same s ht, by rw [mx.length]; exact hi⟩
    · rintro _ i rfl hi H' x H2 s ⟨rfl, hy⟩
      have hx := hy xs (sqT_same s ht)
      obtain ⟨d, hd, md⟩ := mx.getV hx
      exact ⟨rfl, hj x, et_yes, hb i x d hd md⟩
    · rintro d ⟨n, es, rfl, rfl, hl', hY⟩
      exact ⟨es, rfl, hl', hY⟩
end

/-! ### ratios -/
def ratioD (n d : Int) : PyData :=
  let t := if d < 0 then -n else n
  let l := if d < 0 then -d else d
  let p : Int := (Int.gcd t l : Nat)
  if l = p then .int (t / p) else .tuple [.int (t / p), .int (l / p)]
theorem low_ratio {n d : Int} (h : d ≠ 0) :
    (if d.fdiv (if d < 0 then -((Int.gcd n d : Nat) : Int) else (Int.gcd n d : Nat)) = 1 then PyData.int (n.fdiv (if d < 0 then -((Int.gcd n d : Nat) : Int) else (Int.gcd n d : Nat)))
      else .tuple [.int (n.fdiv (if d < 0 then -((Int.gcd n d : Nat) : Int) else (Int.gcd n d : Nat))), .int (d.fdiv (if d < 0 then -((Int.gcd n d : Nat) : Int) else (Int.gcd n d : Nat)))]) = ratioD n d := by
  have gp : (0 : Int) < (Int.gcd n d : Nat) := by
    have := Int.gcd_pos_of_ne_zero_right n h
    omega
  obtain ⟨k, hk⟩ := Int.gcd_dvd_left n d
  obtain ⟨m, hm⟩ := Int.gcd_dvd_right n d
  unfold ratioD
  dsimp only
  by_cases hd : d < 0
  · simp only [if_pos hd, Int.neg_gcd, Int.gcd_neg]
    generalize ((Int.gcd n d : Nat) : Int) = g at *
    have hg : -g ≠ 0 := by omega
    have e1 : n.fdiv (-g) = -k := by
      rw [hk, show g * k = (-g) * (-k) by rw [Int.neg_mul_neg]]
      exact Int.mul_fdiv_cancel_left _ hg
    have e2 : d.fdiv (-g) = -m := by
      rw [hm, show g * m = (-g) * (-m) by rw [Int.neg_mul_neg]]
      exact Int.mul_fdiv_cancel_left _ hg
    have e3 : -n / g = -k := by
      rw [hk, ← Int.mul_neg]
      exact Int.mul_ediv_cancel_left _ (by omega)
    have e4 : -d / g = -m := by
      rw [hm, ← Int.mul_neg]
      exact Int.mul_ediv_cancel_left _ (by omega)
    rw [e1, e2, e3, e4]
    have e5 : (-m = 1) ↔ (-d = g) := by
      constructor
      · intro z
        rw [hm, ← Int.mul_neg, z, Int.mul_one]
      · intro z
        rw [← e4, z]
        exact Int.ediv_self (by omega)
    by_cases z : -m = 1
    · rw [if_pos z, if_pos (e5.mp z)]
    · rw [if_neg z, if_neg fun y => z (e5.mpr y)]
  · simp only [if_neg hd]
    generalize ((Int.gcd n d : Nat) : Int) = g at *
    rw [Int.fdiv_eq_ediv_of_nonneg _ (by omega), Int.fdiv_eq_ediv_of_nonneg _ (by omega)]
    have e4 : d / g = m := by
      rw [hm]
      exact Int.mul_ediv_cancel_left _ (by omega)
    have e5 : (d / g = 1) ↔ (d = g) := by
      constructor
      · intro z
        rw [e4] at z
        rw [hm, z, Int.mul_one]
      · intro z
        rw [z]
        exact Int.ediv_self (by omega)
    by_cases z : d / g = 1
    · rw [if_pos z, if_pos (e5.mp z)]
    · rw [if_neg z, if_neg fun y => z (e5.mpr y)]
theorem gcd_step {x y : Int} (h : 0 < y) : Int.gcd y (x % y) = Int.gcd x y := by
  have e : x % y = x - y * (x / y) := by
    have := Int.emod_add_mul_ediv x y
    omega
  rw [e, Int.gcd_sub_mul_left_right, Int.gcd_comm]
end LK
set_option Elab.async false
set_option linter.all false
set_option maxRecDepth 100000
set_option maxHeartbeats 4000000
/-! LK9: texts: slices, str, int, split, f-strings, signs; x is None; unpacking a pair; for over a list of data -/
namespace LK
open PySem PySem.Spec L2
open PyProof.Rows hiding St
open TL (tl)

theorem log_ok {i : Int} {n : Nat} (h : i.natAbs < 2 ^ n) (hn : n < 1920) : i.natAbs.log2 < 1920 := by
  by_cases z : i.natAbs = 0
  · rw [z]
    decide
  · exact Nat.lt_of_lt_of_le ((Nat.log2_lt z).mpr h) (Nat.le_of_lt hn)
theorem tl_cutF (x : Str) (k : Nat) (h : k ≤ x.length) : tl (cutS x (some (k : Int)) none) = (tl x).drop k := by
  show (x.cps.toList.drop (HT.sIx x.length 0 (some (k : Int)))).take (HT.sIx x.length x.length none - HT.sIx x.length 0 (some (k : Int))) = _
  rw [HT.sIx_nat, HT.sIx_none, Nat.min_eq_left h]
  apply List.take_of_length_le
  rw [List.length_drop, Array.length_toList]
  exact Nat.le_refl _
theorem tl_cutF1 (x : Str) : tl (cutS x (some 1) none) = (tl x).drop 1 := by
  by_cases h : 1 ≤ x.length
  · exact tl_cutF x 1 h
  · have h0 : x.length = 0 := by omega
    have e : tl x = [] := by
      have := TL.len_tl x
      exact List.length_eq_zero_iff.mp (by omega)
    have l := cutS_length x (some 1) none
    have e2 : tl (cutS x (some 1) none) = [] := by
      have := TL.len_tl (cutS x (some 1) none)
      exact List.length_eq_zero_iff.mp (by omega)
    rw [e2, e]
    rfl
theorem tl_cutT1 (x : Str) : tl (cutS x none (some 1)) = (tl x).take 1 := by
  show (x.cps.toList.drop (HT.sIx x.length 0 none)).take (HT.sIx x.length x.length (some ((1 : Nat) : Int)) - HT.sIx x.length 0 none) = _
  rw [HT.sIx_nat, HT.sIx_none, List.drop_zero, Nat.sub_zero]
  have hl : x.cps.toList.length = x.length := (TL.len_tl x).symm
  by_cases h : 1 ≤ x.length
  · rw [Nat.min_eq_left h]
  · have h0 : x.cps.toList = [] := List.length_eq_zero_iff.mp (by omega)
    show x.cps.toList.take _ = x.cps.toList.take 1
    rw [h0]
    simp
section
variable {K : PySem.W.Frag} {a : Addr} {S : List Addr} {σ : St} {G H : Hp} {ta tb te : TE} {tt : TT} {tr : TA} {C C1 C2 : PyData → Prop} {B : Bool → Prop} {A1 : List PyData → Prop} {Dn : Ends}
/-! ### slices -/
theorem ev_slF {x : Str} {cI : Int → Prop} (h : Ev K a G te σ (· = .str x)) (hb : Ev K a G tb σ (IsI cI)) (hl : x.length ≤ 1000000) (hC : ∀ i, cI i → C (.str (cutS x (some i) none))) : Ev K a G (tSl rSlS te (tPart tb) tNoPart) σ C := fun S H1 f s Q q =>
  h S H1 f s _ fun v d H2 x2 m c => hb S H2 (f.ext x2) (f.same x2 s) _ fun w e H3 x3 m3 c3 => by
    subst c
    obtain ⟨i, rfl, ci⟩ := c3
    cases m
    cases m3
    exact ⟨i, rfl, x, rfl, Nat.le_trans hl (by decide), q _ _ H3 (x2.trans x3) (.str _) (hC i ci)⟩
theorem ev_slT {x : Str} {cI : Int → Prop} (h : Ev K a G te σ (· = .str x)) (hb : Ev K a G tb σ (IsI cI)) (hl : x.length ≤ 1000000) (hC : ∀ i, cI i → C (.str (cutS x none (some i)))) : Ev K a G (tSl rSlS te tNoPart (tPart tb)) σ C := fun S H1 f s Q q =>
  h S H1 f s _ fun v d H2 x2 m c => hb S H2 (f.ext x2) (f.same x2 s) _ fun w e H3 x3 m3 c3 => by
    subst c
    obtain ⟨i, rfl, ci⟩ := c3
    cases m
    cases m3
    exact ⟨i, rfl, x, rfl, Nat.le_trans hl (by decide), q _ _ H3 (x2.trans x3) (.str _) (hC i ci)⟩
/-! ### str(i), int(x) -/
theorem ev_strI {i : Int} (h : Ev K a G te σ (· = .int i)) (hb : i.natAbs < 2 ^ 1900) : Ev K a G (tCB (fun xs H Q => ∃ i, xs = [V.int i] ∧ i.natAbs.log2 < 1920 ∧ Q (V.str (toString i)) H) (tCons te tNil)) σ (· = .str (Str.ofString (toString i))) := fun S H1 f s Q q =>
  h S H1 f s _ fun v d H2 x2 m c => by
    subst c
    cases m
    exact ⟨i, rfl, log_ok hb (by decide), q _ _ H2 x2 (.str _) rfl⟩
theorem ev_intS {x : Str} {n : Int} (h : Ev K a G te σ (· = .str x)) (hn : intText? x = some n) (hl : x.length ≤ 640) : Ev K a G (tCB (fun xs H Q => ∃ a n, xs = [V.str a] ∧ intText? a = some n ∧ a.length ≤ 640 ∧ Q (V.int n) H) (tCons te tNil)) σ (· = .int n) := fun S H1 f s Q q =>
  h S H1 f s _ fun v d H2 x2 m c => by
    subst c
    cases m
    exact ⟨x, n, rfl, hn, hl, q _ _ H2 x2 (.int _) rfl⟩
/-! ### split -/
theorem DA.of_strs : ∀ ys : List Str, DA K H (ys.map V.str) (ys.map PyData.str)
  | [] => .nil
  | y :: ys => .cons (.str y) (DA.of_strs ys)
theorem ev_split {x y : Str} (h : Ev K a G te σ (· = .str x)) (hy : (y.length == 0) = false) (hl : x.length ≤ 1000000) : Ev K a G (tM1 (fun x xs H Q => ∃ a b, x = V.str a ∧ xs = [V.str b] ∧ (b.length == 0) = false ∧ a.length + 2 ≤ sizeLine ∧ rNewStrs (Txt.split a b) H Q) te (tC (.str y))) σ
    (· = .list ((Txt.split x y).map .str)) := fun S H1 f s Q q => h S H1 f s _ fun v d H2 x2 m c => by
  subst c
  cases m
  refine ⟨⟨x, rfl⟩, x, y, rfl, rfl, hy, Nat.le_trans (Nat.add_le_add_right hl 2) (by decide), fun p hp => ?_⟩
  exact q _ _ _ (x2.trans (Ext.new hp)) (D.new_lst hp ((f.ext x2).out hp) (DA.of_strs _)) rfl
/-! ### f'{i}/{j}' -/
theorem ev_fmt2 {i j : Int} {z : Str} (ha : Ev K a G ta σ (· = .int i)) (hb : Ev K a G tb σ (· = .int j)) (hi : i.natAbs < 2 ^ 1900) (hj : j.natAbs < 2 ^ 1900)
    (h1 : (Str.ofString (toString i)).length ≤ 1000) (h2 : (Str.ofString (toString j)).length ≤ 1000) (h3 : z.length ≤ 1000) :
    Ev K a G (fun σ H Q => tJs [tFmt ta, tC (.str z), tFmt tb] Str.empty σ H fun out H1 => Q (.str out) H1) σ (· = .str (Str.ofString (toString i) ++ z ++ Str.ofString (toString j))) := fun S H1 f s Q q =>
  ha S H1 f s _ fun v d H2 x2 m c => by
    subst c
    cases m
    have e0 : Str.empty ++ Str.ofString (toString i) = Str.ofString (toString i) := by
      apply TL.ext_tl
      rw [TL.tl_append]
      rfl
    have len : ∀ x y : Str, (x ++ y).length = x.length + y.length := fun x y => by rw [TL.len_tl, TL.tl_append, List.length_append, ← TL.len_tl, ← TL.len_tl]
    refine .inr ⟨i, rfl, log_ok hi (by decide), _, rfl, ?_, ?_⟩
    · rw [e0]
      exact Nat.le_trans h1 (by decide)
    · rw [e0]
      refine ⟨z, rfl, ?_, ?_⟩
      · rw [len]
        exact Nat.le_trans (Nat.add_le_add h1 h3) (by decide)
      · refine hb S H2 (f.ext x2) (f.same x2 s) _ fun w e H3 x3 m3 c3 => ?_
        subst c3
        cases m3
        refine .inr ⟨j, rfl, log_ok hj (by decide), _, rfl, ?_, q _ _ H3 (x2.trans x3) (.str _) rfl⟩
        rw [len, len]
        exact Nat.le_trans (Nat.add_le_add (Nat.add_le_add h1 h3) h2) (by decide)
/-! ### x is None -/
def noneD : PyData → Bool
  | .none => true
  | _ => false
theorem ev_isN {d : PyData} (h : Ev K a G te σ (· = d)) : Ev K a G (tOp (fun x y H Q => y = V.non ∧ Q (.bl (decide (x = .non))) H) te (tC .non)) σ (· = .bool (noneD d)) := fun S H1 f s Q q =>
  h S H1 f s _ fun v d' H2 x2 m c => by
    subst c
    refine ⟨rfl, ?_⟩
    have e : decide (v = V.non) = noneD d' := by
      cases m <;> simp [noneD]
    rw [e]
    exact q _ _ H2 x2 (.bl _) rfl
/-! ### all([c in z for c in x]) -/
theorem ev_allIn {x z : Str} {j : Nat} {tz : TE} (h : Ev K a G te σ (· = .str x)) (hz : ∀ v, Ev K a G tz ((wipe σ [j]).set j (some v)) (· = .str z)) (hl : x.length < 100000) (hj : ∀ x, wipe ((wipe σ [j]).set j (some x)) [j] = wipe σ [j]) (hσ : ∀ v, ((wipe σ [j]).set j (some v))[j]? = some (some v)) :
    Ev K a G (tCB (rAll K) (tCons (tLc (iStr te) (gName j) tYes (tOp (rInA K) (tVar j) tz) [j]) tNil)) σ (· = .bool ((tl x).all fun c => decide (c ∈ tl z))) := by
  refine Ev.imp (ev_all (B := (· = (tl x).all fun c => decide (c ∈ tl z))) (ev_lcS (Y := fun i y => ∃ c, x.cps[i]? = some c ∧ y = .bool (decide (c ∈ tl z))) h hl hj ?_) ?_) ?_
  · intro i c hc
    refine (ev_inSgn (P := (· = c)) (B := (· = decide (c ∈ tl z))) (ev_var (hσ _) (.str _) |>.imp ?_) (hz _) ?_).imp ?_
    · rintro _ rfl
      exact ⟨c, rfl, rfl⟩
    · rintro _ rfl
      rfl
    · rintro _ ⟨b, rfl, rfl⟩
      exact ⟨c, hc, rfl⟩
  · rintro _ ⟨ds, rfl, hl, hY⟩
    refine ⟨(tl x).map fun c => decide (c ∈ tl z), ?_, ?_⟩
    · congr 1
      apply List.ext_getElem?
      intro i
      rw [List.getElem?_map, List.getElem?_map]
      by_cases hi : i < x.length
      · obtain ⟨c, hc, hz⟩ := hY i ds[i] (List.getElem?_eq_getElem (by omega))
        have hc' : (tl x)[i]? = some c := by simpa using hc
        rw [hc', List.getElem?_eq_getElem (by omega), hz]
        rfl
      · have hx : (tl x).length ≤ i := by
          rw [← TL.len_tl]
          omega
        rw [List.getElem?_eq_none (by omega), List.getElem?_eq_none hx]
        rfl
    · rw [List.all_map]
      rfl
  · rintro _ ⟨b, rfl, rfl⟩
    rfl
/-! ### a call that may raise -/
theorem callX_ok {sp : Sp} {C0 : Addr} {f : Str} {pre : List PyData → Prop} {post rp : List PyData → PyData → Prop} {dvs : List V} {dds : List PyData} {E : St → XK} {Qc : VK} (h : EvA K a G tr σ A1) (fr : Fr a S H) (s : Same G (off S H)) (md : ∀ H, DA K H dvs dds)
    (hp : ∀ ds, A1 ds → pre (ds ++ dds)) (q : ∀ ds v d H', A1 ds → Ext a H H' → Fr a S H' → D K (off S H') v d → post (ds ++ dds) d → Qc v H')
    (e : ∀ ds v d dd H', A1 ds → Ext a H H' → Fr a S H' → D K (off S H') v d → rp (ds ++ dds) d → H' dd = some (.xd [(f, v)]) → dd ∉ S → E σ (.ref C0) (some dd) H') : tCallX (spX K C0 f pre post rp) dvs E tr σ H Qc :=
  h S H fr s _ fun vs ds H1 x1 m c => ⟨a, S, ds ++ dds, fr.ext x1, m.append (md _), hp ds c, fun v d H2 x2 m2 p => q ds v d H2 c (x1.trans x2) ((fr.ext x1).ext x2) m2 p,
    fun v d dd H2 x2 m2 p hd hS => e ds v d dd H2 c (x1.trans x2) ((fr.ext x1).ext x2) m2 p hd hS⟩
theorem q_dropX {C0 : Addr} {f : Str} {pre : List PyData → Prop} {post rp : List PyData → PyData → Prop} {dvs : List V} {dds : List PyData} {W : WX} (h : EvA K a G tr σ A1) (fr : Fr a S H) (s : Same G (off S H)) (md : ∀ H, DA K H dvs dds)
    (hp : ∀ ds, A1 ds → pre (ds ++ dds)) (q : ∀ ds v d H', A1 ds → Ext a H H' → Fr a S H' → D K (off S H') v d → post (ds ++ dds) d → Dn.nx σ H')
    (e : ∀ ds v d dd H', A1 ds → Ext a H H' → Fr a S H' → D K (off S H') v d → rp (ds ++ dds) d → H' dd = some (.xd [(f, v)]) → dd ∉ S → W (.ref C0) (some dd) σ H') : tDrop (tCallX (spX K C0 f pre post rp) dvs (fun σ => WE W σ) tr) Dn σ H :=
  callX_ok (sp := fun _ _ _ _ => True) (E := fun σ => WE W σ) (Qc := fun _ H1 => Dn.nx σ H1) h fr s md hp q e
theorem q_setX {i : Nat} {C0 : Addr} {f : Str} {pre : List PyData → Prop} {post rp : List PyData → PyData → Prop} {dvs : List V} {dds : List PyData} {W : WX} (h : EvA K a G tr σ A1) (fr : Fr a S H) (s : Same G (off S H)) (md : ∀ H, DA K H dvs dds)
    (hp : ∀ ds, A1 ds → pre (ds ++ dds)) (q : ∀ ds v d H', A1 ds → Ext a H H' → Fr a S H' → D K (off S H') v d → post (ds ++ dds) d → Dn.nx (σ.set i (some v)) H')
    (e : ∀ ds v d dd H', A1 ds → Ext a H H' → Fr a S H' → D K (off S H') v d → rp (ds ++ dds) d → H' dd = some (.xd [(f, v)]) → dd ∉ S → W (.ref C0) (some dd) σ H') : tAsg (tCallX (spX K C0 f pre post rp) dvs (fun σ => WE W σ) tr) (gName i) Dn σ H :=
  callX_ok (sp := fun _ _ _ _ => True) (E := fun σ => WE W σ) (Qc := fun v H1 => Dn.nx (σ.set i (some v)) H1) h fr s md hp q e
/-- .. of which no exception comes -/
theorem ev_callXn {C0 : Addr} {f : Str} {pre : List PyData → Prop} {post rp : List PyData → PyData → Prop} {dvs : List V} {dds : List PyData} {E : St → XK} (h : EvA K a G tr σ A1) (md : ∀ H, DA K H dvs dds) (hp : ∀ ds, A1 ds → pre (ds ++ dds)) (hc : ∀ ds d, A1 ds → post (ds ++ dds) d → C d)
    (hn : ∀ ds d, A1 ds → ¬ rp (ds ++ dds) d) : Ev K a G (tCallX (spX K C0 f pre post rp) dvs E tr) σ C := fun S H1 f s Q q =>
  callX_ok (sp := fun _ _ _ _ => True) h f s md hp (fun ds v d H' c x _ m p => q v d H' x m (hc ds d c p)) fun ds v d dd H' c _ _ _ p _ _ => absurd p (hn ds d c)
theorem ev_callXk {C0 : Addr} {f : Str} {pre : List PyData → Prop} {post rp : List PyData → PyData → Prop} {n : Nat} {g : {α : Type} → List α → List α} {E : XK} (h : EvA K a G tr σ A1) (hl : ∀ ds, A1 ds → ds.length = n) (hg : ∀ {H : Hp} {vs : List V} {ds : List PyData}, vs.length = n → DA K H vs ds → DA K H (g vs) (g ds))
    (hp : ∀ ds, A1 ds → pre (g ds)) (hc : ∀ ds d, A1 ds → post (g ds) d → C d) (hn : ∀ ds d, A1 ds → ¬ rp (g ds) d) : Ev K a G (tCallK0 n (spX K C0 f pre post rp) g E tr) σ C := fun S H1 fr s Q q =>
  h S H1 fr s _ fun vs ds H2 x2 m c => ⟨by rw [m.length]; exact hl ds c, a, S, g ds, fr.ext x2, hg (by rw [m.length]; exact hl ds c) m, hp ds c, fun v d H3 x3 m3 p => q v d H3 (x2.trans x3) m3 (hc ds d c p),
    fun v d dd H3 _ _ p _ _ => absurd p (hn ds d c)⟩
/-! ### x, y = a pair -/
theorem q_unpack {i j : Nat} {d e : PyData} (h : Ev K a G te σ (· = .tuple [d, e])) (f : Fr a S H) (s : Same G (off S H))
    (q : ∀ v w H', Ext a H H' → Fr a S H' → D K (off S H') v d → D K (off S H') w e → Dn.nx ((σ.set i (some v)).set j (some w)) H') : tAsg te (gTup K 2 (gCons (gName i) (gCons (gName j) gNil))) Dn σ H :=
  h S H f s _ fun v d' H2 x2 m c => by
    subst c
    cases m with
    | tup ht mx =>
      cases mx with
      | cons m1 mx =>
        cases mx with
        | cons m2 mx =>
          cases mx
          exact ⟨_, _, rfl, sqT_same off_le ht, rfl, _, _, rfl, _, _, rfl, rfl, q _ _ H2 x2 (f.ext x2) m1 m2⟩
end
end LK
set_option Elab.async false
set_option linter.all false
set_option maxRecDepth 100000
set_option maxHeartbeats 4000000
/-! LK10: own exceptions over any built-in one (LookupError, RuntimeError, ArithmeticError too) -/
namespace LK
open PySem PySem.Spec L2
open PyProof.Rows hiding St

/-- own classes, then the built-in's chain -/
def Over (bt l : List Value) : Prop := ∃ cs : List Addr, l = cs.map Value.ref ++ bt
theorem Over.has {bt l : List Value} (h : Over bt l) (X : String) : l.contains (.type X) = bt.contains (.type X) := by
  obtain ⟨cs, rfl⟩ := h
  induction cs with
  | nil => rfl
  | cons c cs ih =>
    rw [List.map_cons, List.cons_append, List.contains_cons, ih]
    rfl
theorem Over.cons {bt l : List Value} {C : Addr} (h : Over bt l) : Over bt (.ref C :: l) := by
  obtain ⟨cs, rfl⟩ := h
  exact ⟨C :: cs, rfl⟩
structure TailOk (B newId initId : String) (bt : List Value) : Prop where
  base : ExcBaseFacts B newId initId bt
  sto : StoreFacts B bt "object.__setattr__" "object"
  obj : bt.contains (.type "object") = true
  ne : bt.isEmpty = false
theorem Over.pass {B newId initId : String} {bt l : List Value} (T : TailOk B newId initId bt) (h : Over bt l) (v : Value) : refuseLoop v "__setattr__" l = pure () := by
  obtain ⟨cs, rfl⟩ := h
  induction cs with
  | nil => exact T.sto.passes v
  | cons c cs ih =>
    rw [List.map_cons, List.cons_append, refuseLoop_ref]
    exact ih
theorem tail_VE : TailOk "ValueError" "ValueError.__new__" "ValueError.__init__" [.type "ValueError", .type "Exception", .type "BaseException", .type "object"] := ⟨F.excBase_ValueError, F.store_ValueError, by decide +kernel, by decide +kernel⟩
theorem tail_LE : TailOk "LookupError" "LookupError.__new__" "LookupError.__init__" [.type "LookupError", .type "Exception", .type "BaseException", .type "object"] := ⟨F.excBase_LookupError, F.store_LookupError, by decide +kernel, by decide +kernel⟩
theorem tail_RE : TailOk "RuntimeError" "RuntimeError.__new__" "RuntimeError.__init__" [.type "RuntimeError", .type "Exception", .type "BaseException", .type "object"] := ⟨F.excBase_RuntimeError, F.store_RuntimeError, by decide +kernel, by decide +kernel⟩
theorem tail_AE : TailOk "ArithmeticError" "ArithmeticError.__new__" "ArithmeticError.__init__" [.type "ArithmeticError", .type "Exception", .type "BaseException", .type "object"] := ⟨F.excBase_ArithmeticError, F.store_ArithmeticError, by decide +kernel, by decide +kernel⟩
/-! ### a field is stored: the first one, a further one -/
section
open Builtin Builtin.ObjectAttr
variable {P : Program} {w : World} {A : Around} {R : Result → Shared → Prop} {hp : Heap} {g : Array GenState} {dr : Drawn} {t : Nat} {os : OsState} {K : PySem.W.Frag} {f : Str} {tk : Tok} {u : Value} {x C dx : Addr} {fv : Array Value} {cd : ClassData}
  {B newId initId : String} {bt : List Value} {m0 : Str → Option Value} {nl : List Str}
abbrev exI (C : Addr) (d : Option Addr) (fv : Array Value) : Obj := { cls := .ref C, dict := d, data := .fields fv }
theorem sub_obj {d : Option Addr} {od : Option Obj} (T : TailOk B newId initId bt) (X : K.In hp) (I : PySem.W.InstAt hp x (exI C d fv) C od) (hcd : PySem.W.clsIn K C = some cd) (hm : Over bt cd.mro) : PySem.W.Looks (model P w) hp (isInstance (.ref x) (.type "object")) true := by
  have hob : cd.mro.contains (.type "object") = true := by
    rw [hm.has]
    exact T.obj
  have ne : cd.mro.isEmpty = false := by
    cases e : cd.mro with
    | nil =>
      rw [e] at hob
      cases hob
    | cons _ _ => rfl
  apply I.type.andThen
  apply PySem.W.looks_mroIn X
  unfold PySem.W.mroIn
  rw [hcd, Option.bind_some, if_neg, hob]
  rw [ne]
  decide
theorem osa_1 (T : TailOk B newId initId bt) (X : K.In hp) (hx : hp.get? x = some (exI C none fv)) (hcd : PySem.W.clsIn K C = some cd) (hm : Over bt cd.mro) (hh : cd.hasDict = true) (ha : PySem.W.findIn K (.ref C) f = some none)
    (hq : ∀ (h' : Heap) (tk' : Tok) (dx : Addr), (∀ b o, b ≠ x → hp.get? b = some o → h'.get? b = some o) → hp.objs.size ≤ dx → dx ≠ x → h'.get? x = some (exI C (some dx) fv) → h'.Ns1 dx (fun y => if y = f then some u else none) → R (.ok (.ret .none)) ⟨h', g, dr, tk', os⟩) :
    codeAny (model P w) A (.call (.builtin "object.__setattr__") ⟨[.ref x, .str f tk, u], []⟩) R ⟨hp, g, dr, t, os⟩ := by
  have I0 : PySem.W.InstAt hp x (exI C none fv) C none := ⟨hx, rfl, rfl, trivial⟩
  have SO := F.store_object
  have far : x ≠ hp.objs.size := Nat.ne_of_lt (Heap.lt_size hx)
  apply codeAny_call_builtin SO.slot.plain SO.entry
  refine @PySem.W.check_slot (model P w) _ _ ⟨hp, g, dr, t, os⟩ "object.__setattr__" "object" "__setattr__" (.ref x) [.str f tk, u] [] _ SO.kind SO.split (sub_obj T X I0 hcd hm) (SO.args (.ref x) (.str f tk) u) ?_
  have lc : PySem.W.Looks (model P w) hp (classData C) cd := PySem.W.looks_clsIn X hcd
  have lm : PySem.W.Looks (model P w) hp (mroOf (.ref C)) cd.mro := lc.andThen .now
  have l3 : PySem.W.Looks (model P w) hp (storeTaker? none) none := .now
  rw [PySem.W.osa_eq, refuse_eq]
  refine wpAny_bind (wpAny_bind (I0.type.at (wpAny_bind (lm.at ?_))))
  rw [hm.pass T]
  refine wpAny_pure (wpAny_bind (I0.type.at (wpAny_bind ((PySem.W.looks_findIn X ha).at (wpAny_bind (l3.at ?_))))))
  show wpAny _ _ (storeInOwnDict (.ref x) (.ref C) (.str f tk) f u false) _ _ _
  obtain ⟨a1, a2, a3, a4, a5, a6, a7, a8, a9, a10, a11⟩ := cd
  dsimp only at hh
  subst hh
  unfold storeInOwnDict
  unfold ownDictForStores
  repeat (first | with_reducible refine wpAny_loadPart_at hx ?_ | with_reducible refine lc.at ?_ | with_reducible refine PySem.HandSPX.store_in_new ?_ ?_ | wp_step)
  · exact ⟨_, #[], _, ((Heap.get?_update_ne _ _ _ _ far.symm).trans (Heap.get?_push_at rfl rfl)), rfl, fun e he => absurd he (by simp), fun _ => rfl⟩
  · intro h1 tk1 hn hs
    have hx1 : (hp.push { cls := .type "dict", data := .dict #[] }).get? x = some (exI C none fv) := Heap.get?_push_of_some _ hx
    refine hq h1 tk1 hp.objs.size (fun b o hb ho => ?_) (Nat.le_refl _) far.symm ?_ hn
    · have nd : b ≠ hp.objs.size := Nat.ne_of_lt (Heap.lt_size ho)
      refine (hs.2 b nd).trans ?_
      exact (Heap.get?_update_ne _ _ _ _ hb).trans (Heap.get?_push_of_some _ ho)
    · exact (hs.2 x far).trans (Heap.get?_update_self _ hx1 rfl)
theorem osa_2 (T : TailOk B newId initId bt) (X : K.In hp) (hx : hp.get? x = some (exI C (some dx) fv)) (hns : hp.Ns1 dx m0) (hw : Within m0 nl) (hz : nl.length ≤ 1000) (hcd : PySem.W.clsIn K C = some cd) (hm : Over bt cd.mro) (hh : cd.hasDict = true)
    (ha : PySem.W.findIn K (.ref C) f = some none)
    (hq : ∀ (h' : Heap) (tk' : Tok), (∀ b o, b ≠ dx → hp.get? b = some o → h'.get? b = some o) → h'.Ns1 dx (fun y => if y = f then some u else m0 y) → R (.ok (.ret .none)) ⟨h', g, dr, tk', os⟩) :
    codeAny (model P w) A (.call (.builtin "object.__setattr__") ⟨[.ref x, .str f tk, u], []⟩) R ⟨hp, g, dr, t, os⟩ := by
  obtain ⟨oD, _, _, hoD, _, _⟩ := hns.count hw
  have I0 : PySem.W.InstAt hp x (exI C (some dx) fv) C (some oD) := ⟨hx, rfl, rfl, hoD⟩
  have SO := F.store_object
  apply codeAny_call_builtin SO.slot.plain SO.entry
  refine @PySem.W.check_slot (model P w) _ _ ⟨hp, g, dr, t, os⟩ "object.__setattr__" "object" "__setattr__" (.ref x) [.str f tk, u] [] _ SO.kind SO.split (sub_obj T X I0 hcd hm) (SO.args (.ref x) (.str f tk) u) ?_
  have lc : PySem.W.Looks (model P w) hp (classData C) cd := PySem.W.looks_clsIn X hcd
  have lm : PySem.W.Looks (model P w) hp (mroOf (.ref C)) cd.mro := lc.andThen .now
  have l3 : PySem.W.Looks (model P w) hp (storeTaker? none) none := .now
  rw [PySem.W.osa_eq, refuse_eq]
  refine wpAny_bind (wpAny_bind (I0.type.at (wpAny_bind (lm.at ?_))))
  rw [hm.pass T]
  refine wpAny_pure (wpAny_bind (I0.type.at (wpAny_bind ((PySem.W.looks_findIn X ha).at (wpAny_bind (l3.at ?_))))))
  show wpAny _ _ (storeInOwnDict (.ref x) (.ref C) (.str f tk) f u false) _ _ _
  obtain ⟨a1, a2, a3, a4, a5, a6, a7, a8, a9, a10, a11⟩ := cd
  dsimp only at hh
  subst hh
  unfold storeInOwnDict
  unfold ownDictForStores
  repeat (first | with_reducible refine wpAny_loadPart_at hx ?_ | with_reducible refine lc.at ?_ | with_reducible refine PySem.OEX.store_in_old hns hw hz ?_ | wp_step)
  intro h1 tk1 hn hs
  exact hq h1 tk1 (fun b o hb ho => (hs.2 b hb).trans ho) hn
end
/-! ### classes over such a base -/
/-- what the written part says of the class at C -/
structure OexB (B newId initId : String) (bt : List Value) (K : PySem.W.Frag) (C : Addr) : Prop where
  tail : TailOk B newId initId bt
  obj : ∃ nm q N bs bm sn sub ab col dd k0 k1 k2 k3 k5, K.lookup C = some (excClassObj nm q C N bs bm true sn sub ab col dd k0 k1 k2 k3 k5 newId) ∧ Over bt bm
  sa : PySem.W.findIn K (.ref C) "__setattr__" = some (some (.builtin "object.__setattr__"))
  exC : PySem.W.subIn K (.ref C) (.type "BaseException") = some true
  tyC : PySem.W.typeIn K (.ref C) = some (.type "type")
  kC : PySem.W.keepIn K (.ref C) = true
section
variable {X : Cx} {pins : List (Addr × Obj)} {σ : St} {H : Hp} {s : Shared} {a C dx : Addr} {f : Str} {y : V} {u : Value} {fs : List (Str × V)} {Q : Unit → Shared → Prop} {E : Value → Shared → Prop} {A : Around} {B newId initId : String} {bt : List Value}
theorem OexB.cls {K : PySem.W.Frag} (T : OexB B newId initId bt K C) : ∃ cd, PySem.W.clsIn K C = some cd ∧ Over bt cd.mro ∧ cd.hasDict = true := by
  obtain ⟨nm, q, N, bs, bm, sn, sub, ab, col, dd, k0, k1, k2, k3, k5, hC, hbm⟩ := T.obj
  refine ⟨{ name := nm, bases := bs, mro := .ref C :: bm, ns := N, qualname := q, hasDict := true, slotNames := sn, subclasses := sub, abstract := ab, collection := col, hasDel := false }, ?_, hbm.cons, rfl⟩
  unfold PySem.W.clsIn
  rw [hC] <;> rfl
/-- the first field -/
theorem put_1 (T : OexB B newId initId bt X.K C) (I : Inv X pins σ H s) (e : H a = some (exo a C none)) (hno : PySem.W.findIn X.K (.ref C) f = some none) (ry : RelV y u)
    (h : ∀ dx s', H dx = none → dx ≠ a → Inv X pins σ (upd (upd H dx (exd dx [(f, y)])) a (exo a C (some dx))) s' → Q () s') : wpAny (model X.prog X.w) A (setAttr (.ref a) f u) Q E s := by
  obtain ⟨cd, hcd, hm, hh⟩ := T.cls
  obtain ⟨t1, ho⟩ := exo_at I.hok e
  obtain ⟨hp, g, dr, t, os⟩ := s
  apply PySem.W.set_plain I.kIn (ox := exI C none #[.ref t1, .none, .none, .none, .bool false, .none]) (od := none) ⟨ho, rfl, rfl, trivial⟩ T.sa
  refine osa_1 T.tail I.kIn ho hcd hm hh hno fun h1 tk1 dx k dn dne hx hn => ?_
  have fresh : H dx = none := I.hok.fresh dn
  have low : ∀ {b : Addr} {o : Obj}, hp.get? b = some o → b ≠ dx := fun {b o} q => Nat.ne_of_lt (Nat.lt_of_lt_of_le (Heap.lt_size q) dn)
  have na : ∀ {b : Addr}, H b = none → b ≠ a := fun {b} n z => by
    subst z
    rw [e] at n
    cases n
  have keepO : ∀ {b : Addr} {o : HO}, H b = some o → o ≠ exo a C none → upd (upd H dx (exd dx [(f, y)])) a (exo a C (some dx)) b = some o := fun {b o} q d => by
    have hb : b ≠ a := fun z => by
      rw [z, e] at q
      exact d (Option.some.inj q).symm
    rw [upd_ne hb, upd_ne (ne_of_none q fresh)]
    exact q
  have U : Un X.fs [] H (upd (upd H dx (exd dx [(f, y)])) a (exo a C (some dx))) hp h1 := by
    constructor
    · exact fun b o q n _ _ => k b o (na n) q
    · exact fun b o q n _ _ => ⟨o.slots, k b o (na n) q⟩
    · intro b o q n _
      rw [upd_ne (na n), upd_ne (low q)]
      exact n
    · intro b o q _
      by_cases hb : b = a
      · subst hb
        exact ⟨_, hx⟩
      · exact ⟨o, k b o hb q⟩
    · exact fun b xs q => keepO q fun z => exo_tup z.symm
    · exact fun b o v q => keepO q fun z => exo_frz z.symm
    · exact fun b ps q => ⟨#[], by rw [keepO q fun z => exo_tbl z.symm]; simp⟩
  refine h dx _ fresh dne (I.un (t' := tk1) U fun b o q => ?_)
  by_cases hb : b = a
  · subst hb
    rw [upd_same] at q
    cases q
    exact exo_ok hx
  rw [upd_ne hb] at q
  by_cases hd : b = dx
  · subst hd
    rw [upd_same] at q
    cases q
    exact exd_ok hn (relO_put (fs := []) ry fun g => True.intro)
  rw [upd_ne hd] at q
  refine (I.hok b o q).stay (fun c v hc z => k c v ?_ z) (fun c hc => keepO hc fun z => exo_own z.symm) fun c xs hc => keepO hc fun z => exo_tup z.symm
  rcases hc with hc | hc
  · rw [hc]
    exact hb
  · exact at_ne e hc exo_own
/-- a further field -/
theorem put_2 (T : OexB B newId initId bt X.K C) (I : Inv X pins σ H s) (e : H a = some (exo a C (some dx))) (ed : H dx = some (exd dx fs)) (hl : fs.length ≤ 900) (hno : PySem.W.findIn X.K (.ref C) f = some none) (ry : RelV y u)
    (h : ∀ s', Inv X pins σ (upd H dx (exd dx ((f, y) :: fs))) s' → Q () s') : wpAny (model X.prog X.w) A (setAttr (.ref a) f u) Q E s := by
  obtain ⟨cd, hcd, hm, hh⟩ := T.cls
  obtain ⟨t1, ho⟩ := exo_at I.hok e
  obtain ⟨mA, hns, rel⟩ := exd_at I.hok ed
  have hw := within_of rel
  obtain ⟨hp, g, dr, t, os⟩ := s
  obtain ⟨oD, _, _, hoD, _, _⟩ := hns.count hw
  apply PySem.W.set_plain I.kIn (ox := exI C (some dx) #[.ref t1, .none, .none, .none, .bool false, .none]) (od := some oD) ⟨ho, rfl, rfl, hoD⟩ T.sa
  refine osa_2 T.tail I.kIn ho hns hw (by rw [List.length_map]; omega) hcd hm hh hno fun h1 tk1 k hn => ?_
  have there : ∃ o, h1.get? dx = some o := by
    obtain ⟨o, _, _, e1, _⟩ := hn
    exact ⟨o, e1⟩
  have J := I.write (t' := tk1) (x := dx) (e := dx) (o := exd dx ((f, y) :: fs)) (by rw [ed]; exact True.intro) (.inl rfl) k there (exd_ok hn (relO_put ry rel))
  exact h _ J
/-- B.__init__(self, ..): nothing of it is told -/
theorem init_B {us : List Value} {Q : Value → Shared → Prop} (T : OexB B newId initId bt X.K C) (I : Inv X pins σ H s) (e : H a = some (exo a C none)) (hl : us.length ≤ sizeLine) (h : ∀ s', Inv X pins σ H s' → Q .none s') :
    wpAny (model X.prog X.w) A (call (.builtin initId) (.ref a :: us)) Q E s := by
  obtain ⟨nm, q, N, bs, bm, sn, sub, ab, col, dd, k0, k1, k2, k3, k5, hC, hbm⟩ := T.obj
  obtain ⟨t1, ho⟩ := exo_at I.hok e
  obtain ⟨hp, g, dr, t, os⟩ := s
  apply wpAny_call
  refine PySem.HandSPX.init_base T.tail.base hbm.has (I.kIn _ _ hC) ho hl fun h1 t2 k hx => ?_
  have J := I.write (t' := t) (x := a) (e := a) (o := exo a C none) (by rw [e]; exact True.intro) (.inl rfl) k ⟨_, hx⟩ (exo_ok hx)
  have eu : upd H a (exo a C none) = H := by
    funext b
    by_cases hb : b = a
    · rw [hb, upd_same, e]
    · exact upd_ne hb
  rw [eu] at J
  exact h _ J
end
/-! ### __init__ of such a class -/
/-- a base class of the program's own, as its heirs' __init__ names it -/
structure XBB (initId : String) (K : PySem.W.Frag) (mg : Str → Option Value) (x : Str) (L : Addr) : Prop where
  g : mg x = some (.ref L)
  rd : ClX.CRead K L (.type "type")
  it : PySem.W.findCls K (.ref L) (.type "type") "__init__" = some (.val (.builtin initId))
  hd : PySem.W.handedIn (.builtin initId) = true
def tBiB (B newId initId : String) (bt : List Value) (K : PySem.W.Frag) (ta : TA) : TE := fun σ H Q => ta σ H fun vs H1 => ∃ (a C : Addr) (ws : List V), vs = .ref a :: ws ∧ ws.length ≤ 1000 ∧ OexB B newId initId bt K C ∧ H1 a = some (exo a C none) ∧ Q .non H1
def tOstB (B newId initId : String) (bt : List Value) (K : PySem.W.Frag) (f : Str) (to te : TE) : TS := fun D σ H => te σ H fun y H1 => to σ H1 fun x H2 => ∃ a C : Addr, x = .ref a ∧ OexB B newId initId bt K C ∧ PySem.W.findIn K (.ref C) f = some none ∧
  ((H2 a = some (exo a C none) ∧ ∀ dx, H2 dx = none → dx ≠ a → D.nx σ (upd (upd H2 dx (exd dx [(f, y)])) a (exo a C (some dx)))) ∨
    ∃ (dx : Addr) (fs : List (Str × V)), H2 a = some (exo a C (some dx)) ∧ H2 dx = some (exd dx fs) ∧ fs.length ≤ 900 ∧ D.nx σ (upd H2 dx (exd dx ((f, y) :: fs))))
section
variable {X : Cx} {e o : Expr} {es : List Expr} {ta : TA} {te to : TE} {x f : Str} {L : Addr} {p p1 p2 pos p' : Pos} {B newId initId : String} {bt : List Value}
theorem pe_biB (Z : XBB initId X.K X.mg x L) (hg : Gl X x) (ha : PA X (e :: es) ta) {pl : Sem Bool} (hc : MethIs X (.Name x p1) "__init__" p2 pos (e :: es) pl := by rfl) (hdb : (x == ("__debug__" : Str)) = false := by decide)
    (he : starEach (e :: es) X.env = (false, eval e X.env) :: starEach es X.env := by rfl) (hpl : (backTo pos (starEach es X.env)).any (·.1) = false := by rfl) :
    PE X (.Call (.Attribute (.Name x p1) "__init__" p2) (e :: es) [] pos) (tBiB B newId initId bt X.K ta) := by
  constructor
  intro pins s σ H Q I h
  apply PySem.W.methodCall_KW (pl := pl) _ hc
  apply ld_glob I hg Z.g _ hdb
  apply PySem.W.method_cls I.kIn Z.rd.ga
  apply PySem.W.cls_value I.kIn Z.rd.rd Z.it Z.hd
  show wpAny (model X.prog X.w) X.A (callWith pos (.builtin initId) [] (backTo pos (starEach (e :: es) X.env)) []) _ _ _
  apply callWith_method1 _ he hpl
  apply thn (ha.run pos pins _ σ H _ (I.tok _) h)
  rintro us s1 ⟨vs, H1, I1, r1, a, C, ws, rfl, hl, T, ea, q⟩
  cases r1 with
  | @cons _ u0 _ ur ra rw' =>
    cases (show u0 = Value.ref a from ra)
    have hlen : ur.length ≤ sizeLine := by
      have := Paired.length rw'
      rw [sizeLine_eq]
      omega
    exact init_B T I1 ea hlen fun s' J => ⟨.non, H1, J, rfl, q⟩
theorem ps_ostB (ho : PE X o to) (he : PE X e te) (hs : swapsWith e (some (.Attribute o f p')) pos.line X.env = pure false := by rfl) : PS X (.Assign [.Attribute o f p'] e pos) (tOstB B newId initId bt X.K f to te) := by
  constructor
  intro pins s σ H D I h
  refine plainObj_wpAny_Assign_Attribute (thn (he.run pins s σ H _ I h) fun v s1 z => ?_) hs
  obtain ⟨y, H1, I1, r1, q1⟩ := z
  refine thn (ho.run pins s1 σ H1 _ I1 q1) fun u s2 z => ?_
  obtain ⟨x, H2, I2, r2, a, C, rfl, T, hno, q⟩ := z
  cases (show u = Value.ref a from r2)
  rcases q with ⟨ea, q⟩ | ⟨dx, fs, ea, ed, hl, q⟩
  · exact put_1 T I2 ea hno r1 fun dx s' n ne J => ⟨σ, _, J, q dx n ne⟩
  · exact put_2 T I2 ea ed hl hno r1 fun s' J => ⟨σ, _, J, q⟩
end
theorem rd_initB {B newId initId : String} {bt : List Value} {K : PySem.W.Frag} {C : Addr} {f z : Str} {vs : List V} {H : Hp} {Q : VK} {E : XK} {p0 p1 : Str} (T : OexB B newId initId bt K C) (hno : PySem.W.findIn K (.ref C) f = some none) (h : spI C f vs H Q E) :
    tSeq (tDrop (tBiB B newId initId bt K (tCons (tVar 0) (tCons (tC (.str z)) tNil)))) (tOstB B newId initId bt K f (tVar 0) (tVar 1)) { nx := fun _ H' => Q .non H', rt := Q } (start [p0, p1] vs) H := by
  obtain ⟨a, v, rfl, ea, q⟩ := h
  exact ⟨.ref a, rfl, a, C, [.str z], rfl, (by show 1 ≤ 1000; decide), T, ea, v, rfl, .ref a, rfl, a, C, rfl, T, hno, .inl ⟨ea, fun dx hn hne => q dx hn hne⟩⟩
/-! ### C(v) raised, C over any such base -/
structure XCB (B newId initId : String) (bt : List Value) (K : PySem.W.Frag) (mg : Str → Option Value) (x : Str) (C : Addr) : Prop where
  g : mg x = some (.ref C)
  ox : OexB B newId initId bt K C
  fl : XfC K C
  is : ExcC K C
  self : PySem.W.subIn K (.ref C) (.ref C) = some true
theorem XCB.exm {B newId initId : String} {bt : List Value} {K : PySem.W.Frag} {mg : Str → Option Value} {x : Str} {C : Addr} (T : XCB B newId initId bt K mg x C) : PySem.W.exmOne K (.ref C) (.ref C) = some true :=
  PySem.W.exm_ref T.is.hs T.is.hd T.ox.tyC T.self
structure XRB (B newId initId : String) (bt : List Value) (P : Program) (w : World) (K : PySem.W.Frag) (mg : Str → Option Value) (base : Heap) (x : Str) (C : Addr) (f : Str) : Prop where
  c : XCB B newId initId bt K mg x C
  init : ∃ (fI : Addr) (fd : FuncData) (ps : List Str), PySem.W.findIn K (.ref C) "__init__" = some (some (.ref fI)) ∧ PySem.W.typeIn K (.ref fI) = some (.type "function") ∧ FnOk P w K mg base CX0 1 fI fd ps (spI C f) ∧ Binds K fd ps []
section
variable {X : Cx} {e : Expr} {te : TE} {x f : Str} {C : Addr} {p pos pos' : Pos} {W : WX} {B newId initId : String} {bt : List Value}
theorem pmk_B (R : XRB B newId initId bt X.prog X.w X.K X.mg X.base x C f) (hr : Room 2 X.A) (hg : Gl X x) (he : PE X e te) (hdb : (x == ("__debug__" : Str)) = false := by decide)
    (hs : starEach [e] X.env = (false, eval e X.env) :: starEach [] X.env := by rfl) (hpl : (backTo pos (starEach [] X.env)).any (·.1) = false := by rfl) : PMk X (.Call (.Name x p) [e] [] pos) (tMkV C f te) := by
  obtain ⟨fI, fd, ps, iC, tI, F1, hb⟩ := R.init
  have T := R.c.ox
  obtain ⟨nm, q, N, bs, bm, sn, sub, ab, col, dd, k0, k1, k2, k3, k5, hC, hbm⟩ := T.obj
  intro pins s σ H Q I h
  apply wpAny_Call_Name_kw
  apply ld_glob I hg R.c.g _ hdb
  apply PySem.W.callWith_K (h₀ := X.base) I.ok.mod.kin T.kC _ hs hpl
  have ha : PA X [e] (tCons (tUp te) tNil) := pa_cons (pe_up he) pa_nil hs
  refine thn (ha.run pos pins s σ H (fun vs H1 => ∃ v, vs = [v] ∧ ∀ (dd : Addr) (H' : Hp), Same H1 H' → H1 dd = none → H' dd = some (.xd [(f, v)]) → Q (.ref C) (some dd) H') I ⟨_, h, fun v H1 z => ⟨v, rfl, z⟩⟩) fun us s1 z => ?_
  obtain ⟨vs, H1, I1, r1, v, rfl, q1⟩ := z
  refine ⟨I1.kIn, ?_⟩
  show wpAny (model X.prog X.w) X.A (call (.ref C) us) _ _ _
  obtain ⟨hp, g, dr, tk, os⟩ := s1
  have big : hp.objs.size ≤ hp.objs.size + 1 := Nat.le_succ _
  generalize en : hp.objs.size + 1 = n at big
  have free : H1 n = none := I1.hok.fresh big
  have old : ∀ b o, hp.get? b = some o → ((hp.push (PySem.W.kdv_tup us)).push (PySem.HandSPX.excO C hp.objs.size)).get? b = some o := fun b o z => by
    apply Heap.get?_push_of_some
    apply Heap.get?_push_of_some
    exact z
  have new : ((hp.push (PySem.W.kdv_tup us)).push (PySem.HandSPX.excO C hp.objs.size)).get? n = some (PySem.HandSPX.excO C hp.objs.size) := by
    rw [← en]
    heap_get
  have I2 := I1.laid (t' := tk) (a := n) (o := exo n C none) (h' := (hp.push (PySem.W.kdv_tup us)).push (PySem.HandSPX.excO C hp.objs.size)) old big (exo_ok new)
  have wish : spI C f [.ref n, v] (upd H1 n (exo n C none)) (fun z H2 => z = .non ∧ ∃ (d : Addr) (fs : List (Str × V)), H2 n = some (exo n C (some d)) ∧ H2 d = some (exd d fs) ∧ H1 d = none ∧ Q (.ref C) (some d) (upd (del H2 n) d (.xd fs))) (fun _ _ _ => False) := by
    refine ⟨n, v, rfl, upd_same, fun dx nd ne => ⟨rfl, dx, [(f, v)], upd_same, ?_, ?_, ?_⟩⟩
    · rw [upd_ne ne]
      exact upd_same
    · rw [upd_ne ne] at nd
      exact nd
    · have nd' : H1 dx = none := by
        rw [upd_ne ne] at nd
        exact nd
      refine q1 dx _ (fun b o z => ?_) nd' upd_same
      have ba := ne_of_none z free
      rw [upd_ne (ne_of_none z nd'), del_ne ba, upd_ne ba, upd_ne (ne_of_none z nd'), upd_ne ba]
      exact z
  have r2 : Vals [V.ref n, v] (Value.ref n :: us) := .cons rfl r1
  have len : (Value.ref n :: us ++ []).length = ps.length := by
    rw [List.append_nil, ← r2.length]
    exact F1.len _ _ _ _ wish
  have few : us.length ≤ sizeLine := by
    have z := Paired.length r1
    rw [sizeLine_eq, ← z]
    show 1 ≤ _
    omega
  have bind := hb _ (Value.ref n :: us) I2.kIn len
  rw [List.append_nil] at bind
  apply wpAny_call
  refine PySem.HandSPX.call_own T.tail.base hbm.has (I1.kIn _ _ hC) (PySem.W.looks_findIn I1.kIn iC) (fun self => PySem.W.bind_fn I1.kIn self tI) few ?_
  rw [en]
  refine codeAny_mono (F1.run _ X.stack _ _ ⟨Value.ref n :: us, []⟩ (Value.ref n :: us) _ _ _ (hr.make C us []) (I2.env0.make C us []) bind r2 wish) fun r s' z => ?_
  cases r with
  | error er => exact z.elim
  | ok fl =>
    cases fl with
    | ret u =>
      obtain ⟨z0, H2, os2, bare2, un2, hok2, rv, rfl, d, fs, ea, ed, hd1, q2⟩ := z
      obtain ⟨h2, g2, d2, t2, os'⟩ := s'
      exact ⟨rv, mk_end (raises_own T.exC T.tyC) I1 big old un2 hok2 os2 bare2 ea ed hd1 q2⟩
    | next => exact z.elim
    | brk => exact z.elim
    | cont => exact z.elim
theorem ps_rseB (hc : X.calm = true) (tk : Takes X W) (R : XRB B newId initId bt X.prog X.w X.K X.mg X.base x C f) (hr : Room 2 X.A) (hg : Gl X x) (he : PE X e te) (hdb : (x == ("__debug__" : Str)) = false := by decide)
    (hs : starEach [e] X.env = (false, eval e X.env) :: starEach [] X.env := by rfl) (hpl : (backTo pos (starEach [] X.env)).any (·.1) = false := by rfl) : PS X (.Raise (some (.Call (.Name x p) [e] [] pos)) none pos') (tRse C f W te) :=
  ps_raise hc tk (pmk_B R hr hg he hdb hs hpl)
end
end LK
set_option Elab.async false
set_option linter.all false
set_option maxRecDepth 100000
set_option maxHeartbeats 4000000
/-! LK11: for over a list or a tuple -/
namespace LK
open PySem PySem.Spec L2
open PyProof.Rows hiding St
/-- what is walked: a list or a tuple -/
def iSeq (K : PySem.W.Frag) (te : TE) : TI := fun σ H R => te σ H fun x H1 => ∃ a, x = .ref a ∧ (((∃ xs, SqL K H1 a xs) ∧ R (Itl K a) H1) ∨ ((∃ xs, SqT K H1 a xs) ∧ R (Itt K a) H1))
section
variable {X : Cx} {tg e : Expr} {te : TE}
theorem pi_seq (he : PE X e te) : PI X tg e (iSeq X.K te) := by
  constructor
  intro pins s σ H R I h
  apply thn (he.run pins s σ H _ I h)
  rintro v s1 ⟨x, H1, I1, r1, a, rfl, q⟩
  cases r1
  have fp : ∀ b ∈ [s1.heap.objs.size], _ := fun b hb => by
    cases List.mem_singleton.mp hb
    exact I1.fpOk (Nat.le_refl _) (I1.hok.fresh (Nat.le_refl _))
  rcases q with ⟨⟨xs, hq⟩, q⟩ | ⟨⟨xs, hq⟩, q⟩
  · obtain ⟨its, rv, p, _⟩ := I1.list hq
    apply wpAny_pyIter_list p.isList
    exact ⟨s1.heap.objs.size, [s1.heap.objs.size], _, _, H1, rfl, I1.kept (t' := s1.toks) (fun b o z => Heap.get?_push_of_some _ z), turn_list a _, ⟨_, Heap.get?_push_size _ rfl, rfl, rfl⟩, fp, q⟩
  · obtain ⟨its, rv, p, _⟩ := I1.tuple hq
    apply wpAny_pyIter_tuple (show s1.heap.IsTuple a its.toArray from p)
    exact ⟨s1.heap.objs.size, [s1.heap.objs.size], _, _, H1, rfl, I1.kept (t' := s1.toks) (fun b o z => Heap.get?_push_of_some _ z), turn_tuple a _, ⟨_, Heap.get?_push_size _ rfl, rfl, rfl⟩, fp, q⟩
end
section
variable {K : PySem.W.Frag} {a : Addr} {S : List Addr} {σ : St} {G H : Hp} {te : TE} {g : TG} {tb : TS} {Dn : Ends}
theorem q_forR {cI : Int → Prop} (h : Ev K a G te σ (IsI cI)) (hb : ∀ i, cI i → 0 ≤ i ∧ i < 100000) (f : Fr a S H) (s : Same G (off S H))
    (q : ∀ (n : Nat) H', Ext a H H' → Fr a S H' → cI (n : Nat) → ∃ Pv : Nat → St → Hp → Prop, Pv 0 σ H' ∧ (∀ i σ' H'', i < n → Pv i σ' H'' → g (.int (0 + (i : Nat))) σ' H'' fun σ2 H2 => tb { Dn with nx := Pv (i + 1), ct := Pv (i + 1), bk := Dn.nx } σ2 H2) ∧ ∀ σ' H'', Pv n σ' H'' → Dn.nx σ' H'') :
    tFor (iRng1 (tCons te tNil)) g tb Dn σ H := wr_range h hb f s _ fun n H2 x2 hn => by
  obtain ⟨Pv, h0, hs, hd⟩ := q n H2 x2 (f.ext x2) hn
  exact for_range (lo := 0) (n := n) Pv h0 hs hd
/-- for over a list or a tuple of data -/
theorem q_forS {A : List PyData → Prop} (h : Ev K a G te σ (fun d => ∃ ds, (d = .list ds ∨ d = .tuple ds) ∧ A ds)) (f : Fr a S H) (s : Same G (off S H))
    (q : ∀ (xs : List V) (ds : List PyData) H', Ext a H H' → Fr a S H' → DA K (off S H') xs ds → A ds → ∃ Pv : Nat → St → Hp → Prop, Pv 0 σ H' ∧ (∀ i σ' H'', Pv i σ' H'' → Ext a H' H'') ∧
      (∀ i x σ' H'', xs[i]? = some x → Pv i σ' H'' → g x σ' H'' fun σ2 H2 => tb { Dn with nx := Pv (i + 1), ct := Pv (i + 1), bk := Dn.nx } σ2 H2) ∧ ∀ σ' H'', Pv xs.length σ' H'' → Dn.nx σ' H'') :
    tFor (iSeq K te) g tb Dn σ H := h S H f s _ fun v d H2 x2 m c => by
  obtain ⟨ds, hd, hA⟩ := c
  rcases hd with rfl | rfl
  · cases m with
    | @lst L xs _ hL mx =>
      obtain ⟨Pv, h0, he, hs, hd⟩ := q xs ds H2 x2 (f.ext x2) mx hA
      refine ⟨L, rfl, .inl ⟨⟨_, SqL.of (off_le _ _ hL)⟩, for_list (K := K) (a := L) (xs := xs) Pv h0 ?_ hs hd⟩⟩
      intro i σ' H' _ p
      exact SqL.of (off_le _ _ ((he i σ' H' p).off f.mem _ _ hL))
  · cases m with
    | @tup t xs _ ht mx =>
      obtain ⟨Pv, h0, he, hs, hd⟩ := q xs ds H2 x2 (f.ext x2) mx hA
      refine ⟨t, rfl, .inr ⟨⟨_, sqT_same off_le ht⟩, for_tup (K := K) (a := t) (xs := xs) Pv h0 ?_ hs hd⟩⟩
      intro i σ' H' _ p
      exact sqT_same (fun b o e => off_le _ _ ((he i σ' H' p).off f.mem b o e)) ht
end
end LK
set_option Elab.async false
set_option linter.all false
set_option maxRecDepth 100000
set_option maxHeartbeats 4000000
/-! LK12: defs with *args alone, the guards known -/
namespace LK
open PySem PySem.Spec L2
open PyProof.Rows hiding St
def FnRG (P : Program) (w : World) (K : PySem.W.Frag) (mg : Str → Option Value) (base : Heap) (CX : CXT) (k : Nat) (f : Addr) (sp : Sp) : Prop :=
  ∀ (A : Around) (outer : List Env) (s : Shared) (H : Hp) (us : List Value) (vs : List V) (Q : VK) (E : XK), NoG A → Room k A → Env0 P w K mg base A outer s H → Vals vs us → sp vs H Q E →
    codeAny (model P w) A (.call (.ref f) ⟨us, []⟩) (CR CX outer P w H s Q E) s
section
variable {CX : CXT} {P : Program} {w : World} {K : PySem.W.Frag} {mg : Str → Option Value} {base : Heap} {k : Nat} {f : Addr} {name qual : Str} {params : Arguments} {body : List Stmt} {scope : Scope} {dV kV doc pm cdv ct oc : Value} {an od : Option Addr}
  {osl : Array (Option Value)} {N : List Str} {sp : Sp} {pv : Str}
theorem fn_starG (lk : K.lookup f = some ⟨oc, od, .func (PySem.W.fnOf name qual params body scope dV kV doc pm an cdv ct), osl⟩) (hcd : PySem.W.codeIn K cdv qual = true) (S : FnScope N [pv] scope) (hCX : StX.CXUp CX)
    (hb : ∀ us : List Value, bindArgs (PySem.W.fnOf name qual params body scope dV kV doc pm an cdv ct) ⟨us, []⟩ = (newTuple us >>= fun t => pure [(pv, t)]))
    (hbody : ∀ (A : Around) (outer : List Env) (s : Shared) (H : Hp) (vs : List V) (Q : VK) (E : XK), NoG A → Room k (A.deeper (envOfC qual scope s.heap.objs.size f cdv)) → sp vs H Q E →
      ∃ t, PSs (cxOf CX P w K mg base N qual scope f cdv A outer s H E) body t ∧ t { nx := fun _ H' => Q .non H', rt := Q } (start N vs) H) :
    FnRG P w K mg base CX (k + 1) f (fun vs H Q E => vs.length ≤ sizeLine ∧ ∀ p, H p = none → sp [V.ref p] (upd H p (.tup vs)) Q E) := by
  rintro A outer s H us vs Q E hg hr e0 r ⟨hz, hq⟩
  have free : H s.heap.objs.size = none := e0.hok.fresh (Nat.le_refl _)
  have few : us.length ≤ sizeLine := by
    rw [← r.length]
    exact hz
  refine StX.run_bnd lk hcd S hr e0 (G := fun xs H2 => ∃ p, H p = none ∧ xs = [V.ref p] ∧ H2 = upd H p (.tup vs)) ?_ ?_
  · intro A' Ex Q' h
    rw [hb us]
    apply wpAny_bind
    apply wpAny_newTuple _ few
    apply wpAny_pure
    have new : ObjOk P w (upd H s.heap.objs.size (.tup vs)) (s.heap.push ({ cls := .type "tuple", data := .seq us.toArray } : Obj)) s.heap.objs.size (.tup vs) := ⟨hz, us, r, ⟨_, Heap.get?_push_size _ rfl, rfl, _, rfl⟩⟩
    have un := StX.un_laid (fs := frs outer) (s := s) (o := ({ cls := .type "tuple", data := .seq us.toArray } : Obj)) (u := .tup vs) free
    exact h _ _ [V.ref s.heap.objs.size] [Value.ref s.heap.objs.size] (StX.env0_laid e0 new) un rfl (fun e s' => hCX outer s H _ _ E e s' un (fun b o q => Heap.get?_push_of_some _ q) rfl) (.cons rfl .nil) rfl ⟨_, free, rfl, rfl⟩
  · rintro s2 H2 _ ⟨p, hp, rfl, rfl⟩ hr'
    exact hbody A outer s2 _ _ Q E hg hr' (hq p hp)
end
structure DfR (P : Program) (w : World) (K : PySem.W.Frag) (mg : Str → Option Value) (base : Heap) (CX : CXT) (k : Nat) (x : Str) (sp : Sp) : Prop where
  ex : ∃ f : Addr, FnRG P w K mg base CX k f sp ∧ mg x = some (.ref f) ∧ PySem.W.keepIn K (.ref f) = true
section
variable {X : Cx} {CX : CXT} {k : Nat} {sp : Sp} {E : St → XK} {x : Str} {p pos : Pos} {e : Expr} {es : List Expr} {t : TA}
/-- f(e, ..), f a def with *args -/
theorem pe_fnR (F : DfR X.prog X.w X.K X.mg X.base CX k x sp) (hg : NoG X.A) (hr : Room k X.A) (hgl : Gl X x) (hx : ∀ σ, PassesAt CX X σ (E σ)) (ha : PA X (e :: es) t)
    (hdb : (x == ("__debug__" : Str)) = false := by decide) (he : starEach (e :: es) X.env = (false, eval e X.env) :: starEach es X.env := by rfl) (hpl : (backTo pos (starEach es X.env)).any (·.1) = false := by rfl) :
    PE X (.Call (.Name x p) (e :: es) [] pos) (tCallX sp [] E t) := by
  obtain ⟨f, G, hm, hk⟩ := F.ex
  constructor
  intro pins s σ H Q I h
  apply wpAny_Call_Name_kw
  apply ld_glob I hgl hm _ hdb
  apply PySem.W.callWith_K (h₀ := X.base) I.ok.mod.kin hk _ he hpl
  apply thn (ha.run pos pins s σ H _ I h)
  rintro us s1 ⟨vs, H1, I1, r, q⟩
  have q' : sp vs H1 Q (E σ) := by simpa using q
  refine ⟨I1.kIn, wpAny_call (codeAny_mono (G X.A X.stack s1 H1 us vs Q (E σ) hg hr I1.env0 r q') fun r' s' z => ?_)⟩
  rcases r' with er | fl
  · exact hx σ pins H1 s1 er s' I1 z
  · cases fl
    case ret u => exact I1.after z
    all_goals exact False.elim z
/-- f() -/
theorem pe_fnR0 (F : DfR X.prog X.w X.K X.mg X.base CX k x sp) (hg : NoG X.A) (hr : Room k X.A) (hgl : Gl X x) (hx : ∀ σ, PassesAt CX X σ (E σ)) (hdb : (x == ("__debug__" : Str)) = false := by decide) :
    PE X (.Call (.Name x p) [] [] pos) (tCallX sp [] E tNil) := by
  obtain ⟨f, G, hm, hk⟩ := F.ex
  constructor
  intro pins s σ H Q I h
  apply wpAny_Call_Name_kw
  apply ld_glob I hgl hm _ hdb
  apply PySem.W.callWith_K0 I.kIn hk
  have q' : sp [] H Q (E σ) := h
  refine wpAny_call (codeAny_mono (G X.A X.stack s H [] [] Q (E σ) hg hr I.env0 .nil q') fun r' s' z => ?_)
  rcases r' with er | fl
  · exact hx σ pins H s er s' I z
  · cases fl
    case ret u => exact I.after z
    all_goals exact False.elim z
end
end LK
set_option Elab.async false
set_option linter.all false
set_option maxRecDepth 100000
set_option maxHeartbeats 4000000
/-! LK13: readings with exact values (for walk_at "ev", the rows of gen.py's @@MAC@@) -/
namespace LK
open PySem PySem.Spec L2
open PyProof.Rows hiding St
theorem DA.one {K : PySem.W.Frag} {H : Hp} {vs : List V} {d : PyData} (h : DA K H vs [d]) : ∃ v, vs = [v] ∧ D K H v d := by
  cases h with
  | cons h1 h2 =>
    cases h2
    exact ⟨_, rfl, h1⟩
theorem DA.two {K : PySem.W.Frag} {H : Hp} {vs : List V} {d e : PyData} (h : DA K H vs [d, e]) : ∃ v w, vs = [v, w] ∧ D K H v d ∧ D K H w e := by
  cases h with
  | cons h1 h2 =>
    obtain ⟨w, rfl, h3⟩ := DA.one h2
    exact ⟨_, w, rfl, h1, h3⟩
section
variable {K : PySem.W.Frag} {a : Addr} {S : List Addr} {σ : St} {G H : Hp} {ta tb tc te : TE} {t u : TT} {tr : TA} {C C1 C2 : PyData → Prop} {A1 : List PyData → Prop} {Dn : Ends} {b c : Bool} {i j : Int} {d e : PyData}
/-! tests -/
theorem et_valE (h : Ev K a G te σ (· = .bool b)) : EvT a G (tB te) σ (· = b) := et_val (h.imp fun _ z => ⟨_, z, rfl⟩)
theorem et_testE (h : Ev K a G te σ (· = .bool b)) : EvT a G (tTest te) σ (· = b) := et_test (h.imp fun _ z => ⟨_, z, rfl⟩)
theorem et_notE (h : EvT a G t σ (· = b)) : EvT a G (tNot t) σ (· = !b) := et_not h fun _ z => by rw [z]
theorem et_andE (h1 : EvT a G t σ (· = b)) (h2 : b = true → EvT a G u σ (· = c)) : EvT a G (tAnd t u) σ (· = (b && c)) :=
  et_and h1 (fun z => (h2 z.symm).imp fun _ y => by rw [y, ← z, Bool.true_and]) fun z => by rw [← z, Bool.false_and]
theorem et_orE (h1 : EvT a G t σ (· = b)) (h2 : b = false → EvT a G u σ (· = c)) : EvT a G (tOr t u) σ (· = (b || c)) :=
  et_or h1 (fun z => (h2 z.symm).imp fun _ y => by rw [y, ← z, Bool.false_or]) fun z => by rw [← z, Bool.true_or]
theorem ev_andE (h1 : Ev K a G ta σ (· = .bool b)) (h2 : b = true → Ev K a G tb σ (· = .bool c)) : Ev K a G (tAndV ta tb) σ (· = .bool (b && c)) :=
  ev_andV (B := (· = b)) (h1.imp fun _ z => ⟨_, z, rfl⟩) (fun z => (h2 z.symm).imp fun _ y => by rw [y, ← z, Bool.true_and]) fun z => by rw [← z, Bool.false_and]
theorem ev_orE (h1 : Ev K a G ta σ (· = .bool b)) (h2 : b = false → Ev K a G tb σ (· = .bool c)) : Ev K a G (tOrV ta tb) σ (· = .bool (b || c)) :=
  ev_orV (B := (· = b)) (h1.imp fun _ z => ⟨_, z, rfl⟩) (fun z => (h2 z.symm).imp fun _ y => by rw [y, ← z, Bool.false_or]) fun z => by rw [← z, Bool.true_or]
theorem ev_notE (h : Ev K a G ta σ (· = .bool b)) : Ev K a G (tNotV ta) σ (· = .bool (!b)) := ev_notV (h.imp fun _ z => ⟨_, z, by rfl⟩)
theorem ev_ifE (h : EvT a G t σ (· = b)) (h1 : b = true → Ev K a G ta σ (· = d)) (h2 : b = false → Ev K a G tb σ (· = e)) : Ev K a G (tIf t ta tb) σ (· = if b = true then d else e) := by
  refine ev_if h (fun z => (h1 z.symm).imp fun _ y => ?_) (fun z => (h2 z.symm).imp fun _ y => ?_)
  · rw [y, if_pos z.symm]
  · rw [y, ← z, if_neg (by decide)]
/-! ints -/
theorem ev_addE (ha : Ev K a G ta σ (· = .int i)) (hb : Ev K a G tb σ (· = .int j)) : Ev K a G (tOp (rAddA K) ta tb) σ (· = .int (i + j)) := by
  refine ev_op ha hb ?_
  rintro _ _ rfl rfl
  exact ra_int
theorem ev_i0E {g : Int → Int → Int} (ha : Ev K a G ta σ (· = .int i)) (hb : Ev K a G tb σ (· = .int j)) : Ev K a G (tOp (rI0 fun i j => .int (g i j)) ta tb) σ (· = .int (g i j)) := by
  refine ev_op ha hb ?_
  rintro _ _ rfl rfl
  exact r2_I0 (fun _ => .int _) rfl
theorem ev_cmpE {g : Int → Int → Bool} (ha : Ev K a G ta σ (· = .int i)) (hb : Ev K a G tb σ (· = .int j)) : Ev K a G (tOp (rI0 fun i j => .bl (g i j)) ta tb) σ (· = .bool (g i j)) := by
  refine ev_op ha hb ?_
  rintro _ _ rfl rfl
  exact r2_I0 (fun _ => .bl _) rfl
theorem ev_mulE (ha : Ev K a G ta σ (· = .int i)) (hb : Ev K a G tb σ (· = .int j)) (h : CMulX i j) : Ev K a G (tOp rMulA ta tb) σ (· = .int (i * j)) := by
  refine ev_op ha hb ?_
  rintro _ _ rfl rfl
  exact R2D.inl (r2_I h (fun _ => .int _) rfl)
theorem ev_eqIE (ha : Ev K a G ta σ (· = .int i)) (hb : Ev K a G tb σ (· = .int j)) : Ev K a G (tOp (rEqA K) ta tb) σ (· = .bool (decide (i = j))) :=
  (ev_eqI (cI := (· = i)) (cJ := (· = j)) (cB := (· = decide (i = j))) (ha.imp fun _ z => ⟨_, z, rfl⟩) (hb.imp fun _ z => ⟨_, z, rfl⟩) fun _ _ z y => by rw [z, y]).imp fun _ ⟨_, z, y⟩ => by rw [z, y]
theorem ev_neIE (ha : Ev K a G ta σ (· = .int i)) (hb : Ev K a G tb σ (· = .int j)) : Ev K a G (tOp (rNeA K) ta tb) σ (· = .bool (!decide (i = j))) :=
  (ev_neI (cI := (· = i)) (cJ := (· = j)) (cB := (· = !decide (i = j))) (ha.imp fun _ z => ⟨_, z, rfl⟩) (hb.imp fun _ z => ⟨_, z, rfl⟩) fun _ _ z y => by rw [z, y]).imp fun _ ⟨_, z, y⟩ => by rw [z, y]
/-! isinstance by a built-in class -/
def isTy (n : String) (d : PyData) : Bool := (kitB (tyD d) n).getD false
theorem ev_isiE {n : String} (h : Ev K a G te σ (· = d)) (hk : (kitB (tyD d) n).isSome = true) : Ev K a G (tCB (rIsi K) (tCons te (tCons (tC (.ty n)) tNil))) σ (· = .bool (isTy n d)) :=
  (ev_isi (B := (· = isTy n d)) h fun z hz => by
    subst hz
    cases e : kitB (tyD z) n with
    | none =>
      rw [e] at hk
      cases hk
    | some b => exact ⟨b, rfl, by unfold isTy; rw [e]; rfl⟩).imp fun _ ⟨_, z, y⟩ => by rw [z, y]
/-! len -/
theorem ev_lenE {n : Nat} (h : Ev K a G te σ (· = d)) (hl : lenD d = some n) (hn : n ≤ 1000000) : Ev K a G (tCB (rLenA K) (tCons te tNil)) σ (· = .int (n : Nat)) :=
  (ev_len (cI := (· = ((n : Nat) : Int))) h fun z hz => by
    subst hz
    exact ⟨n, hl, hn, rfl⟩).imp fun _ ⟨_, z, y⟩ => by rw [z, y]
/-! an item -/
theorem ev_atL {ds : List PyData} (ha : Ev K a G ta σ (· = .list ds)) (hb : Ev K a G tb σ (· = .int i)) (h : atI ds i = some d) : Ev K a G (tOp (rIx K) ta tb) σ (· = d) := ev_at (ha.imp fun _ z => .inl z) hb h
theorem ev_atT {ds : List PyData} (ha : Ev K a G ta σ (· = .tuple ds)) (hb : Ev K a G tb σ (· = .int i)) (h : atI ds i = some d) : Ev K a G (tOp (rIx K) ta tb) σ (· = d) := ev_at (ha.imp fun _ z => .inr z) hb h
/-! data without dicts, for the deep == -/
mutual
def noDict : PyData → Bool
  | .none => true
  | .bool _ => true
  | .int _ => true
  | .str _ => true
  | .list ds => noDictAll ds
  | .tuple ds => noDictAll ds
  | .dict _ => false
def noDictAll : List PyData → Bool
  | [] => true
  | d :: ds => noDict d && noDictAll ds
end
mutual
theorem D.dp : ∀ (d : PyData) (v : V), D K H v d → noDict d = true → Dp K H v d
  | .none, _, h, _ => by
    cases h
    exact .non
  | .bool b, _, h, _ => by
    cases h
    exact .bl b
  | .int i, _, h, _ => by
    cases h
    exact .int i
  | .str x, _, h, _ => by
    cases h
    exact .str x
  | .list ds, _, h, n => by
    cases h with
    | lst h1 h2 => exact .lst (SqL.of h1) (DA.dp ds _ h2 (by simpa [noDict] using n))
  | .tuple ds, _, h, n => by
    cases h with
    | tup h1 h2 => exact .tup h1 (DA.dp ds _ h2 (by simpa [noDict] using n))
  | .dict ds, _, _, n => by simp [noDict] at n
theorem DA.dp : ∀ (ds : List PyData) (vs : List V), DA K H vs ds → noDictAll ds = true → DpAll K H vs ds
  | [], _, h, _ => by
    cases h
    exact .nil
  | d :: ds, _, h, n => by
    cases h with
    | cons h1 h2 =>
      simp only [noDictAll, Bool.and_eq_true] at n
      exact .cons (D.dp d _ h1 n.1) (DA.dp ds _ h2 n.2)
end
/-- what == takes -/
structure EqOk (d : PyData) : Prop where
  nd : noDict d = true
  sh : SeqAt.shaped d = true
theorem ev_eqDE (ha : Ev K a G ta σ (· = d)) (hb : Ev K a G tb σ (· = e)) (h1 : EqOk d) (h2 : EqOk e) : Ev K a G (tOp (rEqA K) ta tb) σ (· = .bool (PyData.eqv d e)) := by
  refine ev_op ha hb ?_
  rintro _ _ rfl rfl
  exact R2D.inr <| R2D.inl fun S H x y f m1 m2 Q q => ⟨_, _, D.dp _ _ (m1.mono off_le) h1.nd, D.dp _ _ (m2.mono off_le) h2.nd, h1.sh, h2.sh, q _ _ H Ext.refl (.bl _) rfl⟩
theorem ev_neDE (ha : Ev K a G ta σ (· = d)) (hb : Ev K a G tb σ (· = e)) (h1 : EqOk d) (h2 : EqOk e) : Ev K a G (tOp (rNeA K) ta tb) σ (· = .bool (!PyData.eqv d e)) := by
  refine ev_op ha hb ?_
  rintro _ _ rfl rfl
  exact R2D.inr <| R2D.inl fun S H x y f m1 m2 Q q => ⟨_, _, D.dp _ _ (m1.mono off_le) h1.nd, D.dp _ _ (m2.mono off_le) h2.nd, h1.sh, h2.sh, q _ _ H Ext.refl (.bl _) rfl⟩
/-! a list beside [] -/
theorem ev_neNil {ds : List PyData} (ha : Ev K a G ta σ (· = .list ds)) (hb : Ev K a G tb σ (· = .list [])) : Ev K a G (tOp (rNeA K) ta tb) σ (· = .bool (!ds.isEmpty)) := by
  refine ev_op ha hb ?_
  rintro _ _ rfl rfl
  cases ds with
  | nil => exact R2D.inr <| R2D.inl fun S H x y f m1 m2 Q q => ⟨_, _, D.dp _ _ (m1.mono off_le) rfl, D.dp _ _ (m2.mono off_le) rfl, by rfl, by rfl, q _ _ H Ext.refl (.bl _) (by simp [PyData.eqv, PyData.eqvAll])⟩
  | cons d ds =>
    refine R2D.inr <| R2D.inr fun S H x y f m1 m2 Q q => ?_
    cases m1 with
    | lst h1 n1 =>
      cases m2 with
      | lst h2 n2 => exact ⟨_, _, _, _, rfl, rfl, SqL.of (off_le _ _ h1), SqL.of (off_le _ _ h2), by rw [n1.length, n2.length]; simp, q _ _ H Ext.refl (.bl _) rfl⟩
/-! one argument, exactly -/
theorem ea_one (h : Ev K a G te σ C) : EvA K a G (tCons te tNil) σ (fun ds => ∃ d, ds = [d] ∧ C d) := (ea_cons h ea_nil).imp fun _ ⟨d, r, e, c, z⟩ => ⟨d, by rw [e, z], c⟩
/-- a call of a def that gives some data by a rule -/
theorem ev_callE {pre : List PyData → Prop} {post : List PyData → PyData → Prop} {E : XK} {ds : List PyData} {C : PyData → Prop} (h : EvA K a G tr σ (· = ds)) (hp : pre ds) (hc : ∀ d, post ds d → C d) : Ev K a G (tCall (spG K pre post) [] E tr) σ C :=
  ev_callG h (fun _ z => z ▸ hp) fun _ d z p => hc d (z ▸ p)
/-- the same where the def tells its value by a function -/
def fnG (K : PySem.W.Frag) (pre : List PyData → Prop) (fn : List PyData → PyData) : Sp := spG K pre fun ds r => r = fn ds
theorem ev_fn {pre : List PyData → Prop} {fn : List PyData → PyData} {E : XK} {ds : List PyData} (h : EvA K a G tr σ (· = ds)) (hp : pre ds) : Ev K a G (tCall (fnG K pre fn) [] E tr) σ (· = fn ds) := ev_callE h hp fun _ z => z
theorem fnG_len {pre : List PyData → Prop} {fn : List PyData → PyData} {n : Nat} (hp : ∀ ds, pre ds → ds.length = n) {vs : List V} {H : Hp} {Q : VK} {E : XK} (h : fnG K pre fn vs H Q E) : vs.length = n := spG_len hp h
/-- x, y = a list or tuple of two; a swap -/
theorem q_setE {i : Nat} (h : Ev K a G te σ (· = d)) (f : Fr a S H) (s : Same G (off S H)) (q : ∀ v H', Ext a H H' → Fr a S H' → D K (off S H') v d → Dn.nx (σ.set i (some v)) H') : tAsg te (gName i) Dn σ H :=
  q_set h f s fun v d' H' x f' m z => q v H' x f' (z ▸ m)
theorem q_retE (h : Ev K a G te σ (· = d)) (f : Fr a S H) (s : Same G (off S H)) (q : ∀ v H', Ext a H H' → D K (off S H') v d → Dn.rt v H') : tRet te Dn σ H :=
  q_ret h f s fun v d' H' x m z => q v H' x (z ▸ m)
theorem q_parE {i j : Nat} (ha : Ev K a G ta σ (· = d)) (hb : Ev K a G tb σ (· = e)) (f : Fr a S H) (s : Same G (off S H))
    (q : ∀ v w H', Ext a H H' → Fr a S H' → D K (off S H') v d → D K (off S H') w e → Dn.nx ((σ.set i (some v)).set j (some w)) H') : tPar i j (tCons ta (tCons tb tNil)) Dn σ H :=
  q_par ha hb f s fun v w d' e' H' x f' m n z y => q v w H' x f' (z ▸ m) (y ▸ n)
/-- .. the first is drawn -/
theorem q_par2 {i j : Nat} (ha : Ev K a G ta σ C1) (hb : Ev K a G tb σ C2) (f : Fr a S H) (s : Same G (off S H))
    (q : ∀ v w d e H', Ext a H H' → Fr a S H' → D K (off S H') v d → D K (off S H') w e → C1 d → C2 e → Dn.nx ((σ.set i (some v)).set j (some w)) H') : tPar i j (tCons ta (tCons tb tNil)) Dn σ H := q_par ha hb f s q
theorem q_ifE {t1 t2 : TS} (h : EvT a G t σ (· = b)) (f : Fr a S H) (s : Same G (off S H)) (q1 : ∀ H', Ext a H H' → Fr a S H' → b = true → t1 Dn σ H') (q2 : ∀ H', Ext a H H' → Fr a S H' → b = false → t2 Dn σ H') : tIfS t t1 t2 Dn σ H :=
  q_if h f s (fun H' x f' z => q1 H' x f' z.symm) fun H' x f' z => q2 H' x f' z.symm
/-- (x, y), (z, w) = pair, pair -/
theorem q_unpack2 {i j k l : Nat} {d1 d2 d3 d4 : PyData} (ha : Ev K a G ta σ (· = .tuple [d1, d2])) (hb : Ev K a G tb σ (· = .tuple [d3, d4])) (f : Fr a S H) (s : Same G (off S H))
    (q : ∀ v1 v2 v3 v4 H', Ext a H H' → Fr a S H' → D K (off S H') v1 d1 → D K (off S H') v2 d2 → D K (off S H') v3 d3 → D K (off S H') v4 d4 → Dn.nx ((((σ.set i (some v1)).set j (some v2)).set k (some v3)).set l (some v4)) H') :
    tAsg (tTup (tCons ta (tCons tb tNil))) (gTup K 2 (gCons (gTup K 2 (gCons (gName i) (gCons (gName j) gNil))) (gCons (gTup K 2 (gCons (gName k) (gCons (gName l) gNil))) gNil))) Dn σ H :=
  ev_tupE (ea_eq ha (ea_eq hb ea_nil)) (by show 2 ≤ 1000; decide) S H f s _ fun v d' H2 x2 m c => by
    subst c
    cases m with
    | tup ht mx =>
      obtain ⟨p, q', rfl, mp, mq⟩ := DA.two mx
      cases mp with
      | tup h1 n1 =>
        cases mq with
        | tup h2 n2 =>
          obtain ⟨p1, p2, rfl, a1, a2⟩ := DA.two n1
          obtain ⟨p3, p4, rfl, a3, a4⟩ := DA.two n2
          exact ⟨_, _, rfl, sqT_same off_le ht, rfl, _, _, rfl, ⟨_, _, rfl, sqT_same off_le h1, rfl, _, _, rfl, _, _, rfl, rfl, _, _, rfl, ⟨_, _, rfl, sqT_same off_le h2, rfl, _, _, rfl, _, _, rfl, rfl, rfl, q _ _ _ _ H2 x2 (f.ext x2) a1 a2 a3 a4⟩⟩⟩
end
end LK
set_option Elab.async false
set_option linter.all false
set_option maxRecDepth 100000
set_option maxHeartbeats 4000000
/-! LK14: numbers as data; the promises of the program's and the laws' shared small defs -/
namespace LK
open PySem PySem.Spec L2
open PyProof.Rows hiding St
def isIntD : PyData → Bool
  | .int _ => true
  | _ => false
def intOrBool : PyData → Bool
  | .int _ => true
  | .bool _ => true
  | _ => false
def boolD : PyData → Bool
  | .bool _ => true
  | _ => false
def tupD : PyData → Bool
  | .tuple _ => true
  | _ => false
theorem kit_int : ∀ d : PyData, kitB (tyD d) "int" = some (intOrBool d)
  | .none => (by decide +kernel : kitB "NoneType" "int" = some false)
  | .bool _ => (by decide +kernel : kitB "bool" "int" = some true)
  | .int _ => (by decide +kernel : kitB "int" "int" = some true)
  | .str _ => (by decide +kernel : kitB "str" "int" = some false)
  | .list _ => (by decide +kernel : kitB "list" "int" = some false)
  | .tuple _ => (by decide +kernel : kitB "tuple" "int" = some false)
  | .dict _ => (by decide +kernel : kitB "dict" "int" = some false)
theorem kit_bool : ∀ d : PyData, kitB (tyD d) "bool" = some (boolD d)
  | .none => (by decide +kernel : kitB "NoneType" "bool" = some false)
  | .bool _ => (by decide +kernel : kitB "bool" "bool" = some true)
  | .int _ => (by decide +kernel : kitB "int" "bool" = some false)
  | .str _ => (by decide +kernel : kitB "str" "bool" = some false)
  | .list _ => (by decide +kernel : kitB "list" "bool" = some false)
  | .tuple _ => (by decide +kernel : kitB "tuple" "bool" = some false)
  | .dict _ => (by decide +kernel : kitB "dict" "bool" = some false)
theorem kit_tup : ∀ d : PyData, kitB (tyD d) "tuple" = some (tupD d)
  | .none => (by decide +kernel : kitB "NoneType" "tuple" = some false)
  | .bool _ => (by decide +kernel : kitB "bool" "tuple" = some false)
  | .int _ => (by decide +kernel : kitB "int" "tuple" = some false)
  | .str _ => (by decide +kernel : kitB "str" "tuple" = some false)
  | .list _ => (by decide +kernel : kitB "list" "tuple" = some false)
  | .tuple _ => (by decide +kernel : kitB "tuple" "tuple" = some true)
  | .dict _ => (by decide +kernel : kitB "dict" "tuple" = some false)
theorem isInt_eq (d : PyData) : (intOrBool d && !boolD d) = isIntD d := by cases d <;> rfl
def pre1 (ds : List PyData) : Prop := ∃ d, ds = [d]
def post1 (f : PyData → PyData) (ds : List PyData) (r : PyData) : Prop := ∃ d, ds = [d] ∧ r = f d
theorem pre1_len {ds : List PyData} (h : pre1 ds) : ds.length = 1 := by
  obtain ⟨d, rfl⟩ := h
  rfl
/-- two ints -/
def preI (c : Int → Int → Prop) (ds : List PyData) : Prop := ∃ x y : Int, ds = [.int x, .int y] ∧ c x y
def postI (g : Int → Int → PyData) (ds : List PyData) (r : PyData) : Prop := ∃ x y : Int, ds = [.int x, .int y] ∧ r = g x y
theorem preI_len {c : Int → Int → Prop} {ds : List PyData} (h : preI c ds) : ds.length = 2 := by
  obtain ⟨x, y, rfl, _⟩ := h
  rfl
section
variable {P : Program} {w : World} {K : PySem.W.Frag} {mg : Str → Option Value} {base : Heap} {a : Addr} {G : Hp} {S : List Addr} {H : Hp}
theorem ev_call1 {σ : L2.St} {te : TE} {d : PyData} {fn : PyData → PyData} {E : XK} (h : Ev K a G te σ (· = d)) : Ev K a G (tCall (spG K pre1 (post1 fn)) [] E (tCons te tNil)) σ (· = fn d) := by
  refine ev_callG (ea_eq h ea_nil) ?_ ?_
  · rintro _ rfl
    exact ⟨d, rfl⟩
  · rintro _ r rfl ⟨d', e, rfl⟩
    injection e with e _
    rw [e]
theorem ev_callI {σ : L2.St} {ta tb : TE} {x y : Int} {c : Int → Int → Prop} {g : Int → Int → PyData} {E : XK} (ha : Ev K a G ta σ (· = .int x)) (hb : Ev K a G tb σ (· = .int y)) (hc : c x y) : Ev K a G (tCall (spG K (preI c) (postI g)) [] E (tCons ta (tCons tb tNil))) σ (· = g x y) := by
  refine ev_callG (ea_eq ha (ea_eq hb ea_nil)) ?_ ?_
  · rintro _ rfl
    exact ⟨x, y, rfl, hc⟩
  · rintro _ r rfl ⟨x', y', e, rfl⟩
    injection e with e1 e
    injection e with e2 _
    injection e1 with e1
    injection e2 with e2
    rw [e1, e2]
theorem ev_isInteger {σ : L2.St} {te : TE} {d : PyData} (e0 : Ev K a G te σ (· = d)) :
    Ev K a G (tAndV (tCB (rIsi K) (tCons te (tCons (tC (.ty "int")) tNil))) (tNotV (tCB (rIsi K) (tCons te (tCons (tC (.ty "bool")) tNil))))) σ (· = .bool (isIntD d)) := by
  refine ev_andV (B := (· = intOrBool d)) (ev_isi e0 ?_) (fun h => ev_notV (C := (· = .bool (isIntD d))) (ev_isi e0 ?_)) ?_
  · rintro _ rfl
    exact ⟨_, kit_int _, rfl⟩
  · rintro _ rfl
    refine ⟨_, kit_bool _, ?_⟩
    rw [← isInt_eq, ← h, Bool.true_and]
  · intro h
    rw [← isInt_eq, ← h, Bool.false_and]
def gcdP (x y : Int) : PyData := .int (Int.gcd x y : Nat)
theorem rd_gcd {σ : Int → Int → L2.St} {i j : Nat} {H : Hp} {Dn : Ends} {x y : Int} (hi : ∀ f s, (σ f s)[i]? = some (some (.int f))) (hj : ∀ f s, (σ f s)[j]? = some (some (.int s))) (hs : ∀ f s f' s', ((σ f s).set i (some (.int f'))).set j (some (.int s')) = σ f' s')
    (h0 : 0 ≤ y) (q : ∀ f : Int, (f.natAbs : Nat) = Int.gcd x y → (0 ≤ x → 0 ≤ f) → Dn.nx (σ f 0) H) :
    tWhile (tTest (tOp (rNeA K) (tVar j) (tC (.int 0)))) (tPar i j (tCons (tVar j) (tCons (tOp (rI (fun _ j => 0 < j) fun i j => .int (i % j)) (tVar i) (tVar j)) tNil))) Dn (σ x y) H := by
  refine ⟨fun m σ' H' => ∃ f s : Int, σ' = σ f s ∧ H' = H ∧ 0 ≤ s ∧ m = s.natAbs ∧ Int.gcd f s = Int.gcd x y ∧ (0 ≤ x → 0 ≤ f), ⟨y.natAbs, x, y, rfl, rfl, h0, rfl, rfl, id⟩, ?_⟩
  rintro m _ H1 ⟨f, s, rfl, eH, hs0, rfl, hg, hx⟩
  subst eH
  refine ⟨.int s, hj f s, .inl ⟨rfl, _, rfl, ?_⟩⟩
  refine ite2 (fun e => ?_) (fun e => ?_)
  · have hne : s ≠ 0 := by
      intro z
      subst z
      cases e
    have hp : 0 < s := by omega
    refine ⟨fun σ' H' => ∃ f' s' : Int, σ' = σ f' s' ∧ H' = H1 ∧ 0 ≤ s' ∧ s'.natAbs < s.natAbs ∧ Int.gcd f' s' = Int.gcd x y ∧ (0 ≤ x → 0 ≤ f'), ?_, ?_⟩
    · rintro σ' H' ⟨f', s', rfl, rfl, h1, h2, h3, h4⟩
      exact ⟨_, h2, f', s', rfl, rfl, h1, rfl, h3, h4⟩
    · refine ⟨.int s, hj f s, .int f, hi f s, .int s, hj f s, f, s, rfl, rfl, hp, .int s, .int (f % s), rfl, ?_⟩
      refine ⟨s, f % s, hs _ _ _ _, rfl, Int.emod_nonneg _ hne, ?_, ?_, fun _ => hs0⟩
      · have h1 := Int.emod_nonneg f hne
        have h2 := Int.emod_lt_of_pos f hp
        omega
      · rw [gcd_step hp, hg]
  · have z : s = 0 := by
      by_cases z : s = 0
      · exact z
      · exact absurd (by simp [z]) e
    subst z
    refine q f ?_ hx
    rw [← hg, Int.gcd_zero]
abbrev DfI (P : Program) (w : World) (K : PySem.W.Frag) (mg : Str → Option Value) (base : Heap) (k : Nat) (x : Str) (ps : List Str) (c : Int → Int → Prop) (g : Int → Int → PyData) : Prop := Df P w K mg base CX0 k x ps (spG K (preI c) (postI g))
abbrev Df1 (P : Program) (w : World) (K : PySem.W.Frag) (mg : Str → Option Value) (base : Heap) (k : Nat) (x p : Str) (fn : PyData → PyData) : Prop := Df P w K mg base CX0 k x [p] (spG K pre1 (post1 fn))
def isRatD : PyData → Bool
  | .int _ => true
  | .tuple [.int x, .int y] => decide (2 ≤ y) && decide (Int.gcd x y = 1)
  | _ => false
theorem isRat_tup {x y : PyData} (h : ¬ ((isIntD x && isIntD y) = true)) : isRatD (.tuple [x, y]) = false := by
  cases x <;> first | rfl | skip
  cases y <;> first | rfl | skip
  exact absurd rfl h
theorem isRat_len {ds : List PyData} (h : ds.length ≠ 2) : isRatD (.tuple ds) = false := by
  match ds, h with
  | [], _ => rfl
  | [x], _ =>
    cases x <;> rfl
  | [_, _], h => exact absurd rfl h
  | x :: y :: _ :: _, _ =>
    cases x <;> first | rfl | skip
    cases y <;> rfl
abbrev FIs (P : Program) (w : World) (K : PySem.W.Frag) (mg : Str → Option Value) (base : Heap) : Prop := Df1 P w K mg base 1 "is_integer" "value" fun d => .bool (isIntD d)
abbrev FCd (P : Program) (w : World) (K : PySem.W.Frag) (mg : Str → Option Value) (base : Heap) : Prop := DfI P w K mg base 1 "common_divisor" ["one", "other"] (fun _ _ => True) gcdP
abbrev FCm (P : Program) (w : World) (K : PySem.W.Frag) (mg : Str → Option Value) (base : Heap) : Prop := DfI P w K mg base 1 "_law_common" ["_law_a", "_law_b"] (fun _ y => 0 ≤ y) gcdP
theorem not_true {b : Bool} (h : b = false) : (!b) = true := by rw [h]; rfl
theorem not_false {b : Bool} (h : b = true) : (!b) = false := by rw [h]; rfl
def small2 (x y : Int) : Prop := y ≠ 0 ∧ x.natAbs < 2 ^ 4000 ∧ y.natAbs < 2 ^ 4000
theorem gcd_small {x y : Int} (h : small2 x y) : 0 < Int.gcd x y ∧ Int.gcd x y < 2 ^ 4000 :=
  ⟨Int.gcd_pos_of_ne_zero_right x h.1, Nat.lt_of_le_of_lt (Int.gcd_le_natAbs_right x h.1) h.2.2⟩
abbrev FRa (P : Program) (w : World) (K : PySem.W.Frag) (mg : Str → Option Value) (base : Heap) : Prop := DfI P w K mg base 2 "_law_ratio" ["_law_top", "_law_low"] small2 ratioD
abbrev FLo (P : Program) (w : World) (K : PySem.W.Frag) (mg : Str → Option Value) (base : Heap) : Prop := DfI P w K mg base 2 "lowest" ["numerator", "denominator"] small2 ratioD
abbrev preT (ds : List PyData) : Prop := ∃ d, ds = [d] ∧ Tame d
abbrev FIN (P : Program) (w : World) (K : PySem.W.Frag) (mg : Str → Option Value) (base : Heap) : Prop := Df P w K mg base CX0 2 "is_number" ["value"] (spG K preT (post1 fun d => .bool (isRatD d)))
theorem ev_callT {σ : L2.St} {te : TE} {d : PyData} {fn : PyData → PyData} {E : XK} (h : Ev K a G te σ (· = d)) (t : Tame d) : Ev K a G (tCall (spG K preT (post1 fn)) [] E (tCons te tNil)) σ (· = fn d) := by
  refine ev_callG (ea_eq h ea_nil) ?_ ?_
  · rintro _ rfl
    exact ⟨d, rfl, t⟩
  · rintro _ r rfl ⟨d', e, rfl⟩
    injection e with e _
    rw [e]
theorem int_of {d : PyData} (h : isIntD d = true) : ∃ i, d = .int i := by
  cases d <;> first | exact ⟨_, rfl⟩ | cases h
def preC (ds : List PyData) : Prop := ∃ es, (ds = [.list es] ∨ ds = [.tuple es]) ∧ ∀ z ∈ es, Tame z
def postC (ds : List PyData) (_ : PyData) : Prop := ∃ es, (ds = [.list es] ∨ ds = [.tuple es]) ∧ ∀ z ∈ es, isRatD z = true
/-- r is the first that is no number -/
def firstBad : List PyData → PyData → Prop
  | [], _ => False
  | z :: es, r => (isRatD z = false ∧ r = z) ∨ (isRatD z = true ∧ firstBad es r)
theorem first_at : ∀ {es : List PyData} {i : Nat} {z : PyData}, es[i]? = some z → (∀ j < i, ∀ y, es[j]? = some y → isRatD y = true) → isRatD z = false → firstBad es z
  | [], i, z, h, _, _ => by simp at h
  | e :: es, 0, z, h, _, hz => by
    simp at h
    subst h
    exact .inl ⟨hz, rfl⟩
  | e :: es, i + 1, z, h, ha, hz => .inr ⟨ha 0 (Nat.succ_pos i) e rfl, first_at (i := i) (by simpa using h) (fun j hj y hy => ha (j + 1) (Nat.succ_lt_succ hj) y (by simpa using hy)) hz⟩
def rpC (ds : List PyData) (r : PyData) : Prop := ∃ es, (ds = [.list es] ∨ ds = [.tuple es]) ∧ firstBad es r
abbrev spC (K : PySem.W.Frag) (C : Addr) : Sp := spX K C "value" preC postC rpC
def topLow : PyData → PyData
  | .tuple es => .tuple es
  | d => .tuple [d, .int 1]
theorem isRat_no {d : PyData} (h1 : intOrBool d = false) (h2 : tupD d = false) : isRatD d = false := by
  cases d <;> first | rfl | (simp [tupD] at h2; done) | (simp [intOrBool] at h1; done)
theorem tup_of {d : PyData} (h : tupD d = true) : ∃ es, d = .tuple es := by
  cases d <;> first | exact ⟨_, rfl⟩ | cases h
theorem bulk_len : ∀ l : List PyData, l.length ≤ PyData.bulkAll l
  | [] => by simp
  | z :: l => by
    have := bulk_len l
    simp only [PyData.bulkAll, List.length_cons]
    omega
theorem tame_tup {es : List PyData} (h : Tame (.tuple es)) : es.length ≤ 8000 := by
  have h1 := h.bk
  simp only [PyData.bulk] at h1
  exact Nat.le_trans (bulk_len es) h1
/-- [script, k]: the script, a place -/
def spPot (K : PySem.W.Frag) : Sp := fun vs H Q _ => ∃ (s : Addr) (ns : List Int) (k : Nat), vs = [.ref s, .int (k : Nat)] ∧ SqL K H s (ns.map V.int) ∧ k < 64 ∧ ∀ p H', Same H H' → H p = none → PotAt H' p → Q (.ref p) H'
def preD (ds : List PyData) : Prop := ∃ m : Int, ds = [.int m] ∧ 0 < m ∧ m < 2 ^ 200
def postD (ds : List PyData) (r : PyData) : Prop := ∃ m k : Int, ds = [.int m] ∧ r = .int k ∧ 0 ≤ k ∧ k < m
/-- a draw, as it is used -/
theorem ev_draw {σ : St} {i : Nat} {E : XK} {te : TE} {m : Int} (hi : σ[i]? = some (some (.ref a))) (h : Ev K a G te σ (· = .int m)) (h0 : 0 < m) (h1 : m < 2 ^ 200) :
    Ev K a G (tCall (spP K preD postD) [] E (tCons (tVar i) (tCons te tNil))) σ (IsI fun k => 0 ≤ k ∧ k < m) := by
  refine ev_callP hi (ea_eq h ea_nil) ?_ ?_
  · rintro _ rfl
    exact ⟨m, rfl, h0, h1⟩
  · rintro _ d rfl ⟨m', k, e, rfl, k0, k1⟩
    injection e with e _
    injection e with e
    subst e
    exact ⟨k, rfl, k0, k1⟩
abbrev DfD (P : Program) (w : World) (K : PySem.W.Frag) (mg : Str → Option Value) (base : Heap) (p : Str := "_law_many") : Prop := Df P w K mg base CX0 1 "_law_draw" ["_law_pot_here", p] (spP K preD postD)
end
namespace Odd29
def oddA : List PyData := [.none, .int 0, .int 1, .bool true, .bool false, .str "", .str "A", .str "nineletters", .tuple [], .list [], .dict [], .tuple [.int 1, .int 2], .tuple [.int 2, .int 4], .tuple [.int 3, .int 1], .tuple [.int 1, .int 0], .tuple [.int 1, .int (-2)]]
def oddB : List PyData := [.tuple [.bool true, .int 2], .list [.int 1, .int 2], .tuple [.int 1, .int 2, .int 3], .tuple [.str "1", .int 2], .tuple [.int 0, .int 2], .tuple [.int (-3), .int 6], .int (-5), .str "a", .str "ab", .str "a b", .str "1", .tuple [.str "a"]]
def oddC : List PyData := [.tuple [.int 1, .bool true]]
def oddL : List PyData := oddA ++ oddB ++ oddC
end Odd29
abbrev odd29 : List PyData := Odd29.oddL
/-- a number as top and low -/
def pairD : PyData → Int × Int
  | .int n => (n, 1)
  | .tuple [.int n, .int l] => (n, l)
  | _ => (0, 1)
theorem ratio_pair {n d : Int} (h : d ≠ 0) : 0 < (pairD (ratioD n d)).2 ∧ (pairD (ratioD n d)).1 * d = n * (pairD (ratioD n d)).2 ∧ Int.gcd (pairD (ratioD n d)).1 (pairD (ratioD n d)).2 = 1 := by
  have key : ∀ t l : Int, 0 < l → ∀ r, r = (if l = ((Int.gcd t l : Nat) : Int) then PyData.int (t / ((Int.gcd t l : Nat) : Int)) else .tuple [.int (t / ((Int.gcd t l : Nat) : Int)), .int (l / ((Int.gcd t l : Nat) : Int))]) →
      0 < (pairD r).2 ∧ (pairD r).1 * l = t * (pairD r).2 ∧ Int.gcd (pairD r).1 (pairD r).2 = 1 := by
    intro t l hl r hr
    have gp : 0 < Int.gcd t l := Int.gcd_pos_of_ne_zero_right t (by omega)
    have co := Int.gcd_ediv_gcd_ediv_gcd gp
    have hg : (0 : Int) < ((Int.gcd t l : Nat) : Int) := by omega
    obtain ⟨k, hk⟩ := Int.gcd_dvd_left t l
    obtain ⟨m, hm⟩ := Int.gcd_dvd_right t l
    generalize ((Int.gcd t l : Nat) : Int) = g at *
    have e1 : t / g = k := by
      rw [hk]
      exact Int.mul_ediv_cancel_left _ (by omega)
    have e2 : l / g = m := by
      rw [hm]
      exact Int.mul_ediv_cancel_left _ (by omega)
    have m0 : 0 < m := by
      rw [hm] at hl
      exact Int.lt_of_mul_lt_mul_left (a := g) (by rw [Int.mul_zero]; exact hl) (Int.le_of_lt hg)
    rw [e1, e2] at co
    rw [e1, e2] at hr
    split at hr
    · rename_i e
      subst hr
      have m1 : m = 1 := by
        rw [← e2, e]
        exact Int.ediv_self (by omega)
      subst m1
      refine ⟨Int.one_pos, ?_, co⟩
      show k * l = t * 1
      rw [hm, hk, Int.mul_one, Int.mul_one, Int.mul_comm]
    · subst hr
      refine ⟨m0, ?_, co⟩
      show k * l = t * m
      rw [hm, hk, ← Int.mul_assoc, Int.mul_comm k g]
  by_cases hd : d < 0
  · obtain ⟨a, b, e⟩ := key (-n) (-d) (by omega) (ratioD n d) (by
      unfold ratioD
      simp only [if_pos hd])
    refine ⟨a, ?_, e⟩
    rw [Int.mul_neg, Int.neg_mul] at b
    omega
  · exact key n d (by omega) (ratioD n d) (by
      unfold ratioD
      simp only [if_neg hd])
/-- two pairs in lowest terms of one class are one -/
theorem low_unique {a b c d : Int} (hb : 0 < b) (hd : 0 < d) (h1 : Int.gcd a b = 1) (h2 : Int.gcd c d = 1) (h : a * d = c * b) : a = c ∧ b = d := by
  have bd : b ∣ d := by
    have z : b ∣ a * d := ⟨c, by rw [h, Int.mul_comm]⟩
    have y := Int.dvd_gcd_mul_iff_dvd_mul.mpr z
    rw [Int.gcd_comm, h1] at y
    simpa using y
  have db : d ∣ b := by
    have z : d ∣ c * b := ⟨a, by rw [← h, Int.mul_comm]⟩
    have y := Int.dvd_gcd_mul_iff_dvd_mul.mpr z
    rw [Int.gcd_comm, h2] at y
    simpa using y
  have e : b = d := Int.dvd_antisymm (by omega) (by omega) bd db
  subst e
  exact ⟨Int.eq_of_mul_eq_mul_right (by omega) h, rfl⟩
/-- a ratio is what its pair tells -/
theorem ratio_form (n d : Int) : (∃ k, ratioD n d = .int k) ∨ ∃ k l, ratioD n d = .tuple [.int k, .int l] := by
  unfold ratioD
  dsimp only
  generalize (if d < 0 then -n else n) = t
  generalize (if d < 0 then -d else d) = l
  split
  · exact .inl ⟨_, rfl⟩
  · exact .inr ⟨_, _, rfl⟩
theorem ratio_low {n d k l : Int} (h : d ≠ 0) (e : ratioD n d = .tuple [.int k, .int l]) : l ≠ 1 := by
  rintro rfl
  have key : ∀ t l : Int, 0 < l → (if l = ((Int.gcd t l : Nat) : Int) then PyData.int (t / ((Int.gcd t l : Nat) : Int)) else .tuple [.int (t / ((Int.gcd t l : Nat) : Int)), .int (l / ((Int.gcd t l : Nat) : Int))]) ≠ .tuple [.int k, .int 1] := by
    intro t l hl z
    have gp : 0 < Int.gcd t l := Int.gcd_pos_of_ne_zero_right t (by omega)
    have hg : (0 : Int) < ((Int.gcd t l : Nat) : Int) := by omega
    obtain ⟨m, hm⟩ := Int.gcd_dvd_right t l
    generalize ((Int.gcd t l : Nat) : Int) = g at *
    split at z
    · cases z
    · rename_i hne
      injection z with z
      injection z with _ z
      injection z with z _
      injection z with z
      have e2 : l / g = m := by
        rw [hm]
        exact Int.mul_ediv_cancel_left _ (by omega)
      rw [e2] at z
      rw [z, Int.mul_one] at hm
      exact hne hm
  unfold ratioD at e
  dsimp only at e
  by_cases hd : d < 0
  · simp only [if_pos hd] at e
    exact key _ _ (by omega) e
  · simp only [if_neg hd] at e
    exact key _ _ (by omega) e
/-- ratios of one class are one -/
theorem ratio_eq {n d n' d' : Int} (h : d ≠ 0) (h' : d' ≠ 0) (e : n * d' = n' * d) : ratioD n d = ratioD n' d' := by
  obtain ⟨a1, a2, a3⟩ := ratio_pair (n := n) h
  obtain ⟨b1, b2, b3⟩ := ratio_pair (n := n') h'
  have cross : (pairD (ratioD n d)).1 * (pairD (ratioD n' d')).2 = (pairD (ratioD n' d')).1 * (pairD (ratioD n d)).2 := by
    generalize (pairD (ratioD n d)).1 = p at *
    generalize (pairD (ratioD n d)).2 = q at *
    generalize (pairD (ratioD n' d')).1 = p' at *
    generalize (pairD (ratioD n' d')).2 = q' at *
    have z : (p * q') * (d * d') = (p' * q) * (d * d') := by
      have z1 : (p * q') * (d * d') = (p * d) * (q' * d') := by ac_rfl
      have z2 : (p' * q) * (d * d') = (p' * d') * (q * d) := by ac_rfl
      rw [z1, z2, a2, b2]
      have z3 : n * q * (q' * d') = (n * d') * (q * q') := by ac_rfl
      have z4 : n' * q' * (q * d) = (n' * d) * (q * q') := by ac_rfl
      rw [z3, z4, e]
    exact Int.eq_of_mul_eq_mul_right (Int.mul_ne_zero h h') z
  obtain ⟨c1, c2⟩ := low_unique a1 b1 a3 b3 cross
  rcases ratio_form n d with ⟨k, e1⟩ | ⟨k, l, e1⟩ <;> rcases ratio_form n' d' with ⟨k', e2⟩ | ⟨k', l', e2⟩
  · rw [e1, e2] at c1 ⊢
    have c : k = k' := c1
    rw [c]
  · rw [e1, e2] at c2
    exact absurd (show (1 : Int) = l' from c2).symm (ratio_low h' e2)
  · rw [e1, e2] at c2
    exact absurd (show l = (1 : Int) from c2) (ratio_low h e1)
  · rw [e1, e2] at c1 c2 ⊢
    have x : k = k' := c1
    have y : l = l' := c2
    rw [x, y]
theorem ratio_rat {n d : Int} (h : d ≠ 0) : isRatD (ratioD n d) = true := by
  have key : ∀ t l : Int, 0 < l → isRatD (if l = ((Int.gcd t l : Nat) : Int) then .int (t / ((Int.gcd t l : Nat) : Int)) else .tuple [.int (t / ((Int.gcd t l : Nat) : Int)), .int (l / ((Int.gcd t l : Nat) : Int))]) = true := by
    intro t l hl
    have gp : 0 < Int.gcd t l := Int.gcd_pos_of_ne_zero_right t (by omega)
    split
    · rfl
    · rename_i hne
      show (decide (2 ≤ l / ((Int.gcd t l : Nat) : Int)) && decide (Int.gcd (t / ((Int.gcd t l : Nat) : Int)) (l / ((Int.gcd t l : Nat) : Int)) = 1)) = true
      rw [Bool.and_eq_true, decide_eq_true_eq, decide_eq_true_eq]
      refine ⟨?_, Int.gcd_ediv_gcd_ediv_gcd gp⟩
      obtain ⟨m, hm⟩ := Int.gcd_dvd_right t l
      have hg : (0 : Int) < ((Int.gcd t l : Nat) : Int) := by omega
      generalize ((Int.gcd t l : Nat) : Int) = g at *
      have e : l / g = m := by
        rw [hm]
        exact Int.mul_ediv_cancel_left _ (by omega)
      rw [e]
      have m0 : 0 < m := by
        rw [hm] at hl
        exact Int.lt_of_mul_lt_mul_left (a := g) (by rw [Int.mul_zero]; exact hl) (Int.le_of_lt hg)
      have m1 : m ≠ 1 := by
        rintro rfl
        rw [Int.mul_one] at hm
        exact hne hm
      omega
  unfold ratioD
  dsimp only
  by_cases hd : d < 0
  · simp only [if_pos hd]
    exact key _ _ (by omega)
  · simp only [if_neg hd]
    exact key _ _ (by omega)

abbrev DfDh (P : Program) (w : World) (K : PySem.W.Frag) (mg : Str → Option Value) (base : Heap) : Prop := DfD P w K mg base "_law_many_here"
/-! ### numbers and the rationals they tell -/
def valD (d : PyData) : Rat := Rat.divInt (pairD d).1 (pairD d).2
theorem rat_pair {d : PyData} (h : isRatD d = true) : 0 < (pairD d).2 ∧ Int.gcd (pairD d).1 (pairD d).2 = 1 ∧ ((d = .int (pairD d).1 ∧ (pairD d).2 = 1) ∨ (d = .tuple [.int (pairD d).1, .int (pairD d).2] ∧ 2 ≤ (pairD d).2)) := by
  match d, h with
  | .int n, _ => exact ⟨Int.one_pos, Int.gcd_one, .inl ⟨rfl, rfl⟩⟩
  | .tuple [.int n, .int l], h =>
    simp only [isRatD, Bool.and_eq_true, decide_eq_true_eq] at h
    have h1 := h.1
    exact ⟨by show 0 < l; omega, h.2, .inr ⟨rfl, h1⟩⟩
theorem rat_inj {d e : PyData} (hd : isRatD d = true) (he : isRatD e = true) (h : (pairD d).1 * (pairD e).2 = (pairD e).1 * (pairD d).2) : d = e := by
  obtain ⟨a1, a2, a3⟩ := rat_pair hd
  obtain ⟨b1, b2, b3⟩ := rat_pair he
  obtain ⟨c1, c2⟩ := low_unique a1 b1 a2 b2 h
  rcases a3 with ⟨x, x1⟩ | ⟨x, x1⟩ <;> rcases b3 with ⟨y, y1⟩ | ⟨y, y1⟩
  · rw [x, y, c1]
  · omega
  · omega
  · rw [x, y, c1, c2]
theorem val_inj {d e : PyData} (hd : isRatD d = true) (he : isRatD e = true) (h : valD d = valD e) : d = e := by
  obtain ⟨a1, _⟩ := rat_pair hd
  obtain ⟨b1, _⟩ := rat_pair he
  exact rat_inj hd he ((Rat.divInt_eq_divInt_iff (by omega) (by omega)).mp h)
theorem val_ratio {n d : Int} (h : d ≠ 0) : valD (ratioD n d) = Rat.divInt n d := by
  obtain ⟨a1, a2, _⟩ := ratio_pair (n := n) h
  exact (Rat.divInt_eq_divInt_iff (by omega) h).mpr a2
def sumD (d e : PyData) : PyData := ratioD ((pairD d).1 * (pairD e).2 + (pairD e).1 * (pairD d).2) ((pairD d).2 * (pairD e).2)
def prodD (d e : PyData) : PyData := ratioD ((pairD d).1 * (pairD e).1) ((pairD d).2 * (pairD e).2)
def quotD (d e : PyData) : PyData := ratioD ((pairD d).1 * (pairD e).2) ((pairD d).2 * (pairD e).1)
def lessD (d e : PyData) : Bool := decide ((pairD d).1 * (pairD e).2 < (pairD e).1 * (pairD d).2)
section
variable {d e : PyData}
theorem low_ne (h : isRatD d = true) : (pairD d).2 ≠ 0 := by
  have := (rat_pair h).1
  omega
theorem low2_ne (h : isRatD d = true) (h' : isRatD e = true) : (pairD d).2 * (pairD e).2 ≠ 0 := Int.mul_ne_zero (low_ne h) (low_ne h')
theorem val_sum (h : isRatD d = true) (h' : isRatD e = true) : valD (sumD d e) = valD d + valD e := by
  unfold sumD
  rw [val_ratio (low2_ne h h')]
  unfold valD
  rw [Rat.divInt_add_divInt _ _ (low_ne h) (low_ne h')]
theorem val_prod (h : isRatD d = true) (h' : isRatD e = true) : valD (prodD d e) = valD d * valD e := by
  unfold prodD
  rw [val_ratio (low2_ne h h')]
  unfold valD
  rw [Rat.divInt_mul_divInt]
theorem val_zero (h : isRatD d = true) : valD d = 0 ↔ (pairD d).1 = 0 := by
  unfold valD
  have z : (0 : Rat) = Rat.divInt 0 1 := by simp
  rw [z, Rat.divInt_eq_divInt_iff (low_ne h) (by decide)]
  simp
theorem quot_ne (h : isRatD d = true) (h' : isRatD e = true) (n : valD e ≠ 0) : (pairD d).2 * (pairD e).1 ≠ 0 := Int.mul_ne_zero (low_ne h) fun z => n ((val_zero h').mpr z)
theorem val_quot (h : isRatD d = true) (h' : isRatD e = true) (n : valD e ≠ 0) : valD (quotD d e) = valD d / valD e := by
  unfold quotD
  rw [val_ratio (quot_ne h h' n)]
  unfold valD
  rw [Rat.div_def, Rat.inv_divInt, Rat.divInt_mul_divInt]
theorem rat_sum (h : isRatD d = true) (h' : isRatD e = true) : isRatD (sumD d e) = true := ratio_rat (low2_ne h h')
theorem rat_prod (h : isRatD d = true) (h' : isRatD e = true) : isRatD (prodD d e) = true := ratio_rat (low2_ne h h')
theorem rat_quot (h : isRatD d = true) (h' : isRatD e = true) (n : valD e ≠ 0) : isRatD (quotD d e) = true := ratio_rat (quot_ne h h' n)
theorem less_iff (h : isRatD d = true) (h' : isRatD e = true) : lessD d e = true ↔ valD d < valD e := by
  have a := (rat_pair h).1
  have b := (rat_pair h').1
  unfold lessD valD
  rw [decide_eq_true_eq]
  generalize (pairD d).1 = x at *
  generalize (pairD d).2 = y at *
  generalize (pairD e).1 = z at *
  generalize (pairD e).2 = u at *
  have e1 : Rat.divInt x y = (x : Rat) / (y : Rat) := Rat.divInt_eq_div x y
  have e2 : Rat.divInt z u = (z : Rat) / (u : Rat) := Rat.divInt_eq_div z u
  have hy : (0 : Rat) < (y : Rat) := by exact_mod_cast a
  have hu : (0 : Rat) < (u : Rat) := by exact_mod_cast b
  rw [e1, e2, Rat.div_lt_iff hy]
  have e3 : (z : Rat) / (u : Rat) * (y : Rat) = ((z * y : Int) : Rat) / (u : Rat) := by
    rw [Rat.intCast_mul]
    grind
  rw [e3, Rat.lt_div_iff hu]
  have e4 : (x : Rat) * (u : Rat) = ((x * u : Int) : Rat) := by rw [Rat.intCast_mul]
  rw [e4]
  exact Rat.intCast_lt_intCast.symm
end
/-! ### sizes of numbers -/
structure Num (s : Nat) (d : PyData) : Prop where
  rat : isRatD d = true
  top : (pairD d).1.natAbs < 2 ^ s
  low : (pairD d).2.natAbs < 2 ^ s
theorem Num.up {s t : Nat} {d : PyData} (h : Num s d) (l : s ≤ t) : Num t d := ⟨h.rat, Nat.lt_of_lt_of_le h.top (Nat.pow_le_pow_right (by decide) l), Nat.lt_of_lt_of_le h.low (Nat.pow_le_pow_right (by decide) l)⟩
theorem ratio_num {n d : Int} {s : Nat} (h : d ≠ 0) (hn : n.natAbs < 2 ^ s) (hd : d.natAbs < 2 ^ s) : Num s (ratioD n d) := by
  have key : ∀ t l : Int, 0 < l → t.natAbs < 2 ^ s → l.natAbs < 2 ^ s → ∀ r, r = (if l = ((Int.gcd t l : Nat) : Int) then PyData.int (t / ((Int.gcd t l : Nat) : Int)) else .tuple [.int (t / ((Int.gcd t l : Nat) : Int)), .int (l / ((Int.gcd t l : Nat) : Int))]) →
      (pairD r).1.natAbs < 2 ^ s ∧ (pairD r).2.natAbs < 2 ^ s := by
    intro t l hl ht hl2 r hr
    have gp : 0 < Int.gcd t l := Int.gcd_pos_of_ne_zero_right t (by omega)
    have hg : (0 : Int) < ((Int.gcd t l : Nat) : Int) := by omega
    generalize ((Int.gcd t l : Nat) : Int) = g at *
    have b1 : (t / g).natAbs ≤ t.natAbs := Int.natAbs_ediv_le_natAbs t g
    have b2 : (l / g).natAbs ≤ l.natAbs := Int.natAbs_ediv_le_natAbs l g
    split at hr
    · subst hr
      exact ⟨Nat.lt_of_le_of_lt b1 ht, Nat.lt_of_le_of_lt (show (1 : Int).natAbs ≤ l.natAbs by show 1 ≤ _; omega) hl2⟩
    · subst hr
      exact ⟨Nat.lt_of_le_of_lt b1 ht, Nat.lt_of_le_of_lt b2 hl2⟩
  suffices q : (pairD (ratioD n d)).1.natAbs < 2 ^ s ∧ (pairD (ratioD n d)).2.natAbs < 2 ^ s from ⟨ratio_rat h, q.1, q.2⟩
  by_cases z : d < 0
  · exact key (-n) (-d) (by omega) (by omega) (by omega) (ratioD n d) (by
      unfold ratioD
      simp only [if_pos z])
  · exact key n d (by omega) hn hd (ratioD n d) (by
      unfold ratioD
      simp only [if_neg z])
theorem mul_lt {a b s t : Nat} (ha : a < 2 ^ s) (hb : b < 2 ^ t) : a * b < 2 ^ (s + t) := by
  rw [Nat.pow_add]
  exact Nat.mul_lt_mul'' ha hb
theorem mul_natAbs_lt {a b : Int} {s t : Nat} (ha : a.natAbs < 2 ^ s) (hb : b.natAbs < 2 ^ t) : (a * b).natAbs < 2 ^ (s + t) := by
  rw [Int.natAbs_mul]
  exact mul_lt ha hb
section
variable {d e : PyData} {s t : Nat}
theorem Num.sum_in (h : Num s d) (h' : Num t e) : (pairD d).2 * (pairD e).2 ≠ 0 ∧ ((pairD d).1 * (pairD e).2 + (pairD e).1 * (pairD d).2).natAbs < 2 ^ (s + t + 1) ∧ ((pairD d).2 * (pairD e).2).natAbs < 2 ^ (s + t + 1) := by
  have a := mul_natAbs_lt h.top h'.low
  have b := mul_natAbs_lt h'.top h.low
  have c := mul_natAbs_lt h.low h'.low
  rw [Nat.add_comm t s] at b
  have e : 2 ^ (s + t + 1) = 2 ^ (s + t) * 2 := Nat.pow_succ ..
  exact ⟨low2_ne h.rat h'.rat, by omega, by omega⟩
theorem Num.sum (h : Num s d) (h' : Num t e) : Num (s + t + 1) (sumD d e) := by
  obtain ⟨a, b, c⟩ := h.sum_in h'
  exact ratio_num a b c
theorem Num.prod_in (h : Num s d) (h' : Num t e) : (pairD d).2 * (pairD e).2 ≠ 0 ∧ ((pairD d).1 * (pairD e).1).natAbs < 2 ^ (s + t) ∧ ((pairD d).2 * (pairD e).2).natAbs < 2 ^ (s + t) := ⟨low2_ne h.rat h'.rat, mul_natAbs_lt h.top h'.top, mul_natAbs_lt h.low h'.low⟩
theorem Num.prod (h : Num s d) (h' : Num t e) : Num (s + t) (prodD d e) := by
  obtain ⟨a, b, c⟩ := h.prod_in h'
  exact ratio_num a b c
theorem Num.quot_in (h : Num s d) (h' : Num t e) (n : valD e ≠ 0) : (pairD d).2 * (pairD e).1 ≠ 0 ∧ ((pairD d).1 * (pairD e).2).natAbs < 2 ^ (s + t) ∧ ((pairD d).2 * (pairD e).1).natAbs < 2 ^ (s + t) := ⟨quot_ne h.rat h'.rat n, mul_natAbs_lt h.top h'.low, mul_natAbs_lt h.low h'.top⟩
theorem Num.quot (h : Num s d) (h' : Num t e) (n : valD e ≠ 0) : Num (s + t) (quotD d e) := by
  obtain ⟨a, b, c⟩ := h.quot_in h' n
  exact ratio_num a b c
theorem Num.sz (h : Num 1000 d) : Sz 10 1 d := by
  obtain ⟨a, _, b⟩ := rat_pair h.rat
  rcases b with ⟨b, _⟩ | ⟨b, _⟩
  · rw [b]
    exact (sz_int h.top).up (by decide) (by decide)
  · rw [b]
    refine (Sz.tup (n := 0) (k := 0) fun z m => ?_).up (by show 2 * 1 ≤ 10; decide) (by decide)
    simp only [List.mem_cons, List.not_mem_nil, or_false] at m
    rcases m with rfl | rfl
    · exact sz_int h.top
    · exact sz_int h.low
end

/-! ### two numbers, and what is told of them -/
def preQ (ds : List PyData) : Prop := ∃ d e s t, ds = [d, e] ∧ Num s d ∧ Num t e ∧ s + t ≤ 3990
def post2 (g : PyData → PyData → PyData) (ds : List PyData) (r : PyData) : Prop := ∃ d e, ds = [d, e] ∧ r = g d e
theorem preQ_len {ds : List PyData} (h : preQ ds) : ds.length = 2 := by
  obtain ⟨d, e, s, t, rfl, _⟩ := h
  rfl
theorem pair_top {d : PyData} (h : isRatD d = true) : topLow d = .tuple [.int (pairD d).1, .int (pairD d).2] := by
  rcases (rat_pair h).2.2 with ⟨e, e1⟩ | ⟨e, e1⟩
  · rw [e1]
    generalize (pairD d).1 = n at e
    subst e
    rfl
  · generalize (pairD d).1 = n at e
    generalize (pairD d).2 = l at e
    subst e
    rfl
theorem big_mul {i j : Int} {s t : Nat} (ha : i.natAbs < 2 ^ s) (hb : j.natAbs < 2 ^ t) (h : s + t ≤ 3990) : CMulX i j := mulx_ok ha hb (by omega)
theorem small_of {n l : Int} {s : Nat} (h : l ≠ 0) (hn : n.natAbs < 2 ^ s) (hl : l.natAbs < 2 ^ s) (hs : s ≤ 4000) : small2 n l :=
  ⟨h, Nat.lt_of_lt_of_le hn (Nat.pow_le_pow_right (by decide) hs), Nat.lt_of_lt_of_le hl (Nat.pow_le_pow_right (by decide) hs)⟩
section
variable {K : PySem.W.Frag} {a : Addr} {G : Hp} {σ : L2.St} {ta tb : TE} {d e : PyData} {s t : Nat} {E : XK}
theorem ev_call2 {g : PyData → PyData → PyData} (ha : Ev K a G ta σ (· = d)) (hb : Ev K a G tb σ (· = e)) (hd : Num s d) (he : Num t e) (h : s + t ≤ 3990) : Ev K a G (tCall (spG K preQ (post2 g)) [] E (tCons ta (tCons tb tNil))) σ (· = g d e) := by
  refine ev_callE (ea_eq ha (ea_eq hb ea_nil)) ⟨d, e, s, t, rfl, hd, he, h⟩ ?_
  rintro r ⟨d', e', z, rfl⟩
  injection z with z1 z
  injection z with z2 _
  rw [z1, z2]
theorem ev_tops (ha : Ev K a G ta σ (· = d)) (h : isRatD d = true) : Ev K a G (tCall (spG K pre1 (post1 topLow)) [] E (tCons ta tNil)) σ (· = .tuple [.int (pairD d).1, .int (pairD d).2]) :=
  (ev_call1 (fn := topLow) ha).imp fun _ z => by rw [z, pair_top h]
end
/-! ### a list of arguments, all numbers or not -/
def okN (s : Nat) (z : PyData) : Prop := Sz 100 5 z ∧ (isRatD z = true → Num s z)
theorem okN.num {s : Nat} {z : PyData} (h : okN s z) (r : isRatD z = true) : Num s z := h.2 r
theorem Num.ok {s : Nat} {z : PyData} (h : Num s z) (l : s ≤ 1000) : okN s z := ⟨(h.up l).sz.up (by decide) (by decide), fun _ => h⟩
/-- *numbers -/
def preS (ds : List PyData) : Prop := ∃ s, (∀ z ∈ ds, okN s z) ∧ ds.length * (s + 1) ≤ 3900 ∧ ds.length ≤ 1000
def postS (g : PyData → PyData → PyData) (z0 : PyData) (ds : List PyData) (r : PyData) : Prop := (∀ z ∈ ds, isRatD z = true) ∧ r = ds.foldl g z0
def pre2N (ds : List PyData) : Prop := ∃ d e s t, ds = [d, e] ∧ okN s d ∧ okN t e ∧ s + t ≤ 3980
def postB (g : PyData → PyData → PyData) (ds : List PyData) (r : PyData) : Prop := ∃ d e, ds = [d, e] ∧ isRatD d = true ∧ isRatD e = true ∧ r = g d e
theorem pre2N_len {ds : List PyData} (h : pre2N ds) : ds.length = 2 := by
  obtain ⟨d, e, s, t, rfl, _⟩ := h
  rfl

theorem fold_num {g : PyData → PyData → PyData} (hg : ∀ s t d e, Num s d → Num t e → Num (s + t + 1) (g d e)) {s : Nat} : ∀ {es : List PyData} {z0 : PyData} {t0 : Nat}, Num t0 z0 → (∀ z ∈ es, Num s z) → Num (t0 + es.length * (s + 1)) (es.foldl g z0)
  | [], z0, t0, h, _ => by simpa using h
  | e :: es, z0, t0, h, ha => by
    have h1 := hg _ _ _ _ h (ha e List.mem_cons_self)
    have h2 := fold_num hg (es := es) h1 fun z m => ha z (List.mem_cons_of_mem _ m)
    rw [List.foldl_cons]
    refine h2.up ?_
    rw [List.length_cons, Nat.add_mul]
    omega
theorem num_01 : Num 1 (.int 0) ∧ Num 1 (.int 1) := ⟨⟨rfl, by show (0 : Int).natAbs < 2 ^ 1; decide, by show (1 : Int).natAbs < 2 ^ 1; decide⟩, ⟨rfl, by show (1 : Int).natAbs < 2 ^ 1; decide, by show (1 : Int).natAbs < 2 ^ 1; decide⟩⟩
theorem take_fold {g : PyData → PyData → PyData} {es : List PyData} {i : Nat} {z z0 : PyData} (h : es[i]? = some z) : (es.take (i + 1)).foldl g z0 = g ((es.take i).foldl g z0) z := by
  obtain ⟨hi, e⟩ := List.getElem?_eq_some_iff.mp h
  rw [List.take_succ, h, Option.toList_some, List.foldl_append]
  rfl
/-- a def with *args: its promise by the arguments -/
theorem star_imp {K : PySem.W.Frag} {C : Addr} {f : Str} {pre : List PyData → Prop} {post rp : List PyData → PyData → Prop} {vs : List V} {H : Hp} {Q : VK} {E : XK} (hl : ∀ ds, pre ds → ds.length ≤ 1000)
    (h : spX K C f pre post rp vs H Q E) : vs.length ≤ sizeLine ∧ ∀ p, H p = none → spX K C f (fun ds => ∃ es, ds = [.tuple es] ∧ pre es) (fun ds r => ∃ es, ds = [.tuple es] ∧ post es r) (fun ds r => ∃ es, ds = [.tuple es] ∧ rp es r) [V.ref p] (upd H p (.tup vs)) Q E := by
  obtain ⟨a, S, ds, fr, m, hp, k1, k2⟩ := h
  refine ⟨by rw [m.length]; exact Nat.le_of_lt (small1000 (hl ds hp)), fun p hp' => ⟨a, S, [.tuple ds], fr.ext (Ext.new hp'), .cons (D.new_tup hp' (fr.out hp') m) .nil, ⟨ds, rfl, hp⟩, ?_, ?_⟩⟩
  · rintro v d H' x mv ⟨es, e, q⟩
    injection e with e _
    injection e with e
    subst e
    exact k1 v d H' ((Ext.new hp').trans x) mv q
  · rintro v d dd H' x mv ⟨es, e, q⟩ hd hS
    injection e with e _
    injection e with e
    subst e
    exact k2 v d dd H' ((Ext.new hp').trans x) mv q hd hS
theorem FnRG.imp {P : Program} {w : World} {K : PySem.W.Frag} {mg : Str → Option Value} {base : Heap} {CX : CXT} {k : Nat} {f : Addr} {sp sp' : Sp} (F : FnRG P w K mg base CX k f sp) (h : ∀ vs H Q E, sp' vs H Q E → sp vs H Q E) : FnRG P w K mg base CX k f sp' :=
  fun A outer s H us vs Q E g hr e r q => F A outer s H us vs Q E g hr e r (h _ _ _ _ q)
theorem bad_or : ∀ es : List PyData, (∀ z ∈ es, isRatD z = true) ∨ ∃ r, firstBad es r
  | [] => .inl fun z m => nomatch m
  | e :: es => by
    cases h : isRatD e with
    | false => exact .inr ⟨e, .inl ⟨h, rfl⟩⟩
    | true =>
      rcases bad_or es with a | ⟨r, a⟩
      · refine .inl fun z m => ?_
        rcases List.mem_cons.mp m with q | q
        · rw [q, h]
        · exact a z q
      · exact .inr ⟨r, .inr ⟨h, a⟩⟩
theorem bad_not : ∀ {es : List PyData} {r : PyData}, firstBad es r → ¬ ∀ z ∈ es, isRatD z = true
  | [], _, h, _ => h
  | e :: es, r, h, a => by
    rcases h with ⟨h, _⟩ | ⟨_, h⟩
    · rw [a e List.mem_cons_self] at h
      cases h
    · exact bad_not h fun z m => a z (List.mem_cons_of_mem _ m)
theorem bad_one : ∀ {es : List PyData} {r r' : PyData}, firstBad es r → firstBad es r' → r = r'
  | [], _, _, h, _ => h.elim
  | e :: es, r, r', h, h' => by
    rcases h with ⟨h, x⟩ | ⟨h, x⟩ <;> rcases h' with ⟨h', y⟩ | ⟨h', y⟩
    · rw [x, y]
    · rw [h] at h'
      cases h'
    · rw [h] at h'
      cases h'
    · exact bad_one x y

def postB2 (g : PyData → PyData → PyData) (ds : List PyData) (r : PyData) : Prop := ∃ d e, ds = [d, e] ∧ isRatD d = true ∧ isRatD e = true ∧ valD e ≠ 0 ∧ r = g d e
def rpZ (ds : List PyData) (r : PyData) : Prop := ∃ d e, ds = [d, e] ∧ isRatD d = true ∧ isRatD e = true ∧ valD e = 0 ∧ r = e
theorem rat_eqok {d : PyData} (h : isRatD d = true) : EqOk d := by
  match d, h with
  | .int n, _ => exact ⟨rfl, by simp [SeqAt.shaped, PyData.canLay0, PyData.depth]⟩
  | .tuple [.int n, .int l], _ => exact ⟨rfl, by simp [SeqAt.shaped, PyData.canLay0, PyData.canLayAll0, PyData.depth, PyData.depthAll]⟩
theorem int_eqok {i : Int} : EqOk (.int i) := ⟨rfl, by simp [SeqAt.shaped, PyData.canLay0, PyData.depth]⟩
theorem rat_zero {d : PyData} (h : isRatD d = true) : PyData.eqv d (.int 0) = decide (valD d = 0) := by
  have z := val_zero h
  match d, h with
  | .int n, _ =>
    have e : PyData.eqv (.int n) (.int 0) = (n == 0) := by simp [PyData.eqv]
    rw [e]
    have z' : valD (.int n) = 0 ↔ n = 0 := z
    by_cases y : n = 0
    · rw [decide_eq_true (z'.mpr y), y]
      rfl
    · rw [decide_eq_false fun x => y (z'.mp x)]
      simp [y]
  | .tuple [.int n, .int l], h =>
    have e : PyData.eqv (.tuple [.int n, .int l]) (.int 0) = false := by simp [PyData.eqv]
    rw [e]
    simp only [isRatD, Bool.and_eq_true, decide_eq_true_eq] at h
    refine (decide_eq_false fun x => ?_).symm
    have n0 : n = 0 := z.mp x
    rw [n0] at h
    have := h.2
    rw [Int.gcd_zero_left] at this
    omega
theorem firstBad2 {d e r : PyData} : firstBad [d, e] r ↔ (isRatD d = false ∧ r = d) ∨ (isRatD d = true ∧ isRatD e = false ∧ r = e) := by
  simp [firstBad]
/-- two ways out -/
def spX2 (K : PySem.W.Frag) (C1 : Addr) (f1 : Str) (C2 : Addr) (f2 : Str) (pre : List PyData → Prop) (post rp1 rp2 : List PyData → PyData → Prop) : Sp := fun vs H Q E => ∃ (a : Addr) (S : List Addr) (ds : List PyData),
  Fr a S H ∧ DA K (off S H) vs ds ∧ pre ds ∧ (∀ v d H', Ext a H H' → D K (off S H') v d → post ds d → Q v H') ∧
    (∀ v d dd H', Ext a H H' → D K (off S H') v d → rp1 ds d → H' dd = some (.xd [(f1, v)]) → dd ∉ S → E (.ref C1) (some dd) H') ∧
    ∀ v d dd H', Ext a H H' → D K (off S H') v d → rp2 ds d → H' dd = some (.xd [(f2, v)]) → dd ∉ S → E (.ref C2) (some dd) H'
theorem spX2_len {K : PySem.W.Frag} {C1 C2 : Addr} {f1 f2 : Str} {pre : List PyData → Prop} {post rp1 rp2 : List PyData → PyData → Prop} {n : Nat} (hp : ∀ ds, pre ds → ds.length = n) {vs : List V} {H : Hp} {Q : VK} {E : XK} (h : spX2 K C1 f1 C2 f2 pre post rp1 rp2 vs H Q E) : vs.length = n := by
  obtain ⟨a, S, ds, _, m, p, _⟩ := h
  rw [m.length]
  exact hp ds p
section
variable {K : PySem.W.Frag} {a : Addr} {S : List Addr} {σ : St} {G H : Hp} {tr : TA} {C : PyData → Prop} {A1 : List PyData → Prop}
theorem callX2_ok {C1 C2 : Addr} {f1 f2 : Str} {pre : List PyData → Prop} {post rp1 rp2 : List PyData → PyData → Prop} {E : St → XK} {Qc : VK} {ds : List PyData} (h : EvA K a G tr σ (· = ds)) (fr : Fr a S H) (s : Same G (off S H))
    (hp : pre ds) (q : ∀ v d H', Ext a H H' → Fr a S H' → D K (off S H') v d → post ds d → Qc v H')
    (e1 : ∀ v d dd H', Ext a H H' → Fr a S H' → D K (off S H') v d → rp1 ds d → H' dd = some (.xd [(f1, v)]) → dd ∉ S → E σ (.ref C1) (some dd) H')
    (e2 : ∀ v d dd H', Ext a H H' → Fr a S H' → D K (off S H') v d → rp2 ds d → H' dd = some (.xd [(f2, v)]) → dd ∉ S → E σ (.ref C2) (some dd) H') : tCallX (spX2 K C1 f1 C2 f2 pre post rp1 rp2) [] E tr σ H Qc :=
  h S H fr s _ fun vs ds H1 x1 m c => by
    subst c
    rw [List.append_nil]
    exact ⟨a, S, ds, fr.ext x1, m, hp, fun v d H2 x2 m2 p => q v d H2 (x1.trans x2) ((fr.ext x1).ext x2) m2 p,
      fun v d dd H2 x2 m2 p hd hS => e1 v d dd H2 (x1.trans x2) ((fr.ext x1).ext x2) m2 p hd hS, fun v d dd H2 x2 m2 p hd hS => e2 v d dd H2 (x1.trans x2) ((fr.ext x1).ext x2) m2 p hd hS⟩
/-- a call with one way out, the arguments known -/
theorem callX1_ok {C0 : Addr} {f : Str} {pre : List PyData → Prop} {post rp : List PyData → PyData → Prop} {E : St → XK} {Qc : VK} {ds : List PyData} (h : EvA K a G tr σ (· = ds)) (fr : Fr a S H) (s : Same G (off S H))
    (hp : pre ds) (q : ∀ v d H', Ext a H H' → Fr a S H' → D K (off S H') v d → post ds d → Qc v H')
    (e : ∀ v d dd H', Ext a H H' → Fr a S H' → D K (off S H') v d → rp ds d → H' dd = some (.xd [(f, v)]) → dd ∉ S → E σ (.ref C0) (some dd) H') : tCallX (spX K C0 f pre post rp) [] E tr σ H Qc :=
  h S H fr s _ fun vs ds H1 x1 m c => by
    subst c
    rw [List.append_nil]
    exact ⟨a, S, ds, fr.ext x1, m, hp, fun v d H2 x2 m2 p => q v d H2 (x1.trans x2) ((fr.ext x1).ext x2) m2 p,
      fun v d dd H2 x2 m2 p hd hS => e v d dd H2 (x1.trans x2) ((fr.ext x1).ext x2) m2 p hd hS⟩
/-- .. of which no exception comes -/
theorem ev_callX1 {C0 : Addr} {f : Str} {pre : List PyData → Prop} {post rp : List PyData → PyData → Prop} {E : St → XK} {ds : List PyData} (h : EvA K a G tr σ (· = ds)) (hp : pre ds) (hc : ∀ d, post ds d → C d) (hn : ∀ d, ¬ rp ds d) : Ev K a G (tCallX (spX K C0 f pre post rp) [] E tr) σ C := fun S H1 f s Q q =>
  callX1_ok h f s hp (fun v d H' x _ m p => q v d H' x m (hc d p)) fun v d dd H' _ _ _ p _ _ => absurd p (hn d)
theorem ev_callX2 {C1 C2 : Addr} {f1 f2 : Str} {pre : List PyData → Prop} {post rp1 rp2 : List PyData → PyData → Prop} {E : St → XK} {ds : List PyData} (h : EvA K a G tr σ (· = ds)) (hp : pre ds) (hc : ∀ d, post ds d → C d) (hn : ∀ d, ¬ rp1 ds d) (hn2 : ∀ d, ¬ rp2 ds d) :
    Ev K a G (tCallX (spX2 K C1 f1 C2 f2 pre post rp1 rp2) [] E tr) σ C := fun S H1 f s Q q =>
  callX2_ok h f s hp (fun v d H' x _ m p => q v d H' x m (hc d p)) (fun v d dd H' _ _ _ p _ _ => absurd p (hn d)) fun v d dd H' _ _ _ p _ _ => absurd p (hn2 d)
end
end LK
set_option Elab.async false
set_option linter.all false
set_option maxRecDepth 100000
set_option maxHeartbeats 4000000
/-! LK15: lists that a def makes and changes; list(x), tuple(x) -/
namespace LK
open PySem PySem.Spec L2
open PyProof.Rows hiding St
theorem off_upd {S : List Addr} {H : Hp} {L : Addr} {o : HO} (h : L ∈ S) : off S (upd H L o) = off S H := by
  funext b
  unfold off
  by_cases hb : b ∈ S
  · rw [if_pos hb, if_pos hb]
  · rw [if_neg hb, if_neg hb, upd_ne (fun e => hb (by rw [e]; exact h))]
theorem same_off_in {S T : List Addr} {H H' : Hp} {L : Addr} (h : H L = none) (s : Same (off S H) (off T H')) : Same (off S H) (off (L :: T) H') := fun b o e => by
  obtain ⟨n, e1⟩ := off_some (s b o e)
  obtain ⟨_, e0⟩ := off_some e
  refine off_mk (fun m => ?_) e1
  rcases List.mem_cons.mp m with z | z
  · rw [z, h] at e0
    cases e0
  · exact n z
theorem Fr.push {a : Addr} {S : List Addr} {H : Hp} {L : Addr} {o : HO} (f : Fr a S H) (h : H L = some o) : Fr a (L :: S) H := ⟨List.mem_cons_of_mem _ f.mem, f.pot, fun b m => by
  rcases List.mem_cons.mp m with e | m
  · rw [e]
    exact ⟨_, h⟩
  · exact f.all b m⟩
theorem Fr.upd {a : Addr} {S : List Addr} {H : Hp} {L : Addr} {o : HO} (f : Fr a S H) (h : L ≠ a) : Fr a S (upd H L o) := ⟨f.mem, by
  obtain ⟨p, q, e, r⟩ := f.pot
  exact ⟨p, q, by rw [upd_ne h.symm]; exact e, r⟩, fun b m => by
  by_cases e : b = L
  · rw [e]
    exact ⟨_, upd_same⟩
  · obtain ⟨o', z⟩ := f.all b m
    exact ⟨o', by rw [upd_ne e]; exact z⟩⟩
theorem Fr.less {a : Addr} {S T : List Addr} {H : Hp} (f : Fr a T H) (h : ∀ b ∈ S, b ∈ T) (m : a ∈ S) : Fr a S H := ⟨m, f.pot, fun b n => f.all b (h b n)⟩
/-- a store at what was not there ahead -/
theorem Ext.store {a : Addr} {H0 H : Hp} {L : Addr} {o : HO} (x : Ext a H0 H) (n : H0 L = none) (h : L ≠ a) : Ext a H0 (L2.upd H L o) := ⟨fun b u nb e => by
  rw [upd_ne (ne_of_none e n)]
  exact x.keep b u nb e, fun pt => by
  obtain ⟨p, q, e, r⟩ := x.pot pt
  exact ⟨p, q, by rw [upd_ne h.symm]; exact e, r⟩⟩
theorem Fr.ne {a : Addr} {S : List Addr} {H : Hp} {p : Addr} (f : Fr a S H) (h : H p = none) : p ≠ a := fun e => f.out h (e ▸ f.mem)
section
variable {K : PySem.W.Frag} {H : Hp}
theorem DA.erase : ∀ {vs : List V} {ds : List PyData} (k : Nat), DA K H vs ds → DA K H (vs.eraseIdx k) (ds.eraseIdx k)
  | _, _, _, .nil => by
    simp
    exact .nil
  | _, _, 0, .cons _ h => h
  | _, _, k + 1, .cons h1 h => .cons h1 (h.erase k)
theorem DA.set : ∀ {vs : List V} {ds : List PyData} {v : V} {d : PyData} (k : Nat), DA K H vs ds → D K H v d → DA K H (vs.set k v) (ds.set k d)
  | _, _, _, _, _, .nil, _ => by
    simp
    exact .nil
  | _, _, _, _, 0, .cons _ h, m => .cons m h
  | _, _, _, _, k + 1, .cons h1 h, m => .cons h1 (h.set k m)
theorem DA.snoc {vs : List V} {ds : List PyData} {v : V} {d : PyData} (h : DA K H vs ds) (m : D K H v d) : DA K H (vs ++ [v]) (ds ++ [d]) := h.append (.cons m .nil)
theorem DA.rev : ∀ {vs : List V} {ds : List PyData}, DA K H vs ds → DA K H vs.reverse ds.reverse
  | _, _, .nil => .nil
  | _, _, .cons h1 h => by
    rw [List.reverse_cons, List.reverse_cons]
    exact h.rev.snoc h1
theorem DA.take : ∀ {vs : List V} {ds : List PyData} (k : Nat), DA K H vs ds → DA K H (vs.take k) (ds.take k)
  | _, _, _, .nil => by
    simp
    exact .nil
  | _, _, 0, .cons _ _ => .nil
  | _, _, k + 1, .cons h1 h => .cons h1 (h.take k)
theorem DA.drop : ∀ {vs : List V} {ds : List PyData} (k : Nat), DA K H vs ds → DA K H (vs.drop k) (ds.drop k)
  | _, _, _, .nil => by
    simp
    exact .nil
  | _, _, 0, .cons h1 h => .cons h1 h
  | _, _, k + 1, .cons _ h => h.drop k
end
theorem perm_erase {α : Type} : ∀ {l : List α} {k : Nat} {x : α}, l[k]? = some x → (x :: l.eraseIdx k).Perm l
  | [], k, x, h => by simp at h
  | y :: l, 0, x, h => by
    simp at h
    subst h
    exact .refl _
  | y :: l, k + 1, x, h => by
    have ih := perm_erase (l := l) (k := k) (x := x) (by simpa using h)
    exact (List.Perm.swap y x _).trans (.cons y ih)
/-! list(x), tuple(x) -/
def rToL (K : PySem.W.Frag) : List V → Hp → VK → Prop := fun xs H Q => ∃ p ys, xs = [.ref p] ∧ (SqL K H p ys ∨ SqT K H p ys) ∧ ∀ l, H l = none → Q (.ref l) (upd H l (.lst ys))
theorem kToL {X : Cx} {K : PySem.W.Frag} (e : X.K = K := by rfl) : CallR X (.type "list") (rToL K) := e ▸ call_list_of
def rToT (K : PySem.W.Frag) : List V → Hp → VK → Prop := fun xs H Q => ∃ p ys, xs = [.ref p] ∧ ((SqL K H p ys ∧ ∀ l, H l = none → Q (.ref l) (upd H l (.tup ys))) ∨ (SqT K H p ys ∧ Q (.ref p) H))
theorem kToT {X : Cx} {K : PySem.W.Frag} (e : X.K = K := by rfl) : CallR X (.type "tuple") (rToT K) := e ▸ call_tuple_of
section
variable {K : PySem.W.Frag} {a : Addr} {S : List Addr} {σ : L2.St} {G H : Hp} {te : TE} {ds : List PyData}
theorem ev_toL (h : Ev K a G te σ (fun d => d = .list ds ∨ d = .tuple ds)) : Ev K a G (tCB (rToL K) (tCons te tNil)) σ (· = .list ds) := fun S H1 f s Q q => h S H1 f s _ fun v d H2 x2 m c => by
  rcases c with rfl | rfl
  · cases m with
    | lst h1 h2 => exact ⟨_, _, rfl, .inl (SqL.of (off_le _ _ h1)), fun l hl => q _ _ _ (x2.trans (Ext.new hl)) (D.new_lst hl ((f.ext x2).out hl) h2) rfl⟩
  · cases m with
    | tup h1 h2 => exact ⟨_, _, rfl, .inr (sqT_same off_le h1), fun l hl => q _ _ _ (x2.trans (Ext.new hl)) (D.new_lst hl ((f.ext x2).out hl) h2) rfl⟩
theorem ev_toT (h : Ev K a G te σ (fun d => d = .list ds ∨ d = .tuple ds)) : Ev K a G (tCB (rToT K) (tCons te tNil)) σ (· = .tuple ds) := fun S H1 f s Q q => h S H1 f s _ fun v d H2 x2 m c => by
  rcases c with rfl | rfl
  · cases m with
    | lst h1 h2 => exact ⟨_, _, rfl, .inl ⟨SqL.of (off_le _ _ h1), fun l hl => q _ _ _ (x2.trans (Ext.new hl)) (D.new_tup hl ((f.ext x2).out hl) h2) rfl⟩⟩
  · cases m with
    | tup h1 h2 => exact ⟨_, _, rfl, .inr ⟨sqT_same off_le h1, q _ _ _ x2 (.tup h1 h2) rfl⟩⟩
theorem ev_toLL (h : Ev K a G te σ (· = .list ds)) : Ev K a G (tCB (rToL K) (tCons te tNil)) σ (· = .list ds) := ev_toL (h.imp fun _ z => .inl z)
theorem ev_toLT (h : Ev K a G te σ (· = .tuple ds)) : Ev K a G (tCB (rToL K) (tCons te tNil)) σ (· = .list ds) := ev_toL (h.imp fun _ z => .inr z)
theorem ev_toTL (h : Ev K a G te σ (· = .list ds)) : Ev K a G (tCB (rToT K) (tCons te tNil)) σ (· = .tuple ds) := ev_toT (h.imp fun _ z => .inl z)
end
/-! ### the same items in a drawn sequence -/
def preMx (ds : List PyData) : Prop := ∃ es, (ds = [.list es] ∨ ds = [.tuple es]) ∧ es.length ≤ 1000
def postMx (ds : List PyData) (r : PyData) : Prop := ∃ es fs, (ds = [.list es] ∨ ds = [.tuple es]) ∧ r = .list fs ∧ fs.Perm es
theorem preMx_len {ds : List PyData} (h : preMx ds) : ds.length = 1 := by
  obtain ⟨es, h | h, _⟩ := h <;> rw [h] <;> rfl
section
variable {K : PySem.W.Frag} {a : Addr} {S : List Addr} {H : Hp}
/-- left = list(given); [left.pop(draw(pot, len(left))) for k in range(len(given))] -/
theorem rd_mixed {E : XK} {pot L g : Addr} {es : List PyData} {Q : VK} {xs : List V} (hpot : a = pot) (f : Fr a S H) (hx : DA K (off S H) xs es) (hL : H L = none) (hn : es.length ≤ 1000)
    {d : PyData} (hg : D K (off S H) (.ref g) d) (hd : d = .list es ∨ d = .tuple es)
    (q : ∀ p fs H', Ext a H H' → D K (off S H') (.ref p) (.list fs) → fs.Perm es → Q (.ref p) H') :
    tLc (iRng1 (tCons (tCB (rLenA K) (tCons (tVar 1) tNil)) tNil)) (gName 3) tYes (tBM K "list" rPopAt (tVar 2) (tCons (tCall (spP K preD postD) [] E (tCons (tVar 0) (tCons (tCB (rLenA K) (tCons (tVar 2) tNil)) tNil))) tNil)) [3]
      [some (.ref pot), some (.ref g), some (.ref L), none] (upd H L (.lst xs)) Q := by
  subst hpot
  have hLa : L ≠ a := f.ne hL
  have hLS := f.out hL
  have f1 : Fr a S (upd H L (.lst xs)) := f.upd hLa
  have x1 : Ext a H (upd H L (.lst xs)) := Ext.new hL
  have hg1 : D K (off S (upd H L (.lst xs))) (.ref g) d := hg.mono (x1.off f.mem)
  have el : Ev K a (off S (upd H L (.lst xs))) (tCB (rLenA K) (tCons (tVar 1) tNil)) [some (.ref a), some (.ref g), some (.ref L), none] (· = .int (es.length : Nat)) :=
    ev_lenE (ev_var rfl hg1) (by rcases hd with rfl | rfl <;> rfl) (by omega)
  refine el S _ f1 (Same.refl _) _ fun v dn H2 x2 mv e => ?_
  subst e
  cases mv
  refine ⟨_, rfl, by omega, by omega, fun p hp => ?_⟩
  rw [show ((es.length : Nat) : Int).toNat = es.length from rfl]
  have x02 := x1.trans x2
  have hL2 : H2 L = some (.lst xs) := x2.keep _ _ hLa upd_same
  have hpL : p ≠ L := fun e => by
    rw [e, hL2] at hp
    cases hp
  have f2 := f1.ext x2
  have hpa := f2.ne hp
  have hp0 : H p = none := by
    cases e : H p with
    | none => rfl
    | some o =>
      have := x02.keep _ _ hpa e
      rw [hp] at this
      cases this
  refine lc_range (lo := 0) (n := es.length) (fun i H' => Ext a H H' ∧ Fr a (p :: L :: S) H' ∧ ∃ rest acc rs as, H' L = some (.lst rest) ∧ H' p = some (.lst acc) ∧ DA K (off (p :: L :: S) H') rest rs ∧ DA K (off (p :: L :: S) H') acc as ∧ (as ++ rs).Perm es ∧ as.length = i) ?_ ?_ ?_
  · have f3 : Fr a (p :: L :: S) (upd H2 p (.lst [])) := ((f2.upd hpa).push (by rw [upd_ne hpL.symm]; exact hL2)).push upd_same
    refine ⟨x02.trans (Ext.new hp), f3, xs, [], es, [], by rw [upd_ne hpL.symm]; exact hL2, upd_same, ?_, .nil, .refl _, rfl⟩
    rw [off_upd List.mem_cons_self]
    refine hx.mono ?_
    exact same_off_in hp0 (same_off_in hL (x02.off f.mem))
  · rintro i H' hi ⟨x', f', rest, acc, rs, as, h1, h2, m1, m2, pm, hl⟩
    have hpl : as.length + rs.length = es.length := by
      have := pm.length_eq
      rwa [List.length_append] at this
    have hr : rs.length ≠ 0 := by omega
    have hrl := m1.length
    refine ⟨rfl, ?_⟩
    refine ⟨.ref L, rfl, .inl ⟨rfl, _, SqL.of h1⟩, .ref a, rfl, .ref L, rfl, .ref L, rest.length, rfl, .inl ⟨_, SqL.of h1, rfl⟩, ?_⟩
    refine ⟨a, p :: L :: S, [.int (rest.length : Nat)], [.int (rest.length : Nat)], by rw [List.append_nil], f', .cons (.int _) .nil, ⟨_, rfl, by omega, ?_⟩, ?_⟩
    · have h3 : ((rest.length : Nat) : Int) ≤ 1000 := by omega
      exact Int.lt_of_le_of_lt h3 (by decide)
    rintro _ _ H3 x3 mk ⟨m, k, e, rfl, k0, k1⟩
    injection e with e _
    injection e with e
    subst e
    cases mk
    have f3 := f'.ext x3
    have h1' := x3.keep _ _ hLa h1
    have h2' := x3.keep _ _ hpa h2
    have ks : seqIndex? k rest.length = some k.toNat := PySem.seqIndex_of k0 k1
    have hk : k.toNat < rest.length := by omega
    have m1' := m1.mono (x3.off f'.mem)
    have m2' := m2.mono (x3.off f'.mem)
    obtain ⟨z, hz, mz⟩ := m1'.getV (List.getElem?_eq_getElem hk)
    refine ⟨L, rest, k, k.toNat, rest[k.toNat], rfl, rfl, h1', by omega, by omega, ks, List.getElem?_eq_getElem hk, acc, ?_, ?_, ?_, ?_, ?_⟩
    · rw [upd_ne hpL]
      exact h2'
    · rw [m2.length, hl]
      exact Nat.lt_of_le_of_lt (Nat.le_of_lt hi) (Nat.lt_of_le_of_lt hn (by decide))
    · exact ((x'.trans x3).store hL hLa).store hp0 hpa
    · exact (f3.upd hLa).upd hpa
    · refine ⟨rest.eraseIdx k.toNat, acc ++ [rest[k.toNat]], rs.eraseIdx k.toNat, as ++ [z], ?_, upd_same, ?_, ?_, ?_, ?_⟩
      · rw [upd_ne hpL.symm]
        exact upd_same
      · rw [off_upd List.mem_cons_self, off_upd (List.mem_cons_of_mem _ List.mem_cons_self)]
        exact m1'.erase _
      · rw [off_upd List.mem_cons_self, off_upd (List.mem_cons_of_mem _ List.mem_cons_self)]
        exact m2'.snoc mz
      · rw [List.append_assoc]
        exact (List.Perm.append_left as (perm_erase hz)).trans pm
      · rw [List.length_append, hl]
        rfl
  · rintro H' ⟨x', f', rest, acc, rs, as, h1, h2, m1, m2, pm, hl⟩
    have hpl : as.length + rs.length = es.length := by
      have := pm.length_eq
      rwa [List.length_append] at this
    have r0 : rs = [] := List.length_eq_zero_iff.mp (by omega)
    subst r0
    rw [List.append_nil] at pm
    have sp : Same (off (p :: L :: S) H') (off S H') := off_sub fun b m => List.mem_cons_of_mem _ (List.mem_cons_of_mem _ m)
    refine q p as H' x' (.lst (off_mk (fun m => ?_) h2) (m2.mono sp)) pm
    obtain ⟨o, e⟩ := f.all p m
    rw [hp0] at e
    cases e
end

def preQz (ds : List PyData) : Prop := ∃ d e s t, ds = [d, e] ∧ Num s d ∧ Num t e ∧ s + t ≤ 3990 ∧ valD e ≠ 0
theorem preQz_len {ds : List PyData} (h : preQz ds) : ds.length = 2 := by
  obtain ⟨d, e, s, t, rfl, _⟩ := h
  rfl
theorem ev_call2z {K : PySem.W.Frag} {a : Addr} {G : Hp} {σ : L2.St} {ta tb : TE} {d e : PyData} {s t : Nat} {E : XK} {g : PyData → PyData → PyData} (ha : Ev K a G ta σ (· = d)) (hb : Ev K a G tb σ (· = e)) (hd : Num s d) (he : Num t e) (h : s + t ≤ 3990) (hz : valD e ≠ 0) :
    Ev K a G (tCall (spG K preQz (post2 g)) [] E (tCons ta (tCons tb tNil))) σ (· = g d e) := by
  refine ev_callE (ea_eq ha (ea_eq hb ea_nil)) ⟨d, e, s, t, rfl, hd, he, h, hz⟩ ?_
  rintro r ⟨d', e', z, rfl⟩
  injection z with z1 z
  injection z with z2 _
  rw [z1, z2]
/-- a list of numbers -/
def preTt (ds : List PyData) : Prop := ∃ es s, (ds = [.list es] ∨ ds = [.tuple es]) ∧ (∀ z ∈ es, Num s z) ∧ es.length * (s + 1) ≤ 3900
def postTt (g : PyData → PyData → PyData) (z0 : PyData) (ds : List PyData) (r : PyData) : Prop := ∃ es, (ds = [.list es] ∨ ds = [.tuple es]) ∧ r = es.foldl g z0
theorem preTt_len {ds : List PyData} (h : preTt ds) : ds.length = 1 := by
  obtain ⟨es, s, h | h, _⟩ := h <;> rw [h] <;> rfl
theorem ev_callTt {K : PySem.W.Frag} {a : Addr} {G : Hp} {σ : L2.St} {ta : TE} {es : List PyData} {s : Nat} {E : XK} {g : PyData → PyData → PyData} {z0 : PyData} (ha : Ev K a G ta σ (· = .list es)) (hd : ∀ z ∈ es, Num s z) (h : es.length * (s + 1) ≤ 3900) :
    Ev K a G (tCall (spG K preTt (postTt g z0)) [] E (tCons ta tNil)) σ (· = es.foldl g z0) := by
  refine ev_callE (ea_eq ha ea_nil) ⟨es, s, .inl rfl, hd, h⟩ ?_
  rintro r ⟨es', z, rfl⟩
  have e : es = es' := by
    rcases z with z | z <;> simp at z
    exact z
  rw [e]
end LK
set_option Elab.async false
set_option linter.all false
set_option maxRecDepth 100000
set_option maxHeartbeats 4000000
/-! LK16: try with several clauses `except X as e`, all of one name -/
namespace LK
open PySem PySem.Spec L2
open PyProof.Rows hiding St
/-- what the clauses wish of an exception of the body: slot i is the name's -/
def wMs (K : PySem.W.Frag) (i : Nat) (Wo : WX) (D : Ends) : List (Value × (Addr → Value → Option Addr → TS)) → WX
  | [] => Wo
  | (c, ts) :: r => wAs K c i ts (wMs K i Wo D r) D
inductive HdsAs (X : Cx) (nm : Str) : List ExceptHandler → List (Value × (Addr → Value → Option Addr → TS)) → Prop
  | nil : HdsAs X nm [] []
  | cons {cx : Str} {c : Value} {ts : Addr → Value → Option Addr → TS} {b : Stmt} {bs : List Stmt} {p1 p2 : Pos} {hds : List ExceptHandler} {l : List (Value × (Addr → Value → Option Addr → TS))} (named : Names X cx c)
      (suite : ∀ (ax : Addr) (ox : Obj) (cls : Value) (dx : Option Addr) (pn : List (Addr × Obj)), Zc cls dx ox → (∃ vs, ox.data = .fields vs) → PSs (X.suite ax ((ax, ox) :: pn)) (b :: bs) (ts ax cls dx)) (more : HdsAs X nm hds l) :
      HdsAs X nm (.ExceptHandler (some (.Name cx p1)) (some nm) (b :: bs) p2 :: hds) ((c, ts) :: l)
section
variable {X : Cx} {nm : Str} {i : Nat} {body : List Stmt} {hd0 : ExceptHandler} {hds : List ExceptHandler} {l : List (Value × (Addr → Value → Option Addr → TS))} {pos : Pos} {tb : WX → TS} {Wo : WX}
theorem ps_try_ms (stk : X.stack = X.env :: X.outer) (frm : X.env.frame = some X.env.locals) (ndp : X.N.Nodup) (slot : X.N[i]? = some nm) (lcl : X.env.kindOf nm = some .local) (tk : Takes X Wo)
    (hb : ∀ (W : WX) (pn : List (Addr × Obj)) (xe : Value → Shared → Prop), Takes (X.tr pn xe) W → PassesOwn (model X.prog X.w) X.A X.env xe → PSs (X.tr pn xe) body (tb W))
    (hh : HdsAs X nm (hd0 :: hds) l) : PS X (.Try body (hd0 :: hds) [] [] pos) (fun D σ H => tb (wMs X.K i Wo D l) D σ H) := by
  refine ⟨fun pins s σ H Dn I wish => ?_⟩
  have okX := I.ok
  have frames : X.A.frames = some (X.env :: X.outer) := by rw [okX.frames, stk]
  have isLoc : Loc X.env.scope nm := .inl lcl
  apply wpAny_Try_except
  have inner := (hb (wMs X.K i Wo Dn l) (X.pn ++ pins) (fun ex sA => wpAny (model X.prog X.w) X.A (noteFrame ex X.env) (fun _ sB => wpAny (model X.prog X.w) X.A (setFlight ex none) (fun _ sC =>
    wpAny (model X.prog X.w) X.A (handleBy ex X.env (hd0 :: hds)) (SP X pins Dn) X.xe sC) X.xe sB) X.xe sA) (fun ex sE caught => ?_) PassesOwn.looking).run [] s σ H Dn (I.toTry _) wish
  · refine wpAny_mono inner (fun fl sF hF => ?_) fun _ _ z => z
    cases fl with
    | next =>
      obtain ⟨σF, HF, JF, qF⟩ := hF
      exact wpAny_execs_nil ⟨σF, HF, JF.ofTry okX, qF⟩
    | brk =>
      obtain ⟨σF, HF, JF, qF⟩ := hF
      exact ⟨σF, HF, JF.ofTry okX, qF⟩
    | cont =>
      obtain ⟨σF, HF, JF, qF⟩ := hF
      exact ⟨σF, HF, JF.ofTry okX, qF⟩
    | ret uF =>
      obtain ⟨vF, σF, HF, JF, rF, qF⟩ := hF
      exact ⟨vF, σF, HF, JF.ofTry okX, rF, qF⟩
  obtain ⟨ax, B, sI, pinsT, σC, HC, cls, dx, rfl, JT, nb, up, sky, fresh, osE, agE, wE⟩ := caught
  have JC : Inv X pins σC HC sI := JT.ofTry okX
  have skyX : Sky B (X.env :: X.outer) ax (Zc cls dx) X.env.locals sE.heap := by
    rw [← stk]
    exact sky
  show wpAny (model X.prog X.w) X.A (noteFrame (.ref ax) X.env) _ _ _
  refine Sky.land Zc.steady frames frm skyX fun hp3 fl3 up3 => ?_
  have JL : Inv X pins σC HC { sE with heap := hp3 } := JC.landed nb fl3.1 (up.trans up3) osE agE
  obtain ⟨ox3, vs3, look3, zc3, fields3⟩ := fl3.there
  have noFrame : ax ∉ frs (X.env :: X.outer) := fun hm => by
    obtain ⟨_, o4, e4, nf4⟩ := fl3.2.2.1.mem hm
    rw [look3] at e4
    cases e4
    exact nf4 _ fields3
  have notLocals : ax ≠ X.env.locals := fun z => noFrame (List.mem_filterMap.mpr ⟨X.env, List.mem_cons_self, by rw [frm, z]⟩)
  have notFs : ax ∉ X.fs := fun hm => by
    obtain ⟨e5, he5, q5⟩ := List.mem_filterMap.mp hm
    exact noFrame (List.mem_filterMap.mpr ⟨e5, List.mem_cons_of_mem _ he5, q5⟩)
  have suite3 := JL.suite look3 fields3 fresh notLocals notFs
  have go : ∀ {hs : List ExceptHandler} {ls : List (Value × (Addr → Value → Option Addr → TS))}, HdsAs X nm hs ls → wMs X.K i Wo Dn ls cls dx σC HC →
      wpAny (model X.prog X.w) X.A (handleBy (.ref ax) X.env hs) (SP X pins Dn) X.xe { sE with heap := hp3 } := by
    intro hs ls hk
    induction hk with
    | nil =>
      intro out
      apply wpAny_handleBy_nil
      obtain ⟨_, _, _, oe, vs, T, oT, ts', he, hz, hdd, h1, hr⟩ := id fl3
      unfold PySem.passOn
      apply wpAny_bind
      refine wpAny_field he hdd h1 ?_
      rw [if_neg (show ¬ ((Value.ref T == Value.none) = true) from by simp)]
      have last : wpAny (model X.prog X.w) X.A (setFlight (.ref ax) X.env.frame) (fun _ sD => wpAny (model X.prog X.w) X.A (throw (.ref ax) : Sem Flow) (SP X pins Dn) X.xe sD) X.xe { sE with heap := hp3 } := by
        rw [frm]
        refine HandSPX.setFlight_upZ fl3 fun hp4 in4 up4 => ?_
        refine wpAny_throw (tk _ _ ⟨ax, B, sI, pins, σC, HC, cls, dx, rfl, JC, nb, (up.trans up3).trans up4, .inr (.inr ?_), fresh, osE, agE, out⟩)
        rw [stk]
        exact in4
      first
        | exact wpAny_bind last
        | exact wpAny_bind (wpAny_pure (wpAny_bind last))
    | @cons cx c ts b bs p1 p2 hds2 l2 named suite more ih =>
      rintro ⟨bb, known, yes, no⟩
      refine wpAny_handleBy_cons (codeAny_handlers_test ?_) (fun q => by cases q)
      have LT : PySem.W.Looks (model X.prog X.w) hp3 (typeOf (.ref ax)) cls := fun A Q E s k q => by
        refine wpAny_typeOf_ref (k _ _ look3) ?_
        rw [zc3.1]
        exact q
      have LM := PySem.W.exm_one (M := model X.prog X.w) suite3.kIn LT known
      have asked : ∀ {Q : Value → Shared → Prop} {E : Value → Shared → Prop}, Q c { sE with heap := hp3 } → wpAny (model X.prog X.w) (X.A.mark (some (.ref ax))) (eval (.Name cx p1) X.env) Q E { sE with heap := hp3 } := fun {Q E} q => by
        obtain ⟨gl, dbg, known | ⟨none, boot, nn⟩⟩ := named
        · exact ld_glob (X := X.suite ax ((ax, ox3) :: (X.pn ++ pins))) suite3 gl known q dbg
        · exact ld_blt (X := X.suite ax ((ax, ox3) :: (X.pn ++ pins))) suite3 gl none boot q nn dbg
      refine asked (LM.here ?_)
      cases bb with
      | false =>
        show wpAny _ X.A (handleBy (.ref ax) X.env hds2) _ _ _
        exact ih (no rfl)
      | true =>
        apply codeAny_handlers_suite_as
        refine HandSPX.lands_againZ fl3 fun hp4 fl4 up4 => ?_
        have J4 : Inv X pins σC HC { sE with heap := hp4 } := JC.landed nb fl4.1 ((up.trans up3).trans up4) osE agE
        obtain ⟨ox4, vs4, look4, zc4, fields4⟩ := fl4.there
        have suite4 := J4.suite look4 fields4 fresh notLocals notFs
        refine store_ok (X := X.suite ax ((ax, ox4) :: (X.pn ++ pins))) (v := .ref ax) suite4 ndp slot isLoc rfl (fun s5 suite5 => ?_) (.inr lcl)
        refine wpAny_mono ((suite ax ox4 cls dx (X.pn ++ pins) zc4 ⟨_, fields4⟩).run [] s5 _ HC _ suite5 (yes rfl ax fresh)) (fun fl s6 h6 => ?_) fun _ _ z => z.elim
        have closing : ∀ {σ6 : L2.St} {H6 : Hp} {Q : Shared → Prop}, Inv (X.suite ax ((ax, ox4) :: (X.pn ++ pins))) [] σ6 H6 s6 → (∀ s7, Inv X pins (σ6.set i none) H6 s7 → Q s7) →
            wpAny (model X.prog X.w) X.A (do bindName X.env nm .none; unbindBehindTheSuite X.env nm p2) (fun _ s7 => Q s7) X.xe s6 := fun {σ6 H6 Q} J6 hq => gone_ok (J6.unsuite okX) ndp slot lcl hq
        cases fl with
        | next =>
          obtain ⟨_, _, J6, q6⟩ := h6
          exact closing J6 fun _ J7 => ⟨_, _, J7, q6⟩
        | brk =>
          obtain ⟨_, _, J6, q6⟩ := h6
          exact closing J6 fun _ J7 => ⟨_, _, J7, q6⟩
        | cont =>
          obtain ⟨_, _, J6, q6⟩ := h6
          exact closing J6 fun _ J7 => ⟨_, _, J7, q6⟩
        | ret u6 =>
          obtain ⟨v6, _, _, J6, r6, q6⟩ := h6
          exact closing J6 fun _ J7 => ⟨_, _, _, J7, r6, q6⟩
  exact go hh wE
end
end LK
/-! xs.count(True) of bools -/
namespace LK
open PySem PySem.Spec L2
open PyProof.Rows hiding St
def isTrueV : Value → Bool
  | .bool b => b
  | _ => false
theorem count_bools : ∀ {bs : List Bool} {us : List Value}, Vals (bs.map V.bl) us → us.countP isTrueV = bs.count true
  | [], _, h => by
    cases h
    rfl
  | b :: bs, _, h => by
    rw [List.map_cons] at h
    cases h with
    | cons h1 h2 =>
      cases h1
      rw [List.countP_cons, count_bools h2, List.count_cons]
      cases b <;> rfl
theorem mem_bools : ∀ {bs : List Bool} {us : List Value}, Vals (bs.map V.bl) us → ∀ y ∈ us, ∃ b, y = Value.bool b
  | [], _, h, y, m => by
    cases h
    cases m
  | b :: bs, _, h, y, m => by
    rw [List.map_cons] at h
    cases h with
    | cons h1 h2 =>
      cases h1
      rcases List.mem_cons.mp m with e | e
      · exact ⟨b, e⟩
      · exact mem_bools h2 y e
def rCntB (K : PySem.W.Frag) : V → List V → Hp → VK → Prop := fun x xs H Q => ∃ (p : Addr) (bs : List Bool), x = .ref p ∧ xs = [.bl true] ∧ SqL K H p (bs.map V.bl) ∧ Q (.int (bs.count true : Nat)) H
theorem kCntB {X : Cx} {K : PySem.W.Frag} (e : X.K = K := by rfl) : MtR X "list.count" (rCntB K) := by
  subst e
  intro pins s σ H x xs v us Q I rx rxs h
  obtain ⟨p, bs, rfl, rfl, hs, q⟩ := h
  cases rx
  obtain ⟨u, rfl, ru⟩ := rxs.one
  cases ru
  obtain ⟨its, rv, ⟨⟨cls, dd, data, sl⟩, n, ho, hc, hdn, hd⟩, hlen⟩ := I.list hs
  simp only at hc hd
  subst hc hd
  refine call_meets PySem.F.slot_list_count ⟨_, ho, rfl⟩ PySem.F.entry_list_count (PySem.F.args_list_count_2 _ _)
    (SeqAt.list_countAt p its.toArray n dd sl (.bool true) isTrueV) ⟨ho, fun y hy => ?_, ?_⟩
  · obtain ⟨b, rfl⟩ := mem_bools rv y (by simpa using hy)
    have z := eqAt_V (A := X.A.in1) (s := s) (y := .bl b) (x := .bl true) (u := .bool b) (v := .bool true) rfl rfl rfl rfl
    have e : eqV (.bl b) (.bl true) = isTrueV (.bool b) := by cases b <;> rfl
    rw [e] at z
    exact z
  · have ec : its.toArray.toList.countP isTrueV = bs.count true := count_bools rv
    refine ⟨.int (bs.count true : Nat), H, I.tok _, ⟨s.toks, ?_⟩, q⟩
    rw [ec]
theorem ev_cntB {K : PySem.W.Frag} {a : Addr} {G : Hp} {σ : L2.St} {te : TE} {bs : List Bool} (h : Ev K a G te σ (· = .list (bs.map .bool))) : Ev K a G (tBM K "list" (rCntB K) te (tCons (tC (.bl true)) tNil)) σ (· = .int (bs.count true : Nat)) := fun S H1 f s Q q =>
  h S H1 f s _ fun v d H2 x2 m c => by
    subst c
    cases m with
    | lst h1 h2 =>
      have e := h2.bools
      subst e
      exact ⟨.inl ⟨rfl, _, SqL.of (off_le _ _ h1)⟩, _, bs, rfl, rfl, SqL.of (off_le _ _ h1), q _ _ H2 x2 (.int _) rfl⟩
end LK
namespace LK
open PySem PySem.Spec L2
open PyProof.Rows hiding St
section
variable {X : Cx} {K : PySem.W.Frag} {o e : Expr} {es : List Expr} {to : TE} {t : TA} {name : Str} {apos cpos : Pos} {T id : String} {r : V → List V → Hp → VK → Prop}
/-- a built-in type's method, the written part by its own name -/
theorem pe_bmK (pa : PlainAttrs T) (slot : Slot T name id) (hty : typeOf (.builtin id) = pure (.type "method_descriptor")) (hm : MtR X id r) (ho : PE X o to) (ha : PA X (e :: es) t) (eK : X.K = K := by rfl)
    (hB : attributeBase o name X.env (eval o X.env) = eval o X.env := by rfl) (hF : ((backTo cpos (starEach (e :: es) X.env)).all (fun x => !x.1) && (backToKw cpos (keywordEach [] X.env)).all (fun x => x.1.isSome) && decide ((e :: es).length + ([] : List Keyword).length + (if ([] : List Keyword).isEmpty then 0 else 1) < 30)) = true := by rfl)
    (hL : (apos.endLine == cpos.line) = true := by rfl) (hS : starEach (e :: es) X.env = (false, eval e X.env) :: starEach es X.env := by rfl) (hP : (backTo cpos (starEach es X.env)).any (·.1) = false := by rfl) :
    PE X (.Call (.Attribute o name apos) (e :: es) [] cpos) (tBM K T r to t) := eK ▸ pe_bm pa slot hty hm ho ha hB hF hL hS hP
theorem pe_bmK0 (pa : PlainAttrs T) (slot : Slot T name id) (hty : typeOf (.builtin id) = pure (.type "method_descriptor")) (hm : MtR X id r) (ho : PE X o to) (eK : X.K = K := by rfl) (hB : attributeBase o name X.env (eval o X.env) = eval o X.env := by rfl) (hL : (apos.endLine == cpos.line) = true := by rfl) :
    PE X (.Call (.Attribute o name apos) [] [] cpos) (tBM0 K T r to) := eK ▸ pe_bm0 pa slot hty hm ho hB hL
end
end LK
set_option Elab.async false
set_option linter.all false
set_option maxRecDepth 100000
set_option maxHeartbeats 4000000
/-! LK17: whatever is walked: for loops and comprehensions over it -/
namespace LK
open PySem PySem.Spec L2
open PyProof.Rows hiding St
/-- what is walked gives n items, the i-th of data in X i -/
def Walks (K : PySem.W.Frag) (a : Addr) (G : Hp) (wi : TI) (σ : L2.St) (n : Nat) (X : Nat → PyData → Prop) : Prop :=
  ∀ S H1, Fr a S H1 → Same G (off S H1) → ∀ R : It → Hp → Prop, (∀ J Gh Yv H2, Ext a H1 H2 → Walk J n Gh Yv → (∀ S' H', Same (off S H2) (off S' H') → Gh H') →
    (∀ S' i H' x H'', Fr a S' H' → Same (off S H2) (off S' H') → i < n → Yv i H' x H'' → Ext a H' H'' ∧ (∀ b o, H' b = some o → H'' b = some o) ∧ ∃ d, D K (off S' H'') x d ∧ X i d) → R J H2) → wi σ H1 R
section
variable {K : PySem.W.Frag} {a : Addr} {S : List Addr} {σ : L2.St} {G H : Hp} {te : TE} {tt : TT} {wi : TI} {n : Nat} {X : Nat → PyData → Prop} {es : List PyData}
theorem sql_same {H H' : Hp} {p : Addr} {xs : List V} (s : Same H H') (h : H p = some (.lst xs)) : SqL K H' p xs := SqL.of (s _ _ h)
theorem off_off {S S' : List Addr} {H H' : Hp} {p : Addr} {o : HO} (s : Same (off S H) (off S' H')) (h : off S H p = some o) : H' p = some o := (off_some (s _ _ h)).2
theorem walks_seq (h : Ev K a G te σ (fun d => d = .list es ∨ d = .tuple es)) : Walks K a G (iSeq K te) σ es.length (fun i d => es[i]? = some d) := fun S H1 f s R r => h S H1 f s _ fun v d H2 x2 m c => by
  rcases c with rfl | rfl
  · cases m with
    | @lst L xs _ hL mx =>
      refine ⟨L, rfl, .inl ⟨⟨xs, SqL.of (off_le _ _ hL)⟩, r _ _ _ H2 x2 (mx.length ▸ walk_list (xs := xs) (K := K) (a := L)) (fun S' H' e => SqL.of (off_off e hL)) ?_⟩⟩
      rintro S' i H' x _ f' e hi ⟨rfl, hx⟩
      obtain ⟨d, hd, md⟩ := mx.getV hx
      exact ⟨Ext.refl, fun _ _ z => z, d, md.mono e, hd⟩
  · cases m with
    | @tup t xs _ ht mx =>
      refine ⟨t, rfl, .inr ⟨⟨xs, sqT_same off_le ht⟩, r _ _ _ H2 x2 (mx.length ▸ walk_tup (xs := xs) (K := K) (a := t)) (fun S' H' e => sqT_same (fun b o z => off_off e z) ht) ?_⟩⟩
      rintro S' i H' x _ f' e hi ⟨rfl, hx⟩
      obtain ⟨d, hd, md⟩ := mx.getV hx
      exact ⟨Ext.refl, fun _ _ z => z, d, md.mono e, hd⟩
theorem walks_seqL (h : Ev K a G te σ (· = .list es)) : Walks K a G (iSeq K te) σ es.length (fun i d => es[i]? = some d) := walks_seq (h.imp fun _ z => .inl z)
theorem walks_seqT (h : Ev K a G te σ (· = .tuple es)) : Walks K a G (iSeq K te) σ es.length (fun i d => es[i]? = some d) := walks_seq (h.imp fun _ z => .inr z)
theorem walks_range (h : Ev K a G te σ (· = .int (n : Nat))) (hn : n < 100000) : Walks K a G (iRng1 (tCons te tNil)) σ n (fun i d => d = .int (i : Nat)) := fun S H1 f s R r => h S H1 f s _ fun v d H2 x2 m c => by
  subst c
  cases m
  refine ⟨_, rfl, by omega, by omega, ?_⟩
  rw [show ((n : Nat) : Int).toNat = n from rfl]
  refine r _ _ _ H2 x2 walk_range (fun _ _ _ => trivial) ?_
  rintro S' i H' x _ f' e hi ⟨rfl, hx⟩
  refine ⟨Ext.refl, fun _ _ z => z, .int (i : Nat), ?_, rfl⟩
  rw [hx]
  dsimp only
  rw [Int.zero_add]
  exact .int _
theorem walks_str {z : Str} (h : Ev K a G te σ (· = .str z)) : Walks K a G (iStr te) σ z.length (fun i d => ∃ c, (TL.tl z)[i]? = some c ∧ d = .str ⟨#[c]⟩) := fun S H1 f s R r => h S H1 f s _ fun v d H2 x2 m c => by
  subst c
  cases m
  refine ⟨z, rfl, r _ _ _ H2 x2 walk_str (fun _ _ _ => trivial) ?_⟩
  rintro S' i H' x _ f' e hi ⟨rfl, c, hc, hx⟩
  refine ⟨Ext.refl, fun _ _ z => z, .str ⟨#[c]⟩, ?_, c, by simpa using hc, rfl⟩
  rw [hx]
  exact .str _
theorem same_off_keep {S : List Addr} {H H' : Hp} (h : ∀ b o, H b = some o → H' b = some o) : Same (off S H) (off S H') := fun b o e => off_mk (off_some e).1 (h b o (off_some e).2)
/-! ### for -/
theorem q_forW {g : TG} {tb : TS} {Dn : Ends} (h : Walks K a G wi σ n X) (f : Fr a S H) (s : Same G (off S H)) (T : List Addr)
    (q : ∀ H2, Ext a H H2 → Fr a S H2 → ∃ Pv : Nat → L2.St → Hp → Prop, Pv 0 σ H2 ∧ (∀ i σ' H', Pv i σ' H' → Fr a T H' ∧ Same (off S H2) (off T H')) ∧
      (∀ i x d σ' H' H'', i < n → Pv i σ' H' → Ext a H' H'' → (∀ b o, H' b = some o → H'' b = some o) → D K (off T H'') x d → X i d → g x σ' H'' fun σ2 H2 => tb { Dn with nx := Pv (i + 1), ct := Pv (i + 1), bk := Dn.nx } σ2 H2) ∧ ∀ σ' H', Pv n σ' H' → Dn.nx σ' H') :
    tFor wi g tb Dn σ H := h S H f s _ fun J Gh Yv H2 x2 w hG hY => by
  obtain ⟨Pv, h0, hP, hs, hd⟩ := q H2 x2 (f.ext x2)
  refine for_it w Pv h0 (fun i σ' H' _ p => hG T H' (hP i σ' H' p).2) ?_ hd
  intro i x σ' H' H'' hi p y
  obtain ⟨fT, sT⟩ := hP i σ' H' p
  obtain ⟨xx, kp, d, md, xd⟩ := hY T i H' x H'' fT sT hi y
  exact hs i x d σ' H' H'' hi p xx kp md xd
/-! ### comprehensions -/
/-- what a comprehension gives: for each item nothing, or one of data in Y -/
def Picks (n : Nat) (X : Nat → PyData → Prop) (p : Nat → PyData → Bool) (Y : Nat → PyData → PyData → Prop) (os : List (Option PyData)) : Prop :=
  os.length = n ∧ ∀ k o, os[k]? = some o → ∃ d, X k d ∧ ((o = none ∧ p k d = false) ∨ ∃ y, o = some y ∧ p k d = true ∧ Y k d y)
theorem Picks.snoc {n : Nat} {p : Nat → PyData → Bool} {Y : Nat → PyData → PyData → Prop} {os : List (Option PyData)} {o : Option PyData} {d : PyData} (h : Picks n X p Y os) (x : X n d) (z : (o = none ∧ p n d = false) ∨ ∃ y, o = some y ∧ p n d = true ∧ Y n d y) : Picks (n + 1) X p Y (os ++ [o]) := by
  obtain ⟨h1, h2⟩ := h
  refine ⟨by rw [List.length_append, h1]; rfl, fun k o' e => ?_⟩
  rw [List.getElem?_append] at e
  split at e
  · exact h2 k o' e
  · rename_i hk
    have : k = n := by
      by_cases hk2 : k - os.length = 0
      · omega
      · rw [List.getElem?_eq_none (by simp; omega)] at e
        cases e
    subst this
    rw [h1, Nat.sub_self] at e
    simp at e
    subst e
    exact ⟨d, x, z⟩
/-- the target: what it does with an item of data in X i -/
def Takes1 (K : PySem.W.Frag) (X : Nat → PyData → Prop) (g : TG) (σ0 : L2.St) (Sg : Nat → PyData → Hp → L2.St → Prop) : Prop :=
  ∀ S i x d H, D K (off S H) x d → X i d → ∀ Q : L2.St → Hp → Prop, (∀ σ', Sg i d (off S H) σ' → Q σ' H) → g x σ0 H Q
theorem ev_lcW {g : TG} {vs : List Nat} {p : Nat → PyData → Bool} {Y : Nat → PyData → PyData → Prop} {Sg : Nat → PyData → Hp → L2.St → Prop} (hw : Walks K a G wi σ n X) (hn : n < 100000) (hg : Takes1 K X g (wipe σ vs) Sg)
    (hb : ∀ i d G' σ', i < n → Same G G' → X i d → Sg i d G' σ' → wipe σ' vs = wipe σ vs ∧ EvT a G' tt σ' (· = p i d) ∧ (p i d = true → Ev K a G' te σ' (Y i d))) :
    Ev K a G (tLc wi g tt te vs) σ (fun r => ∃ os, Picks n X p Y os ∧ r = .list (os.filterMap id)) := by
  intro S H1 f s Q q
  refine hw S H1 f s _ fun J Gh Yv H2 x2 w hG hY L hL => ?_
  have f2 := f.ext x2
  have hLS := f2.out hL
  have hLa := f2.ne hL
  have key : ∀ H', Ext a H2 H' → Same (off S H2) (off (L :: S) H') := fun H' x' => same_off_in hL (x'.off f.mem)
  refine lc_it w (fun i H' => Ext a H2 H' ∧ ∃ acc os, H' L = some (.lst acc) ∧ Fr a (L :: S) H' ∧ DA K (off (L :: S) H') acc (os.filterMap id) ∧ Picks i X p Y os) ?_ (fun i H' _ p => hG (L :: S) H' (key H' p.1)) ?_ ?_
  · refine ⟨Ext.new hL, [], [], upd_same, (f2.upd hLa).push upd_same, .nil, rfl, fun k o e => by simp at e⟩
  · rintro i x H' H'' hi ⟨x', acc, os, hacc, fL, md, hp⟩ y
    obtain ⟨xx, kp, d, mx, xd⟩ := hY (L :: S) i H' x H'' fL (key H' x') hi y
    have f3 := fL.ext xx
    have sG : Same G (off (L :: S) H'') := (f.same x2 s).trans ((key H' x').trans (same_off_keep kp))
    refine hg (L :: S) i x d H'' mx xd _ fun σ' hs => ?_
    obtain ⟨hwp, ht, he⟩ := hb i d _ σ' hi sG xd hs
    refine ⟨hwp, ht (L :: S) H'' f3 (Same.refl _) _ fun b H3 x3 eb => ?_⟩
    have f4 := f3.ext x3
    have x13 := (x'.trans xx).trans x3
    have hacc3 : H3 L = some (.lst acc) := x3.keep _ _ hLa (kp _ _ hacc)
    have md3 : DA K (off (L :: S) H3) acc (os.filterMap id) := md.mono ((same_off_keep kp).trans (x3.off f3.mem))
    have hlen : acc.length ≤ i := by
      rw [md.length, ← hp.1]
      exact List.length_filterMap_le _ _
    split
    · rename_i hbt
      refine he (eb.symm.trans hbt) (L :: S) H3 f4 (x3.off f3.mem) _ fun v d' H4 x4 m4 c4 => ?_
      have f5 := f4.ext x4
      have hacc4 : H4 L = some (.lst acc) := x4.keep _ _ hLa hacc3
      refine ⟨acc, hacc4, Nat.lt_of_le_of_lt hlen (Nat.lt_trans (Nat.lt_trans hi hn) (by decide)), (x13.trans x4).store hL hLa, acc ++ [v], os ++ [some d'], upd_same, f5.upd hLa, ?_, hp.snoc xd (.inr ⟨d', rfl, eb.symm.trans hbt, c4⟩)⟩
      rw [off_upd List.mem_cons_self, List.filterMap_append]
      exact (md3.mono (x4.off f4.mem)).snoc m4
    · rename_i hbf
      have hbf' : p i d = false := by
        rw [← eb]
        cases b with
        | true => exact absurd rfl hbf
        | false => rfl
      refine ⟨x13, acc, os ++ [none], hacc3, f4, ?_, hp.snoc xd (.inl ⟨rfl, hbf'⟩)⟩
      rw [List.filterMap_append]
      simpa using md3
  · rintro H' ⟨x', acc, os, hacc, fL, md, hp⟩
    exact q (.ref L) (.list (os.filterMap id)) H' (x2.trans x') (.lst (off_mk hLS hacc) (md.mono same_off_pop)) ⟨os, hp, rfl⟩
/-- one name -/
theorem takes_name {j : Nat} {σ0 : L2.St} : Takes1 K X (gName j) σ0 (fun i d G' σ' => ∃ x, σ' = σ0.set j (some x) ∧ D K G' x d) := fun S i x d H m c Q q => q _ ⟨x, rfl, m⟩
/-- two names, of a pair -/
theorem takes_pair {i j : Nat} {σ0 : L2.St} (h : ∀ k d, X k d → ∃ d1 d2, d = .tuple [d1, d2]) : Takes1 K X (gTup K 2 (gCons (gName i) (gCons (gName j) gNil))) σ0 (fun k d G' σ' => ∃ x y d1 d2, d = .tuple [d1, d2] ∧ σ' = (σ0.set i (some x)).set j (some y) ∧ D K G' x d1 ∧ D K G' y d2) := fun S k x d H m c Q q => by
  obtain ⟨d1, d2, rfl⟩ := h k d c
  cases m with
  | tup ht mx =>
    obtain ⟨v, w, rfl, m1, m2⟩ := DA.two mx
    exact ⟨_, _, rfl, sqT_same off_le ht, rfl, _, _, rfl, _, _, rfl, rfl, q _ ⟨v, w, d1, d2, rfl, rfl, m1, m2⟩⟩
/-- no if: each item gives one -/
theorem picks_all {p : Nat → PyData → Bool} {Y : Nat → PyData → PyData → Prop} {os : List (Option PyData)} (h : Picks n X p Y os) (hp : ∀ k d, p k d = true) : (os.filterMap id).length = n ∧ ∀ k y, (os.filterMap id)[k]? = some y → ∃ d, X k d ∧ Y k d y := by
  obtain ⟨h1, h2⟩ := h
  have e : os = (os.filterMap id).map some := by
    have all : ∀ o ∈ os, ∃ y, o = some y := fun o m => by
      obtain ⟨k, hk, e⟩ := List.getElem_of_mem m
      obtain ⟨d, xd, z⟩ := h2 k o (by rw [List.getElem?_eq_getElem hk, e])
      rcases z with ⟨_, z⟩ | ⟨y, e, _⟩
      · rw [hp] at z
        cases z
      · exact ⟨y, e⟩
    clear h1 h2
    induction os with
    | nil => rfl
    | cons o os ih =>
      obtain ⟨y, rfl⟩ := all o List.mem_cons_self
      have ih' := ih fun o m => all o (List.mem_cons_of_mem _ m)
      show some y :: os = some y :: (os.filterMap id).map some
      rw [← ih']
  refine ⟨by rw [← h1]; exact (by rw [← List.length_map (f := some), ← e]), fun k y hy => ?_⟩
  have hk : os[k]? = some (some y) := by
    rw [e, List.getElem?_map, hy]
    rfl
  obtain ⟨d, xd, z⟩ := h2 k _ hk
  rcases z with ⟨z, _⟩ | ⟨y', e', _, hy'⟩
  · cases z
  · injection e' with e'
    subst e'
    exact ⟨d, xd, hy'⟩
/-- over a list, exactly -/
theorem picks_filter {p : PyData → Bool} {g : PyData → PyData} {os : List (Option PyData)} (h : Picks es.length (fun i d => es[i]? = some d) (fun _ d => p d) (fun _ d y => y = g d) os) : os.filterMap id = (es.filter p).map g := by
  obtain ⟨h1, h2⟩ := h
  induction es generalizing os with
  | nil =>
    have : os = [] := List.length_eq_zero_iff.mp h1
    rw [this]
    rfl
  | cons e es ih =>
    match os, h1 with
    | o :: os, h1 =>
      have ih' := ih (os := os) (by simpa using h1) fun k o' ho' => by
        obtain ⟨d, xd, z⟩ := h2 (k + 1) o' (by simpa using ho')
        exact ⟨d, by simpa using xd, z⟩
      obtain ⟨d, xd, z⟩ := h2 0 o rfl
      simp at xd
      subst xd
      rcases z with ⟨rfl, z⟩ | ⟨y, rfl, z, rfl⟩
      · have z' : p e = false := z
        rw [List.filter_cons_of_neg (by rw [z']; decide)]
        exact ih'
      · rw [List.filter_cons_of_pos z, List.map_cons, ← ih']
        rfl
/-- [e for x in xs if t], exactly -/
theorem ev_lcF {p : PyData → Bool} {g : PyData → PyData} {t0 : TE} {j : Nat} (h : Ev K a G t0 σ (fun d => d = .list es ∨ d = .tuple es)) (hn : es.length < 100000) (hj : ∀ x, wipe ((wipe σ [j]).set j (some x)) [j] = wipe σ [j])
    (hb : ∀ d x G', d ∈ es → Same G G' → D K G' x d → EvT a G' tt ((wipe σ [j]).set j (some x)) (· = p d) ∧ (p d = true → Ev K a G' te ((wipe σ [j]).set j (some x)) (· = g d))) :
    Ev K a G (tLc (iSeq K t0) (gName j) tt te [j]) σ (· = .list ((es.filter p).map g)) := by
  refine (ev_lcW (p := fun _ d => p d) (Y := fun _ d y => y = g d) (walks_seq h) hn takes_name ?_).imp ?_
  · rintro i d G' _ hi s xd ⟨x, rfl, m⟩
    exact ⟨hj x, hb d x G' (List.mem_of_getElem? xd) s m⟩
  · rintro r ⟨os, hp, rfl⟩
    rw [picks_filter hp]
/-- .. without if -/
theorem ev_lcM {g : PyData → PyData} {t0 : TE} {j : Nat} (h : Ev K a G t0 σ (fun d => d = .list es ∨ d = .tuple es)) (hn : es.length < 100000) (hj : ∀ x, wipe ((wipe σ [j]).set j (some x)) [j] = wipe σ [j])
    (hb : ∀ d x G', d ∈ es → Same G G' → D K G' x d → Ev K a G' te ((wipe σ [j]).set j (some x)) (· = g d)) :
    Ev K a G (tLc (iSeq K t0) (gName j) tYes te [j]) σ (· = .list (es.map g)) := by
  refine (ev_lcF (p := fun _ => true) (g := g) h hn hj fun d x G' m s md => ⟨et_yes.imp fun _ z => z, fun _ => hb d x G' m s md⟩).imp fun _ z => ?_
  rw [z, List.filter_eq_self.mpr fun _ _ => rfl]
/-- [e for k in range(n)], drawn -/
theorem ev_lcN {Y : Nat → PyData → Prop} {t0 : TE} {j : Nat} (h : Ev K a G t0 σ (· = .int (n : Nat))) (hn : n < 100000) (hj : ∀ x, wipe ((wipe σ [j]).set j (some x)) [j] = wipe σ [j])
    (hb : ∀ i x G', i < n → Same G G' → x = .int (i : Nat) → Ev K a G' te ((wipe σ [j]).set j (some x)) (Y i)) :
    Ev K a G (tLc (iRng1 (tCons t0 tNil)) (gName j) tYes te [j]) σ (fun r => ∃ ys, r = .list ys ∧ ys.length = n ∧ ∀ (k : Nat) y, ys[k]? = some y → Y k y) := by
  refine (ev_lcW (p := fun _ _ => true) (Y := fun i _ y => Y i y) (walks_range h hn) hn takes_name ?_).imp ?_
  · rintro i d G' _ hi s rfl ⟨x, rfl, m⟩
    cases m
    exact ⟨hj _, et_yes.imp fun _ z => z, fun _ => hb i _ G' hi s rfl⟩
  · rintro r ⟨os, hp, rfl⟩
    obtain ⟨h1, h2⟩ := picks_all hp fun _ _ => rfl
    exact ⟨_, rfl, h1, fun k y hy => by
      obtain ⟨d, _, z⟩ := h2 k y hy
      exact z⟩
end
end LK
set_option Elab.async false
set_option linter.all false
set_option maxRecDepth 100000
set_option maxHeartbeats 4000000
/-! LK18: except suites by data: isinstance of the caught exception, its field -/
namespace LK
open PySem PySem.Spec L2
open PyProof.Rows hiding St
/-- classes, written -/
def tCls : List V → TA
  | [] => tNil
  | c :: cs => tCons (tC c) (tCls cs)
section
variable {K : PySem.W.Frag} {a : Addr} {S : List Addr} {σ : L2.St} {G H : Hp} {x C dd : Addr} {i : Nat} {fs : List (Str × V)} {b : Bool}
theorem cls_run {cs : List V} {Q : List V → Hp → Prop} (q : Q cs H) : tCls cs σ H Q := by
  induction cs generalizing Q with
  | nil => exact q
  | cons c cs ih => exact ih q
theorem ev_isX1 {c : V} {u : Value} (hi : σ[i]? = some (some (.ref x))) (hX : ExcC K C) (hG : G dd = some (.xd fs)) (hc : ClsV c u) (hk : PySem.W.kitOne K (.ref C) u = some b) :
    Ev K a G (tCB (rIsX K x (.ref C) (some dd)) (tCons (tVar i) (tCons (tC c) tNil))) σ (· = .bool b) := fun S H1 f s Q q =>
  ⟨.ref x, hi, C, c, b, rfl, rfl, hX, fun dx e => by
    injection e with e
    subst e
    exact ⟨fs, (off_some (s _ _ hG)).2⟩, .inl ⟨u, hc, hk⟩, q _ _ H1 Ext.refl (.bl _) rfl⟩
theorem ev_isXT {cs : List V} {us : List Value} (hi : σ[i]? = some (some (.ref x))) (hX : ExcC K C) (hG : G dd = some (.xd fs)) (hc : Paired ClsV cs us) (hk : PySem.W.kitAny K (.ref C) us = some b) (hl : cs.length ≤ 1000 := by simp) :
    Ev K a G (tCB (rIsX K x (.ref C) (some dd)) (tCons (tVar i) (tCons (tTup (tCls cs)) tNil))) σ (· = .bool b) := fun S H1 f s Q q => by
  have hd := (off_some (s _ _ hG)).2
  refine ⟨.ref x, hi, cls_run ⟨Nat.le_of_lt (small1000 hl), fun p hp => ?_⟩⟩
  refine ⟨C, .ref p, b, rfl, rfl, hX, fun dx e => ?_, .inr ⟨p, cs, us, rfl, upd_same, hc, hk⟩, q _ _ _ (Ext.new hp) (.bl _) rfl⟩
  injection e with e
  subst e
  exact ⟨fs, by rw [upd_ne (ne_of_none hd hp)]; exact hd⟩
theorem ev_xg {f : Str} {v : V} {d : PyData} (hi : σ[i]? = some (some (.ref x))) (hX : XfC K C) (hno : PySem.W.findIn K (.ref C) f = some none) (hG : G dd = some (.xd fs)) (hl : fs.lookup f = some v) (m : D K G v d) :
    Ev K a G (tXg K x (.ref C) (some dd) f (tVar i)) σ (· = d) := fun S H1 fr s Q q =>
  ⟨.ref x, hi, rfl, C, dd, fs, v, rfl, hX, hno, rfl, (off_some (s _ _ hG)).2, hl, q v d H1 Ext.refl (m.mono s) rfl⟩
end
end LK
set_option Elab.async false
set_option linter.all false
set_option maxRecDepth 100000
set_option maxHeartbeats 4000000
/-! LK19: a list that grows; numbers stand apart from it -/
namespace LK
open PySem PySem.Spec L2
open PyProof.Rows hiding St
section
variable {K : PySem.W.Frag} {a : Addr} {S : List Addr} {σ : L2.St} {G H : Hp} {te : TE} {C : PyData → Prop} {Dn : Ends} {L : Addr}
theorem q_append {i : Nat} {acc : List V} (hi : σ[i]? = some (some (.ref L))) (hL : H L = some (.lst acc)) (hLa : L ≠ a) (hl : acc.length ≤ 100000) (h : Ev K a G te σ C) (f : Fr a S H) (s : Same G (off S H))
    (q : ∀ v d H', Ext a H H' → Fr a S H' → H' L = some (.lst acc) → D K (off S H') v d → C d → Dn.nx σ (upd H' L (.lst (acc ++ [v])))) : tDrop (tBM K "list" rAppend (tVar i) (tCons te tNil)) Dn σ H :=
  ⟨.ref L, hi, .inl ⟨rfl, _, SqL.of hL⟩, h S H f s _ fun v d H2 x2 m c => ⟨L, acc, v, rfl, rfl, x2.keep _ _ hLa hL, Nat.lt_of_le_of_lt hl (by decide), q v d H2 x2 (f.ext x2) (x2.keep _ _ hLa hL) m c⟩⟩
/-- x = [..]: a list that will change -/
theorem q_lst {i n : Nat} {tr : TA} {A1 : List PyData → Prop} (h : EvA K a G tr σ A1) (hn : ∀ ds, A1 ds → ds.length = n) (hl : n ≤ 1000) (f : Fr a S H) (s : Same G (off S H))
    (q : ∀ L vs ds H', Ext a H H' → Fr a S H' → H' L = none → DA K (off S H') vs ds → A1 ds → Dn.nx (σ.set i (some (.ref L))) (upd H' L (.lst vs))) : tAsg (tLst tr) (gName i) Dn σ H :=
  h S H f s _ fun vs ds H2 x2 m c => ⟨by rw [m.length, hn ds c]; exact Nat.le_of_lt (small1000 hl), fun L hL => q L vs ds H2 x2 (f.ext x2) hL m c⟩
theorem num_upd {v : V} {d : PyData} {o : HO} (hd : isRatD d = true) (h : D K (off S H) v d) {xs : List V} (hL : H L = some (.lst xs)) : D K (off S (upd H L o)) v d := by
  match d, hd with
  | .int n, _ =>
    cases h
    exact .int n
  | .tuple [.int n, .int l], _ =>
    cases h with
    | @tup p ys _ ht mx =>
      obtain ⟨v1, v2, rfl, m1, m2⟩ := DA.two mx
      cases m1
      cases m2
      refine .tup ?_ (.cons (.int _) (.cons (.int _) .nil))
      have tr : ∀ {u : HO}, (off S H) p = some u → (∀ ys, u ≠ .lst ys) → off S (upd H L o) p = some u := fun {u} e hu => by
        obtain ⟨e1, e2⟩ := off_some e
        refine off_mk e1 ?_
        rw [upd_ne (fun z => by
          rw [z, hL] at e2
          injection e2 with e2
          exact hu _ e2.symm)]
        exact e2
      rcases ht with (ht | ⟨ob, ht⟩) | ht
      · exact .inl (.inl (tr ht fun _ z => by cases z))
      · exact .inl (.inr ⟨ob, tr ht fun _ z => by cases z⟩)
      · exact .inr ht
theorem nums_upd {o : HO} {xs : List V} (hL : H L = some (.lst xs)) : ∀ {vs : List V} {ds : List PyData}, DA K (off S H) vs ds → (∀ d ∈ ds, isRatD d = true) → DA K (off S (upd H L o)) vs ds
  | _, _, .nil, _ => .nil
  | _, _, .cons h t, hd => .cons (num_upd (hd _ List.mem_cons_self) h hL) (nums_upd hL t fun d m => hd d (List.mem_cons_of_mem _ m))
end
theorem atI_last {α : Type} {xs : List α} {x : α} (h : xs.getLast? = some x) : atI xs (-1) = some x := by
  have hn : xs ≠ [] := fun e => by
    rw [e] at h
    cases h
  have hl : 0 < xs.length := List.length_pos_iff.mpr hn
  have e : ixN xs.length (-1) = some (xs.length - 1) := by
    unfold ixN
    split <;> split <;> first | omega | (congr 1; omega) | skip
    all_goals simp_all
    all_goals omega
  unfold atI
  rw [e]
  show xs[xs.length - 1]? = some x
  rw [← List.getLast?_eq_getElem?]
  exact h
theorem atI_zero {α : Type} {x : α} {xs : List α} : atI (x :: xs) 0 = some x := by
  have h := atI_nat (xs := x :: xs) (j := 0) rfl
  exact h
end LK
set_option Elab.async false
set_option linter.all false
set_option maxRecDepth 100000
set_option maxHeartbeats 4000000
/-! LK20: a store into a list, is True, all of a list -/
namespace LK
open PySem PySem.Spec L2
open PyProof.Rows hiding St
section
variable {K : PySem.W.Frag} {a : Addr} {S : List Addr} {σ : L2.St} {G H : Hp} {ta te ti : TE} {C : PyData → Prop} {Dn : Ends} {L : Addr} {b c : Bool} {ds : List PyData}
/-- xs[e] = v: at some place; v stands apart from xs (T), the place is told with xs in sight (S) -/
theorem q_store {T : List Addr} {GT : Hp} {i : Nat} {acc : List V} (hi : σ[i]? = some (some (.ref L))) (hL : H L = some (.lst acc)) (hLa : L ≠ a) (h : Ev K a GT te σ C) (hx : Ev K a G ti σ (IsI fun k => 0 ≤ k ∧ k < (acc.length : Nat))) (fT : Fr a T H) (sT : Same GT (off T H)) (f : Fr a S H) (s : Same G (off S H))
    (q : ∀ v d (k : Nat) H', Ext a H H' → Fr a T H' → H' L = some (.lst acc) → k < acc.length → D K (off T H') v d → C d → Dn.nx σ (upd H' L (.lst (acc.set k v)))) : tAsg te (gSub (tVar i) ti rSetL) Dn σ H :=
  h T H fT sT _ fun v d H2 x2 m cd => ⟨.ref L, hi, hx S H2 (f.ext x2) (f.same x2 s) _ fun z e H3 x3 m3 c3 => by
    obtain ⟨k, rfl, k0, k1⟩ := c3
    cases m3
    have hk : k.toNat < acc.length := by omega
    refine ⟨L, acc, k, k.toNat, rfl, rfl, (x2.trans x3).keep _ _ hLa hL, ?_, q v d k.toNat H3 (x2.trans x3) ((fT.ext x2).ext x3) ((x2.trans x3).keep _ _ hLa hL) hk (m.mono (x3.off fT.mem)) cd⟩
    unfold ixN
    rw [if_pos k0, if_pos (by omega)]⟩
/-- x, y, z = e, f, g -/
theorem q_par3 {i j l : Nat} {tc : TE} {C1 C2 C3 : PyData → Prop} (ha : Ev K a G ta σ C1) (hb : Ev K a G te σ C2) (hc : Ev K a G tc σ C3) (f : Fr a S H) (s : Same G (off S H))
    (q : ∀ u v w d e g H', Ext a H H' → Fr a S H' → D K (off S H') u d → D K (off S H') v e → D K (off S H') w g → C1 d → C2 e → C3 g → Dn.nx (((σ.set i (some u)).set j (some v)).set l (some w)) H') : tPar3 i j l (tCons ta (tCons te (tCons tc tNil))) Dn σ H :=
  ha S H f s _ fun u d H1 x1 m1 c1 => hb S H1 (f.ext x1) (f.same x1 s) _ fun v e H2 x2 m2 c2 => hc S H2 ((f.ext x1).ext x2) (f.same (x1.trans x2) s) _ fun w g H3 x3 m3 c3 =>
    ⟨u, v, w, rfl, q u v w d e g H3 ((x1.trans x2).trans x3) (((f.ext x1).ext x2).ext x3) (m1.mono ((x2.trans x3).off f.mem)) (m2.mono (x3.off f.mem)) m3 c1 c2 c3⟩
/-- x = f(pot, e), the promise as it is -/
theorem q_callV {sp : Sp} {E : XK} {i j : Nat} (hi : σ[i]? = some (some (.ref a))) (h : Ev K a G te σ C) (f : Fr a S H) (s : Same G (off S H)) (q : ∀ v d H2, Ext a H H2 → Fr a S H2 → D K (off S H2) v d → C d → sp [.ref a, v] H2 (fun v H => Dn.nx (σ.set j (some v)) H) E) :
    tAsg (tCall sp [] E (tCons (tVar i) (tCons te tNil))) (gName j) Dn σ H := ⟨.ref a, hi, h S H f s _ fun v d H2 x m c => q v d H2 x (f.ext x) m c⟩
/-- if t: ..; R — where R is shown once -/
theorem cut_if {tt : TT} {t1 R : TS} {P : Hp → Prop} (hR : ∀ H', P H' → R Dn σ H') (h : (∀ H', P H' → R Dn σ H') → tSeq (tIfS tt t1 tNext) R Dn σ H) : tSeq (tIfS tt t1 tNext) R Dn σ H := h hR
theorem num_push {v : V} {d : PyData} (hd : isRatD d = true) (h : D K (off S H) v d) {xs : List V} (hL : H L = some (.lst xs)) : D K (off (L :: S) H) v d := by
  match d, hd with
  | .int n, _ =>
    cases h
    exact .int n
  | .tuple [.int n, .int l], _ =>
    cases h with
    | @tup p ys _ ht mx =>
      obtain ⟨v1, v2, rfl, m1, m2⟩ := DA.two mx
      cases m1
      cases m2
      refine .tup ?_ (.cons (.int _) (.cons (.int _) .nil))
      have tr : ∀ {u : HO}, (off S H) p = some u → (∀ ys, u ≠ .lst ys) → off (L :: S) H p = some u := fun {u} e hu => by
        obtain ⟨e1, e2⟩ := off_some e
        refine off_mk (fun z => ?_) e2
        rcases List.mem_cons.mp z with z | z
        · rw [z, hL] at e2
          injection e2 with e2
          exact hu _ e2.symm
        · exact e1 z
      rcases ht with (ht | ⟨ob, ht⟩) | ht
      · exact .inl (.inl (tr ht fun _ z => by cases z))
      · exact .inl (.inr ⟨ob, tr ht fun _ z => by cases z⟩)
      · exact .inr ht
theorem nums_push {xs : List V} (hL : H L = some (.lst xs)) : ∀ {vs : List V} {ds : List PyData}, DA K (off S H) vs ds → (∀ d ∈ ds, isRatD d = true) → DA K (off (L :: S) H) vs ds
  | _, _, .nil, _ => .nil
  | _, _, .cons h t, hd => .cons (num_push (hd _ List.mem_cons_self) h hL) (nums_push hL t fun d m => hd d (List.mem_cons_of_mem _ m))
theorem ev_isBE (h : Ev K a G ta σ (· = .bool b)) : Ev K a G (tOp rIsB ta (tC (.bl c))) σ (· = .bool (decide (b = c))) := fun S H1 f s Q q =>
  h S H1 f s _ fun v d H2 x2 m e => by
    subst e
    cases m
    exact ⟨b, c, rfl, rfl, q _ _ H2 x2 (.bl _) rfl⟩
theorem ev_allE {p : PyData → Bool} (h : Ev K a G te σ (· = .list (ds.map fun d => .bool (p d)))) : Ev K a G (tCB (rAll K) (tCons te tNil)) σ (· = .bool (ds.all p)) :=
  (ev_all (B := (· = ds.all p)) h fun d e => ⟨ds.map p, by rw [e, List.map_map]; rfl, by rw [List.all_map]; rfl⟩).imp fun _ ⟨_, z, y⟩ => by rw [z, y]
theorem set_mem {α : Type} {xs : List α} {k : Nat} {x : α} {P : α → Prop} (h : ∀ z ∈ xs, P z) (hx : P x) : ∀ z ∈ xs.set k x, P z := fun z m => by
  rcases List.mem_or_eq_of_mem_set m with m | m
  · exact h z m
  · rw [m]
    exact hx
theorem ev_repr_eq {d e : PyData} (ha : Ev K a G ta σ (· = .str d.shown)) (hb : Ev K a G te σ (· = .str e.shown)) (h : d = e) : Ev K a G (tOp (rNeA K) ta te) σ (· = .bool false) :=
  (ev_neS ha hb).imp fun _ z => by rw [z, h, decide_eq_true rfl]; rfl
end

/-! ### the law's def, calls by names -/
def revL {α : Type} (l : List α) : List α := l.reverse
def spLaw (K : PySem.W.Frag) : Sp := fun vs H Q _ => ∃ (s : Addr) (ns : List Int), vs = [.ref s] ∧ SqL K H s (ns.map V.int) ∧ ns.length ≤ 63 ∧ ∀ H', Q (.bl true) H'
theorem Ext.same_of {p : Addr} {H0 H H' : Hp} (hp : H0 p = none) (s : Same H0 H) (x : Ext p H H') : Same H0 H' := fun b o e => x.keep b o (ne_of_none e hp) (s b o e)
theorem Fr.one {p : Addr} {H : Hp} (h : PotAt H p) : Fr p [p] H := ⟨List.mem_singleton.mpr rfl, h, fun b m => by
  rw [List.mem_singleton.mp m]
  obtain ⟨x, y, e, _⟩ := h
  exact ⟨_, e⟩⟩
theorem binds1 {K : PySem.W.Frag} {x qual : Str} {st : Stmt} {f : Addr} {fd : FuncData} {p : Str} (F : Fun K x qual st f fd)
    (h : ∀ (kV doc pm : Value) (an : Option Addr) (cdv ct : Value) (u : Value), bindArgs (PySem.W.fnOf x qual (defArgs st) (defBody st) (defScope st) .none kV doc pm an cdv ct) ⟨[], [(p, u)]⟩ = pure [(p, u)]) : KB0 K fd [p] [p] idL := by
  obtain ⟨oc, od, kV, doc, pm, an, cdv, ct, osl, rfl, lk, hcd⟩ := F.ex
  refine ⟨fun s ws _ hl => ?_, fun r => r⟩
  match ws, hl with
  | [u], _ => exact .of_eq (h kV doc pm an cdv ct u)
/-- two names, the other way round -/
theorem binds2r {K : PySem.W.Frag} {x qual : Str} {st : Stmt} {f : Addr} {fd : FuncData} {p q : Str} (F : Fun K x qual st f fd)
    (h : ∀ (kV doc pm : Value) (an : Option Addr) (cdv ct : Value) (u v : Value), bindArgs (PySem.W.fnOf x qual (defArgs st) (defBody st) (defScope st) .none kV doc pm an cdv ct) ⟨[], [(q, u), (p, v)]⟩ = pure [(p, v), (q, u)]) : KB0 K fd [p, q] [q, p] revL := by
  obtain ⟨oc, od, kV, doc, pm, an, cdv, ct, osl, rfl, lk, hcd⟩ := F.ex
  refine ⟨fun s ws _ hl => ?_, fun r => r.reverse⟩
  match ws, hl with
  | [u, v], _ => exact .of_eq (h kV doc pm an cdv ct u v)
section
variable {K : PySem.W.Frag} {a : Addr} {S : List Addr} {σ : L2.St} {G H : Hp} {ta tb : TE} {d e : PyData} {C : PyData → Prop}
theorem ev_kw2 {C0 : Addr} {f : Str} {pre : List PyData → Prop} {post rp : List PyData → PyData → Prop} {E : XK} (ha : Ev K a G ta σ (· = e)) (hb : Ev K a G tb σ (· = d)) (hp : pre [d, e]) (hc : ∀ r, post [d, e] r → C r) (hn : ∀ r, ¬ rp [d, e] r) :
    Ev K a G (tCallK0 2 (spX K C0 f pre post rp) revL E (tCons ta (tCons tb tNil))) σ C := fun S H1 fr s Q q => (ea_eq ha (ea_eq hb ea_nil)) S H1 fr s _ fun vs ds H2 x2 m c => by
  subst c
  obtain ⟨v, w, rfl, m1, m2⟩ := DA.two m
  exact ⟨rfl, a, S, [d, e], fr.ext x2, .cons m2 (.cons m1 .nil), hp, fun v r H3 x3 m3 p => q v r H3 (x2.trans x3) m3 (hc r p), fun v r dd H3 _ _ p _ _ => absurd p (hn r)⟩
theorem ev_kw2X {C1 C2 : Addr} {f1 f2 : Str} {pre : List PyData → Prop} {post rp1 rp2 : List PyData → PyData → Prop} {E : XK} (ha : Ev K a G ta σ (· = e)) (hb : Ev K a G tb σ (· = d)) (hp : pre [d, e]) (hc : ∀ r, post [d, e] r → C r) (hn : ∀ r, ¬ rp1 [d, e] r) (hn2 : ∀ r, ¬ rp2 [d, e] r) :
    Ev K a G (tCallK0 2 (spX2 K C1 f1 C2 f2 pre post rp1 rp2) revL E (tCons ta (tCons tb tNil))) σ C := fun S H1 fr s Q q => (ea_eq ha (ea_eq hb ea_nil)) S H1 fr s _ fun vs ds H2 x2 m c => by
  subst c
  obtain ⟨v, w, rfl, m1, m2⟩ := DA.two m
  exact ⟨rfl, a, S, [d, e], fr.ext x2, .cons m2 (.cons m1 .nil), hp, fun v r H3 x3 m3 p => q v r H3 (x2.trans x3) m3 (hc r p), fun v r dd H3 _ _ p _ _ => absurd p (hn r), fun v r dd H3 _ _ p _ _ => absurd p (hn2 r)⟩
end
/-- numbers compared -/
theorem rat_eqv {d e : PyData} (hd : isRatD d = true) (he : isRatD e = true) : PyData.eqv d e = decide (valD d = valD e) := by
  have key : PyData.eqv d e = true ↔ d = e := by
    match d, e, hd, he with
    | .int n, .int k, _, _ => simp [PyData.eqv]
    | .int n, .tuple [.int k, .int l], _, _ => simp [PyData.eqv]
    | .tuple [.int k, .int l], .int n, _, _ => simp [PyData.eqv]
    | .tuple [.int n, .int m], .tuple [.int k, .int l], _, _ => simp [PyData.eqv, PyData.eqvAll]
  by_cases h : valD d = valD e
  · rw [decide_eq_true h, key.mpr (val_inj hd he h)]
  · rw [decide_eq_false h]
    cases z : PyData.eqv d e with
    | false => rfl
    | true => exact absurd (by rw [key.mp z]) h
theorem rat_three {d e : PyData} (hd : isRatD d = true) (he : isRatD e = true) : [lessD d e, lessD e d, PyData.eqv d e].count true = 1 := by
  rw [rat_eqv hd he]
  have h1 := less_iff hd he
  have h2 := less_iff he hd
  have tri : valD d < valD e ∨ valD d = valD e ∨ valD e < valD d := by grind
  rcases tri with h | h | h
  · have a : lessD d e = true := h1.mpr h
    have b : lessD e d = false := by
      cases z : lessD e d with
      | false => rfl
      | true => exact absurd (h2.mp z) (Rat.not_lt.mpr (Rat.le_of_lt h))
    have c : decide (valD d = valD e) = false := decide_eq_false (by grind)
    rw [a, b, c]
    rfl
  · have a : lessD d e = false := by
      cases z : lessD d e with
      | false => rfl
      | true => exact absurd (h1.mp z) (by rw [h]; exact Rat.lt_irrefl)
    have b : lessD e d = false := by
      cases z : lessD e d with
      | false => rfl
      | true => exact absurd (h2.mp z) (by rw [h]; exact Rat.lt_irrefl)
    have c : decide (valD d = valD e) = true := decide_eq_true h
    rw [a, b, c]
    rfl
  · have a : lessD e d = true := h2.mpr h
    have b : lessD d e = false := by
      cases z : lessD d e with
      | false => rfl
      | true => exact absurd (h1.mp z) (Rat.not_lt.mpr (Rat.le_of_lt h))
    have c : decide (valD d = valD e) = false := decide_eq_false (by grind)
    rw [a, b, c]
    rfl
end LK
set_option Elab.async false
set_option linter.all false
set_option maxRecDepth 100000
set_option maxHeartbeats 1000000
/-! LK21: own instances, the guards known: made, methods, fields, ==, len, str, repr -/
namespace LK
open PySem PySem.Spec L2
open PyProof.Rows hiding St
section
variable {X : Cx} {CX : CXT} {k : Nat} {f C : Addr} {fd : FuncData} {ps : List Str} {sp : Sp} {dvs : List V} {E : St → XK} {x m : Str} {p pos apos : Pos} {e o : Expr} {es : List Expr} {t ta' : TA} {ta : TE}
/-- a call, told at the caller's slots -/
theorem run_gX {pins : List (Addr × Obj)} {σ : St} {H : Hp} {s : Shared} {Q : VK} {args : Args} {vs : List V} {ws : List Value} (F : FnG X.prog X.w X.K X.mg X.base CX k f fd ps sp) (hg : NoG X.A) (hr : Room k X.A) (hb : BindsTo s fd args (ps.zip ws))
    (hx : ∀ σ, PassesAt CX X σ (E σ)) (I : Inv X pins σ H s) (r : Vals vs ws) (h : sp vs H Q (E σ)) : codeAny (model X.prog X.w) X.A (.call (.ref f) args) (callEnd (EP X pins σ Q) X.xe) s := by
  refine codeAny_mono (F.go X.A hg hr X.stack s H I.env0 args ws vs Q (E σ) hb r h) fun r' s' z => ?_
  rcases r' with er | fl
  · exact hx σ pins H s er s' I z
  · cases fl
    case ret u => exact I.after z
    all_goals exact False.elim z
/-- a method of the class at C -/
structure MtG (P : Program) (w : World) (K : PySem.W.Frag) (mg : Str → Option Value) (base : Heap) (CX : CXT) (k : Nat) (C : Addr) (m : Str) (ps : List Str) (dvs : List V) (sp : Sp) : Prop where
  ex : ∃ (f : Addr) (fd : FuncData), FnG P w K mg base CX k f fd ps sp ∧ Meth K C m f ∧ ∃ ds, Vals dvs ds ∧ Binds K fd ps ds
def tMethX (C : Addr) (m : Str) (sp : Sp) (dvs : List V) (E : St → XK) (ta : TE) (t : TA) : TE := fun σ H Q => ta σ H fun x H1 => ∃ a dx fs, x = .ref a ∧ H1 a = some (.ins C dx fs) ∧ fs.lookup m = none ∧ t σ H1 fun vs H2 => sp (.ref a :: (vs ++ dvs)) H2 Q (E σ)
theorem pe_methX {pl : Sem Bool} (F : MtG X.prog X.w X.K X.mg X.base CX k C m ps dvs sp) (c : Cls X.K C) (hg : NoG X.A) (hr : Room k X.A) (hx : ∀ σ, PassesAt CX X σ (E σ)) (he : PE X o ta) (ha : PA X (e :: es) t)
    (hst : starEach (e :: es) X.env = (false, eval e X.env) :: starEach es X.env := by rfl) (hpl : (backTo pos (starEach es X.env)).any (·.1) = false := by rfl) (hc : MethIs X o m apos pos (e :: es) pl := by rfl) :
    PE X (.Call (.Attribute o m apos) (e :: es) [] pos) (tMethX C m sp dvs E ta t) := by
  obtain ⟨f, fd, G, hm, ds, rd, hb⟩ := F.ex
  constructor
  intro pins s σ H Q I h
  refine PySem.W.methodCall_KW (pl := pl) (thn (he.run pins s σ H _ I h) ?_) hc
  rintro u s1 ⟨x, H1, I1, rx, a, dx, fs, rfl, ea, l, q⟩
  obtain rfl : u = Value.ref a := rx
  refine getmeth_ok I1 ea c hm l ?_
  refine PySem.W.callWith_K (first := [.ref a]) (h₀ := X.base) I.ok.mod.kin hm.kp (thn (ha.run pos pins s1 σ H1 _ I1 q) ?_) hst hpl
  rintro us s2 ⟨vs, H2, I2, r, q2⟩
  have r2 : Vals (V.ref a :: (vs ++ dvs)) (Value.ref a :: (us ++ ds)) := .cons rfl (r.append rd)
  have len : (Value.ref a :: us ++ ds).length = ps.length := by
    show (Value.ref a :: (us ++ ds)).length = _
    rw [← r2.length]
    exact G.size _ _ _ _ q2
  exact ⟨I2.kIn, wpAny_call (run_gX (ws := Value.ref a :: (us ++ ds)) G hg hr (hb s2 (.ref a :: us) I2.kIn len) hx I2 r2 q2)⟩
theorem pe_methX0 {pl : Sem Bool} (F : MtG X.prog X.w X.K X.mg X.base CX k C m ps dvs sp) (c : Cls X.K C) (hg : NoG X.A) (hr : Room k X.A) (hx : ∀ σ, PassesAt CX X σ (E σ)) (he : PE X o ta) (hc : MethIs X o m apos pos [] pl := by rfl) :
    PE X (.Call (.Attribute o m apos) [] [] pos) (tMethX C m sp dvs E ta tNil) := by
  obtain ⟨f, fd, G, hm, ds, rd, hb⟩ := F.ex
  constructor
  intro pins s σ H Q I h
  refine PySem.W.methodCall_KW (pl := pl) (thn (he.run pins s σ H _ I h) ?_) hc
  rintro u s1 ⟨x, H1, I1, rx, a, dx, fs, rfl, ea, l, q⟩
  obtain rfl : u = Value.ref a := rx
  refine getmeth_ok I1 ea c hm l ?_
  have r2 : Vals (V.ref a :: ([] ++ dvs)) (Value.ref a :: ds) := .cons rfl rd
  have len : ([Value.ref a] ++ ds).length = ps.length := by
    show (Value.ref a :: ds).length = _
    rw [← r2.length]
    exact G.size _ _ _ _ q
  exact PySem.W.callWith_K0 (first := [.ref a]) I1.kIn hm.kp (wpAny_call (run_gX (ws := Value.ref a :: ds) G hg hr (hb s1 [.ref a] I1.kIn len) hx I1 r2 q))
/-- the class at C is made by a def -/
structure MkG (P : Program) (w : World) (K : PySem.W.Frag) (mg : Str → Option Value) (base : Heap) (CX : CXT) (k : Nat) (x : Str) (C : Addr) (ps : List Str) (dvs : List V) (sp : Sp) : Prop where
  g : mg x = some (.ref C)
  ex : ∃ (f : Addr) (fd : FuncData), FnG P w K mg base CX k f fd ps sp ∧ Mk K C f ∧ ∃ ds, Vals dvs ds ∧ Binds K fd ps ds
def tMakeX (C : Addr) (sp : Sp) (dvs : List V) (E : St → XK) (t : TA) : TE := fun σ H Q => t σ H fun vs H1 => ∀ x dx, H1 x = none → H1 dx = none → dx ≠ x → sp (.ref x :: (vs ++ dvs)) (upd (upd H1 dx (.own x)) x (.ins C dx [])) (fun v H2 => v = .non ∧ Q (.ref x) H2) (E σ)
theorem run_makeX {pins : List (Addr × Obj)} {σ : St} {H : Hp} {s : Shared} {Q : VK} {us : List Value} {vs : List V} (F : MkG X.prog X.w X.K X.mg X.base CX k x C ps dvs sp) (hg : NoG X.A) (hr : Room (k + 1) X.A) (hx : ∀ σ, PassesAt CX X σ (E σ)) (I : Inv X pins σ H s) (r : Vals vs us)
    (h : ∀ x dx, H x = none → H dx = none → dx ≠ x → sp (.ref x :: (vs ++ dvs)) (upd (upd H dx (.own x)) x (.ins C dx [])) (fun v H2 => v = .non ∧ Q (.ref x) H2) (E σ)) : wpAny (model X.prog X.w) X.A (call (.ref C) us) (EP X pins σ Q) X.xe s := by
  obtain ⟨f, fd, G, M, ds, rd, hb⟩ := F.ex
  have wish := h (s.heap.objs.size + 1) s.heap.objs.size (I.hok.fresh (Nat.le_succ _)) (I.hok.fresh (Nat.le_refl _)) (Nat.ne_of_lt (Nat.lt_succ_self _))
  have I2 := Inv.made (C := C) I
  have r2 : Vals (V.ref (s.heap.objs.size + 1) :: (vs ++ dvs)) (Value.ref (s.heap.objs.size + 1) :: (us ++ ds)) := .cons rfl (r.append rd)
  have len : (Value.ref (s.heap.objs.size + 1) :: us ++ ds).length = ps.length := by
    show (Value.ref (s.heap.objs.size + 1) :: (us ++ ds)).length = _
    rw [← r2.length]
    exact G.size _ _ _ _ wish
  apply wpAny_call
  refine make_map (f := f) I.kIn M.makes M.init (beq_iff_eq.mp M.fn) ?_
  refine codeAny_mono (G.go _ (by exact hg) (hr.make C us []) X.stack _ _ (I2.env0.make C us []) ⟨Value.ref (s.heap.objs.size + 1) :: us, []⟩ (Value.ref (s.heap.objs.size + 1) :: (us ++ ds)) _ _ (E σ) (hb _ (Value.ref (s.heap.objs.size + 1) :: us) I2.kIn len) r2 wish) fun rr s' z => ?_
  rcases rr with er | fl
  · exact hx σ pins _ _ er s' I2 z
  · cases fl
    case ret u =>
      obtain ⟨v, H', I3, rv, ev, q3⟩ := I2.after z
      subst ev
      exact ⟨rv, ⟨V.ref (s.heap.objs.size + 1), H', I3, rfl, q3⟩⟩
    all_goals exact False.elim z
theorem pe_makeX (F : MkG X.prog X.w X.K X.mg X.base CX k x C ps dvs sp) (hk : PySem.W.keepIn X.K (.ref C) = true) (hg : NoG X.A) (hr : Room (k + 1) X.A) (hgl : Gl X x) (hx : ∀ σ, PassesAt CX X σ (E σ)) (ha : PA X (e :: es) t)
    (hdb : (x == ("__debug__" : Str)) = false := by decide) (he : starEach (e :: es) X.env = (false, eval e X.env) :: starEach es X.env := by rfl) (hpl : (backTo pos (starEach es X.env)).any (·.1) = false := by rfl) :
    PE X (.Call (.Name x p) (e :: es) [] pos) (tMakeX C sp dvs E t) := by
  constructor
  intro pins s σ H Q I h
  apply wpAny_Call_Name_kw
  apply ld_glob I hgl F.g _ hdb
  apply PySem.W.callWith_K (h₀ := X.base) I.ok.mod.kin hk _ he hpl
  apply thn (ha.run pos pins s σ H _ I h)
  rintro us s1 ⟨vs, H1, I1, r, q⟩
  exact ⟨I1.kIn, run_makeX F hg hr hx I1 r q⟩
/-- y(..), y a local name that holds the class -/
def tMakeL (i : Nat) (C : Addr) (sp : Sp) (dvs : List V) (E : St → XK) (t : TA) : TE := fun σ H Q => σ[i]? = some (some (.ref C)) ∧ tMakeX C sp dvs E t σ H Q
theorem pe_makeL {i : Nat} {y : Str} (F : MkG X.prog X.w X.K X.mg X.base CX k x C ps dvs sp) (hk : PySem.W.keepIn X.K (.ref C) = true) (hg : NoG X.A) (hr : Room (k + 1) X.A) (hN : X.N[i]? = some y) (hv : Vis X.env.scope y) (hx : ∀ σ, PassesAt CX X σ (E σ)) (ha : PA X (e :: es) t)
    (hdb : (y == ("__debug__" : Str)) = false := by decide) (hcd : (y == ("__classdict__" : Str)) = false := by decide) (he : starEach (e :: es) X.env = (false, eval e X.env) :: starEach es X.env := by rfl) (hpl : (backTo pos (starEach es X.env)).any (·.1) = false := by rfl) :
    PE X (.Call (.Name y p) (e :: es) [] pos) (tMakeL i C sp dvs E t) := by
  constructor
  rintro pins s σ H Q I ⟨hs, ht⟩
  refine wpAny_Call_Name_kw (thn ((pe_var (pos := p) hN hv hdb hcd).run pins s σ H (fun v H1 => v = .ref C ∧ H1 = H) I ⟨.ref C, hs, rfl, rfl⟩) ?_)
  rintro u s1 ⟨v, H1, I1, r1, rfl, rfl⟩
  cases r1
  apply PySem.W.callWith_K (h₀ := X.base) I.ok.mod.kin hk _ he hpl
  apply thn (ha.run pos pins s1 σ H1 _ I1 ht)
  rintro us s2 ⟨vs, H2, I2, r, q⟩
  exact ⟨I2.kIn, run_makeX F hg hr hx I2 r q⟩
theorem pe_fldK {K : PySem.W.Frag} {f : Str} (eK : X.K = K) (he : PE X e ta) (hb : attributeBase e f X.env (eval e X.env) = eval e X.env := by rfl) : PE X (.Attribute e f pos) (tFld K ta f) := eK ▸ pe_fld he hb
theorem ps_fldK {K : PySem.W.Frag} {f : Str} {value : Expr} {tv : TE} {pos' : Pos} (eK : X.K = K) (ha : PE X o ta) (hv : PE X value tv) (hs : swapsWith value (some (.Attribute o f pos')) pos.line X.env = pure false := by rfl) : PS X (.Assign [.Attribute o f pos'] value pos) (sFld K ta tv f) := eK ▸ ps_fld ha hv hs
theorem pe_cvalK {K : PySem.W.Frag} {f : Str} (eK : X.K = K) (he : PE X e ta) (hb : attributeBase e f X.env (eval e X.env) = eval e X.env := by rfl) : PE X (.Attribute e f pos) (ClX.tCVal K ta f) := by
  subst eK
  exact ClX.pe_cval he hb
end
/-! ### own == on the left -/
section
variable {X : Cx} {CX : CXT} {k : Nat} {C : Addr} {ps : List Str} {sp : Sp} {E : XK}
theorem cmpBack {P : Value → Shared → Prop} {z : V} {v : Value} {s' : Shared} (r : RelV z v) (h : P v s') : PySem.W.CmpBack P v s' := by
  cases z with
  | non =>
    cases (show v = Value.none from r)
    exact h
  | bl b =>
    cases (show v = Value.bool b from r)
    exact h
  | int i =>
    obtain ⟨_, rfl⟩ := (show ∃ t, v = Value.int i t from r)
    exact h
  | str x =>
    obtain ⟨_, rfl⟩ := (show ∃ t, v = Value.str x t from r)
    exact h
  | byt b =>
    obtain ⟨_, rfl⟩ := (show ∃ t, v = Value.bytes b t from r)
    exact h
  | flt b =>
    obtain ⟨_, rfl⟩ := (show ∃ t, v = Value.float b t from r)
    exact h
  | ref a =>
    cases (show v = Value.ref a from r)
    exact h
  | ty n =>
    cases (show v = Value.type n from r)
    exact h
/-- x == y, x of the class at C, y of it too -/
def rOwnEq (C : Addr) (sp : Sp) : R2 := fun x y H Q => ∃ a dx fs b dy gs, x = .ref a ∧ y = .ref b ∧ H a = some (.ins C dx fs) ∧ H b = some (.ins C dy gs) ∧ sp [x, y] H Q fun _ _ _ => False
theorem op_ownEq (F : MtG X.prog X.w X.K X.mg X.base CX0 k C "__eq__" ps [] sp) (hg : NoG X.A) (hr : Room k X.A) : OpR X (compareOp .Eq) (rOwnEq C sp) := by
  obtain ⟨f, fd, G, hm, ds, rd, hb⟩ := F.ex
  intro pins s σ H x y v u Q I rx ry h
  obtain ⟨a, dx, fs, b, dy, gs, rfl, rfl, ha, hbb, q⟩ := h
  cases (show v = Value.ref a from rx)
  cases (show u = Value.ref b from ry)
  cases rd
  obtain ⟨mA, O, _, _, _, _⟩ := ins_get I.hok ha
  obtain ⟨od, J, _⟩ := O.look
  obtain ⟨mB, O', _, _, _, _⟩ := ins_get I.hok hbb
  obtain ⟨od', J', _⟩ := O'.look
  obtain ⟨mm, hF⟩ := I.fr
  show wpAny _ _ (richCompare .Eq (.ref a) (.ref b)) _ _ _
  refine PySem.W.cmp_K (op := .Eq) (tb := .ref C) hr.units0 hF I.ok.mod.kin J J'.type (by unfold PySem.W.notFirst; simp) hm.at_ hm.fn ?_
  have r2 : Vals [V.ref a, V.ref b] [Value.ref a, Value.ref b] := .cons rfl (.cons rfl .nil)
  have len : ([Value.ref a, Value.ref b] ++ []).length = ps.length := by
    rw [List.append_nil, ← r2.length]
    exact G.size _ _ _ _ q
  have bb := hb s [.ref a, .ref b] I.kIn len
  rw [List.append_nil] at bb
  refine wpAny_mono (wpAny_call (run_gX (E := fun _ => fun _ _ _ => False) G hg hr bb (fun σ pins H s e s' I z => False.elim z) I r2 q)) (fun w s' z => ?_) fun _ _ z => z
  obtain ⟨z', H', I', rz, qz⟩ := z
  exact cmpBack rz ⟨z', H', I', rz, qz⟩
end
end LK
set_option Elab.async false
set_option linter.all false
set_option maxRecDepth 100000
set_option maxHeartbeats 1000000
/-! LK22: sheets: their fields and places -/
namespace LK
open PySem PySem.Spec L2
open PyProof.Rows hiding St
/-! ### names at their places -/
def placesK (ns : List Str) : List (Key × V) := ns.zipIdx.map fun p => (.inr p.1, .int (p.2 : Nat))
theorem valV_zip (x : Str) : ∀ (ns : List Str) (k : Nat), valV ((ns.zipIdx k).map fun p => ((.inr p.1 : Key), V.int (p.2 : Nat))) (.inr x) = (ns.idxOf? x).map fun i => .int ((k + i : Nat) : Int)
  | [], k => by simp [valV, List.idxOf?]
  | n :: ns, k => by
    rw [List.zipIdx_cons, List.map_cons]
    by_cases e : n = x
    · subst e
      rw [valV_pos rfl]
      simp [List.idxOf?_cons]
    · rw [valV_neg (by intro z; injection z with z; exact e z), valV_zip x ns (k + 1), List.idxOf?_cons]
      rw [if_neg (by simpa using e)]
      cases ns.idxOf? x with
      | none => rfl
      | some i =>
        simp only [Option.map_some]
        congr 2
        omega
theorem valV_places (ns : List Str) (x : Str) : valV (placesK ns) (.inr x) = (ns.idxOf? x).map fun i => .int ((i : Nat) : Int) := by
  unfold placesK
  rw [valV_zip x ns 0]
  simp
theorem places_some (ns : List Str) (x : Str) : (valV (placesK ns) (.inr x)).isSome = decide (x ∈ ns) := by
  rw [valV_places]
  by_cases h : x ∈ ns
  · rw [decide_eq_true h]
    cases e : ns.idxOf? x with
    | none =>
      rw [List.idxOf?_eq_none_iff] at e
      exact absurd h e
    | some i => rfl
  · rw [decide_eq_false h]
    rw [List.idxOf?_eq_none_iff.mpr h]
    rfl
theorem places_snoc {ns : List Str} {x : Str} (h : x ∉ ns) : putK (placesK ns) (.inr x) (.int (ns.length : Nat)) = placesK (ns ++ [x]) := by
  have e : valV (placesK ns) (.inr x) = none := by
    have z := places_some ns x
    rw [decide_eq_false h] at z
    cases e : valV (placesK ns) (.inr x) with
    | none => rfl
    | some v =>
      rw [e] at z
      cases z
  rw [putK_new _ e]
  unfold placesK
  rw [List.zipIdx_append, List.map_append]
  simp
/-- a sheet of these fields -/
def ShAt (C : Addr) (G : Hp) (p : Addr) (ns : List Str) : Prop := ∃ dx pl pd, G p = some (.ins C dx [("own_fields", .ref pl), ("own_places", .ref pd)]) ∧ G pl = some (.lst (ns.map V.str)) ∧ G pd = some (.dK (placesK ns))
theorem ShAt.mono {C : Addr} {G G' : Hp} {p : Addr} {ns : List Str} (h : ShAt C G p ns) (s : Same G G') : ShAt C G' p ns := by
  obtain ⟨dx, pl, pd, h1, h2, h3⟩ := h
  exact ⟨dx, pl, pd, s _ _ h1, s _ _ h2, s _ _ h3⟩
section
variable {K : PySem.W.Frag} {a : Addr} {S : List Addr} {σ : L2.St} {G H : Hp} {ta te : TE} {tr : TA} {C p : Addr} {ns : List Str} {d : PyData} {Cd : PyData → Prop} {A1 : List PyData → Prop}
theorem DA.names (ns : List Str) : DA K H (ns.map V.str) (ns.map PyData.str) := DA.of_strs ns
/-- self.own_fields -/
theorem ev_ownF {i : Nat} (hi : σ[i]? = some (some (.ref p))) (c : Cls K C) (n : NoAttr K C "own_fields") (h : ShAt C G p ns) : Ev K a G (tFld K (tVar i) "own_fields") σ (· = .list (ns.map .str)) := fun S H1 f s Q q => by
  obtain ⟨dx, pl, pd, h1, h2, h3⟩ := h.mono s
  exact ⟨.ref p, hi, p, C, dx, _, .ref pl, rfl, (off_some h1).2, c, n, by simp [List.lookup], q _ _ H1 Ext.refl (.lst h2 (DA.names ns)) rfl⟩
/-- value in self.own_places -/
theorem ev_inP {i : Nat} {x : Str} (ha : Ev K a G ta σ (· = .str x)) (hi : σ[i]? = some (some (.ref p))) (c : Cls K C) (n : NoAttr K C "own_places") (h : ShAt C G p ns) : Ev K a G (tDIn ta (tFld K (tVar i) "own_places")) σ (· = .bool (decide (x ∈ ns))) := fun S H1 f s Q q =>
  ha S H1 f s _ fun v d H2 x2 m e => by
    subst e
    cases m
    obtain ⟨dx, pl, pd, h1, h2, h3⟩ := h.mono (f.same x2 s)
    refine ⟨.ref p, hi, p, C, dx, _, .ref pd, rfl, (off_some h1).2, c, n, ?_, pd, _, rfl, DGet.k (k := .inr x) (off_some h3).2, q _ _ H2 x2 (.bl _) ?_⟩
    · rfl
    · rw [places_some]
/-! ### promises of methods -/
/-- [self, ..] -/
def spM (K : PySem.W.Frag) (C : Addr) (pre : List Str → List PyData → Prop) (post : List Str → List PyData → PyData → Prop) : Sp := fun vs H Q _ => ∃ (a : Addr) (S : List Addr) (p : Addr) (ns : List Str) (ws : List V) (ds : List PyData),
  vs = .ref p :: ws ∧ Fr a S H ∧ ShAt C (off S H) p ns ∧ DA K (off S H) ws ds ∧ pre ns ds ∧ ∀ v d H', Ext a H H' → D K (off S H') v d → post ns ds d → Q v H'
theorem spM_len {pre : List Str → List PyData → Prop} {post : List Str → List PyData → PyData → Prop} {n : Nat} (hp : ∀ ns ds, pre ns ds → ds.length = n) {vs : List V} {H : Hp} {Q : VK} {E : XK} (h : spM K C pre post vs H Q E) : vs.length = n + 1 := by
  obtain ⟨a, S, p, ns, ws, ds, rfl, _, _, m, pr, _⟩ := h
  rw [List.length_cons, m.length, hp ns ds pr]
/-- o.m(..), o in a slot -/
theorem ev_meth {pre : List Str → List PyData → Prop} {post : List Str → List PyData → PyData → Prop} {E : St → XK} {i : Nat} {m : Str} (hi : σ[i]? = some (some (.ref p))) (h : ShAt C G p ns) (hr : EvA K a G tr σ A1) (hp : ∀ ds, A1 ds → pre ns ds) (hc : ∀ ds r, A1 ds → post ns ds r → Cd r)
    (hm : ∀ x y : V, ([("own_fields", x), ("own_places", y)] : List (Str × V)).lookup m = none := by intro _ _; rfl) : Ev K a G (tMethX C m (spM K C pre post) [] E (tVar i) tr) σ Cd := fun S H1 f s Q q => by
  obtain ⟨dx, pl, pd, h1, h2, h3⟩ := h.mono s
  refine ⟨.ref p, hi, p, dx, _, rfl, (off_some h1).2, hm _ _, hr S H1 f s _ fun vs ds H2 x2 mv cv => ?_⟩
  rw [List.append_nil]
  exact ⟨a, S, p, ns, vs, ds, rfl, f.ext x2, h.mono (f.same x2 s), mv, hp ds cv, fun v d H3 x3 m3 p3 => q v d H3 (x2.trans x3) m3 (hc ds d cv p3)⟩
/-- f(sheet, ..), the sheet in a slot -/
theorem ev_callM {pre : List Str → List PyData → Prop} {post : List Str → List PyData → PyData → Prop} {E : XK} {i : Nat} (hi : σ[i]? = some (some (.ref p))) (h : ShAt C G p ns) (hr : EvA K a G tr σ A1) (hp : ∀ ds, A1 ds → pre ns ds) (hc : ∀ ds r, A1 ds → post ns ds r → Cd r) :
    Ev K a G (tCall (spM K C pre post) [] E (tCons (tVar i) tr)) σ Cd := fun S H1 f s Q q => ⟨.ref p, hi, hr S H1 f s _ fun vs ds H2 x2 mv cv => by
  show spM K C pre post (V.ref p :: vs ++ []) H2 Q E
  rw [List.append_nil]
  exact ⟨a, S, p, ns, vs, ds, rfl, f.ext x2, h.mono (f.same x2 s), mv, hp ds cv, fun v d H3 x3 m3 p3 => q v d H3 (x2.trans x3) m3 (hc ds d cv p3)⟩⟩
/-- isinstance(x, (T1, T2)) -/
def rIsiTK (K : PySem.W.Frag) : List V → Hp → VK → Prop := rIsiT K
def anyTy (ts : List String) (d : PyData) : Bool := ts.any fun n => isTy n d
theorem kit_any {t : String} : ∀ {ts : List String} {bs : List Bool}, ts.map (fun n => kitB t n) = bs.map some → PySem.W.kitAny K (.type t) (ts.map Value.type) = some (bs.any id)
  | [], [], _ => by simp [PySem.W.kitAny]
  | n :: ts, b :: bs, h => by
    rw [List.map_cons, List.map_cons] at h
    injection h with h1 h2
    rw [List.map_cons]
    cases b with
    | true => exact kitAny_cons (kit_ty h1) nofun fun _ => rfl
    | false =>
      have := kit_any h2
      refine kitAny_cons (kit_ty h1) (fun _ => ?_) nofun
      exact this
theorem ev_isiT {ts : List String} {bs : List Bool} (h : Ev K a G te σ (· = d)) (hk : ts.map (fun n => kitB (tyD d) n) = bs.map some) (hl : ts.length ≤ 1000 := by decide) : Ev K a G (tCB (rIsiT K) (tCons te (tCons (tTup (tCls (ts.map V.ty))) tNil))) σ (· = .bool (bs.any id)) := fun S H1 f s Q q =>
  h S H1 f s _ fun v d' H2 x2 m e => by
    subst e
    refine cls_run ⟨by rw [List.length_map]; exact Nat.le_of_lt (small1000 hl), fun tp hp => ?_⟩
    have x3 : Ext a H2 (upd H2 tp (.tup (ts.map V.ty))) := Ext.new hp
    refine ⟨v, tp, _, .type (tyD d'), ts.map Value.type, _, rfl, upd_same, ?_, (D.mono m (same_off_new hp) |>.mono off_le).ty, kit_any hk, q _ _ _ (x2.trans x3) (.bl _) rfl⟩
    clear hk hl x3
    induction ts with
    | nil => exact .nil
    | cons n ts ih => exact .cons (.ty n) ih
end
end LK
set_option Elab.async false
set_option linter.all false
set_option maxRecDepth 100000
set_option maxHeartbeats 1000000
/-! LK23: names and words; what a sheet is made of -/
namespace LK
open PySem PySem.Spec L2
open PyProof.Rows hiding St
abbrev abc : Str := "abcdefghijklmnopqrstuvwxyz"
def isStrD : PyData → Bool
  | .str _ => true
  | _ => false
def isNameD : PyData → Bool
  | .str x => (decide ((1 : Int) ≤ (x.length : Nat)) && decide (((x.length : Nat) : Int) ≤ 8)) && x.cps.toList.all fun c => decide (c ∈ abc.cps.toList)
  | _ => false
theorem isName_str (x : Str) : isNameD (.str x) = ((decide ((1 : Int) ≤ (x.length : Nat)) && decide (((x.length : Nat) : Int) ≤ 8)) && x.cps.toList.all fun c => decide (c ∈ abc.cps.toList)) := rfl
theorem kit_str : ∀ d : PyData, kitB (tyD d) "str" = some (isStrD d)
  | .none => (by decide +kernel : kitB "NoneType" "str" = some false)
  | .bool _ => (by decide +kernel : kitB "bool" "str" = some false)
  | .int _ => (by decide +kernel : kitB "int" "str" = some false)
  | .str _ => (by decide +kernel : kitB "str" "str" = some true)
  | .list _ => (by decide +kernel : kitB "list" "str" = some false)
  | .tuple _ => (by decide +kernel : kitB "tuple" "str" = some false)
  | .dict _ => (by decide +kernel : kitB "dict" "str" = some false)
theorem tame_len {x : Str} (t : Tame (.str x)) : x.length ≤ 8000 := by
  have h := t.bk
  simp only [PyData.bulk] at h
  exact h

section
variable {K : PySem.W.Frag} {a : Addr} {G : Hp} {S : List Addr} {H : Hp}
theorem rd_is_name {Dn : Ends} {v : V} {d : PyData} (f : Fr a S H) (m : D K (off S H) v d) (tm : Tame d) (q : ∀ H', Ext a H H' → Dn.rt (.bl (isNameD d)) H') :
    tSeq (tIfS (tOr (tNot (tB (tCB (rIsi K) (tCons (tVar 0) (tCons (tC (.ty "str")) tNil)))))
        (tNot (tTest (tChain (rI0 fun i j => .bl (decide (i ≤ j))) (rI0 fun i j => .bl (decide (i ≤ j))) (tC (.int 1)) (tCB (rLenA K) (tCons (tVar 0) tNil)) (tC (.int 8))))))
      (tRet (tC (.bl false))) tNext)
      (tRet (tCB (rAll K) (tCons (tLc (iStr (tVar 0)) (gName 1) tYes (tOp (rInA K) (tVar 1) (tC (.str abc))) [1]) tNil))) Dn [some v, none] H := by
  have e0 : Ev K a (off S H) (tVar 0) [some v, none] (· = d) := ev_var rfl m
  by_cases hs : ∃ x, d = .str x
  · obtain ⟨x, rfl⟩ := hs
    have len := tame_len tm
    refine q_if (B := fun b => b = !(decide ((1 : Int) ≤ (x.length : Nat)) && decide (((x.length : Nat) : Int) ≤ 8))) ?_ f (Same.refl _) ?_ ?_
    · refine et_or (B1 := (· = false)) (et_not (B1 := (· = true)) (et_val (ev_isi e0 ?_)) ?_) (fun _ => et_not (et_chainI (cA := (· = 1)) (cB := (· = (x.length : Nat))) (cC := (· = 8)) (B := fun b => b = (decide ((1 : Int) ≤ (x.length : Nat)) && decide (((x.length : Nat) : Int) ≤ 8))) (ev_isI ev_i rfl) (ev_len e0 ?_) (ev_isI ev_i rfl) ?_ ?_) ?_) ?_
      · rintro _ rfl
        exact ⟨_, kit_str _, rfl⟩
      · rintro _ rfl
        rfl
      · rintro _ rfl
        exact ⟨_, rfl, by omega, rfl⟩
      · rintro i j k rfl rfl rfl
        rfl
      · rintro i j rfl rfl h
        rw [h]
        rfl
      · rintro _ rfl
        rfl
      · intro h
        cases h
    · intro H' x1 f1 hb
      refine q H' x1 |> fun q' => ?_
      show Dn.rt (.bl false) H'
      have e : isNameD (.str x) = false := by
        rw [isName_str, show (decide ((1 : Int) ≤ (x.length : Nat)) && decide (((x.length : Nat) : Int) ≤ 8)) = false from by rw [← Bool.not_eq_true', ← hb], Bool.false_and]
      rw [e] at q'
      exact q'
    · intro H' x1 f1 hb
      have e1 := e0.at (x1.off f.mem)
      refine q_ret (C := IsB fun b => b = isNameD (.str x)) (ev_all (ev_lcS (Y := fun i z => ∃ c, x.cps[i]? = some c ∧ z = .bool (decide (c ∈ abc.cps.toList))) e1 (by omega) (fun _ => rfl) ?_) ?_) f1 (Same.refl _) ?_
      · intro i c hc
        refine (ev_inSgn (P := (· = c)) (B := (· = decide (c ∈ abc.cps.toList))) (ev_var rfl (.str _) |>.imp ?_) ev_s ?_).imp ?_
        · rintro _ rfl
          exact ⟨c, rfl, rfl⟩
        · rintro _ rfl
          rfl
        · rintro _ ⟨b, rfl, rfl⟩
          exact ⟨c, hc, rfl⟩
      · rintro _ ⟨ds, rfl, hl, hY⟩
        refine ⟨x.cps.toList.map fun c => decide (c ∈ abc.cps.toList), ?_, ?_⟩
        · congr 1
          apply List.ext_getElem?
          intro i
          rw [List.getElem?_map, List.getElem?_map]
          by_cases hi : i < x.length
          · obtain ⟨c, hc, hz⟩ := hY i ds[i] (by simp [hl, hi])
            have hc' : x.cps.toList[i]? = some c := by simpa using hc
            rw [hc', List.getElem?_eq_getElem (by omega), hz]
            rfl
          · rw [List.getElem?_eq_none (by omega), List.getElem?_eq_none (by simp; exact Nat.le_of_not_lt hi)]
            rfl
        · show _ = isNameD (.str x)
          rw [isName_str]
          have hb' : (decide ((1 : Int) ≤ (x.length : Nat)) && decide (((x.length : Nat) : Int) ≤ 8)) = true := by
            cases h : (decide ((1 : Int) ≤ (x.length : Nat)) && decide (((x.length : Nat) : Int) ≤ 8)) with
            | true => rfl
            | false =>
              rw [h] at hb
              cases hb
          rw [hb', Bool.true_and, List.all_map]
          rfl
      · rintro v2 _ H2 x2 m2 ⟨b, rfl, rfl⟩
        cases m2
        exact q H2 (x1.trans x2)
  · have hn : isStrD d = false := by
      cases d <;> first | rfl | exact absurd ⟨_, rfl⟩ hs
    have e : isNameD d = false := by
      cases d <;> first | rfl | exact absurd ⟨_, rfl⟩ hs
    refine q_if (B := (· = true)) (et_or (B1 := (· = true)) (et_not (B1 := (· = false)) (et_val (ev_isi e0 ?_)) ?_) ?_ fun _ => rfl) f (Same.refl _) ?_ ?_
    · rintro _ rfl
      exact ⟨_, kit_str _, hn⟩
    · rintro _ rfl
      rfl
    · intro h
      cases h
    · intro H' x1 f1 hb
      have q' := q H' x1
      rw [e] at q'
      exact q'
    · intro H' x1 f1 hb
      cases hb
end
/-- names that a sheet takes -/
structure NamesOk (ns : List Str) : Prop where
  pos : 1 ≤ ns.length
  most : ns.length ≤ 12
  nd : ns.Nodup
  ok : ∀ n ∈ ns, isNameD (.str n) = true
theorem name_len {n : Str} (h : isNameD (.str n) = true) : 1 ≤ n.length ∧ n.length ≤ 8 := by
  rw [isName_str, Bool.and_eq_true, Bool.and_eq_true] at h
  have h1 := of_decide_eq_true h.1.1
  have h2 := of_decide_eq_true h.1.2
  omega
theorem name_sz {n : Str} (h : isNameD (.str n) = true) : Sz 10 0 (.str n) := by
  have hl := (name_len h).2
  have abc_small : ∀ c ∈ abc.cps.toList, c < 16 ^ 8 := by decide +kernel
  rw [isName_str, Bool.and_eq_true, List.all_eq_true] at h
  refine ⟨by simp [PyData.showable], ?_, ?_, by simp [PyData.depth]⟩
  · simp only [PyData.leavesShort, List.all_eq_true, decide_eq_true_eq]
    intro c m
    exact abc_small c (of_decide_eq_true (h.2 c m))
  · simp only [PyData.bulk]
    exact Nat.le_trans (show n.length ≤ 8 from hl) (by decide)
section
variable {K : PySem.W.Frag} {a : Addr} {S : List Addr} {σ : L2.St} {G H : Hp} {te : TE} {tr : TA} {C p : Addr} {ns : List Str} {es : List PyData}
theorem pi_enumK {X : Cx} {K : PySem.W.Frag} {e : Expr} {ta : TA} {p pos tpos : Pos} {elts : List Expr} {kk : Nat} (eK : X.K = K) (hg : Gl X "enumerate") (hm : X.mg "enumerate" = none) (ha : PA X [e] ta) (hs : starEach [e] X.env = [(false, eval e X.env)] := by rfl) :
    PI X (.Tuple elts kk tpos) (.Call (.Name "enumerate" p) [e] [] pos) (iEnum K ta) := eK ▸ pi_enum hg hm ha hs
theorem walks_enum (h : Ev K a G te σ (· = .list es)) : Walks K a G (iEnum K (tCons te tNil)) σ es.length (fun i d => ∃ e, es[i]? = some e ∧ d = .tuple [.int (i : Nat), e]) := fun S H1 f s R r => h S H1 f s _ fun v d H2 x2 m c => by
  subst c
  cases m with
  | @lst L xs _ hL mx =>
    refine ⟨L, xs, rfl, SqL.of (off_le _ _ hL), r _ _ _ H2 x2 (mx.length ▸ walk_enum (xs := xs) (K := K) (a := L)) (fun S' H' e => SqL.of (off_off e hL)) ?_⟩
    rintro S' i H' x _ f' e hi ⟨T, y, z, rfl, hT, rfl, ey, ez⟩
    injection ey with ey
    subst ey
    obtain ⟨d, hd, md⟩ := mx.getV ez
    exact ⟨Ext.new hT, fun _ _ q => same_new hT _ _ q, .tuple [.int (i : Nat), d], D.new_tup hT (f'.out hT) (.cons (.int _) (.cons (md.mono e) .nil)), d, hd, rfl⟩
/-- {field: place for place, field in enumerate(names)} -/
theorem rd_places {ip jf : Nat} {vs : List Nat} {Q : VK} (h : Ev K a G te σ (· = .list (ns.map .str))) (hnd : ns.Nodup) (hl : ns.length ≤ 1000) (f : Fr a S H) (s : Same G (off S H))
    (hj : ∀ x y, ((wipe σ vs).set ip (some x)).set jf (some y) = ((wipe σ vs).set ip (some x)).set jf (some y) ∧ (((wipe σ vs).set ip (some x)).set jf (some y))[jf]? = some (some y) ∧ (((wipe σ vs).set ip (some x)).set jf (some y))[ip]? = some (some x) ∧ wipe (((wipe σ vs).set ip (some x)).set jf (some y)) vs = wipe σ vs)
    (q : ∀ Dd H', Ext a H H' → Fr a S H' → Dd ∉ S → H Dd = none → H' Dd = some (.dK (placesK ns)) → Q (.ref Dd) H') : tDc (iEnum K (tCons te tNil)) (gTup K 2 (gCons (gName ip) (gCons (gName jf) gNil))) tYes (tVar jf) (tVar ip) vs σ H Q := by
  refine walks_enum h S H f s _ fun J Gh Yv H2 x2 w hG hY Dd hD => ?_
  rw [List.length_map] at w hY
  have f2 := f.ext x2
  have hDa := f2.ne hD
  have hDS := f2.out hD
  have hD0 : H Dd = none := by
    cases e : H Dd with
    | none => rfl
    | some o =>
      have := x2.keep _ _ hDa e
      rw [hD] at this
      cases this
  have key : ∀ H', Ext a H2 H' → Same (off S H2) (off (Dd :: S) H') := fun H' x' => same_off_in hD (x'.off f.mem)
  refine ⟨fun i m H' => m = ns.length - i ∧ i ≤ ns.length ∧ Ext a H2 H' ∧ Fr a (Dd :: S) H' ∧ H' Dd = some (.dK (placesK (ns.take i))), ⟨ns.length, by simp, Nat.zero_le _, Ext.new hD, (f2.upd hDa).push upd_same, upd_same⟩, ?_⟩
  rintro i m H' ⟨rfl, hi, x', fD, hd⟩
  by_cases hlt : i < ns.length
  · refine .inr ⟨w.goes i H' hlt (hG _ _ (key H' x')), fun H'' => i + 1 ≤ ns.length ∧ Ext a H2 H'' ∧ Fr a (Dd :: S) H'' ∧ H'' Dd = some (.dK (placesK (ns.take (i + 1)))), fun H'' z => ⟨ns.length - (i + 1), by omega, rfl, z⟩, fun x H'' y => ?_⟩
    obtain ⟨xx, kp, d, md, e, he, rfl⟩ := hY (Dd :: S) i H' x H'' fD (key H' x') hlt (w.yields i H' x H'' hlt (hG _ _ (key H' x')) y)
    cases md with
    | @tup T ys _ ht my =>
      obtain ⟨v1, v2, rfl, m1, m2⟩ := DA.two my
      cases m1
      have en : ns[i]? = some ns[i] := List.getElem?_eq_getElem hlt
      have ee : e = .str ns[i] := by
        rw [List.getElem?_map, en] at he
        injection he with he
        exact he.symm
      subst ee
      cases m2
      obtain ⟨_, h1, h2, h3⟩ := hj (.int (i : Nat)) (.str ns[i])
      refine ⟨T, _, rfl, sqT_same off_le ht, rfl, _, _, rfl, _, _, rfl, rfl, h3, ?_⟩
      refine ⟨_, h1, _, h2, placesK (ns.take i), .inr ns[i], rfl, kp _ _ hd, ?_, hlt, (x'.trans xx).store hD hDa, (fD.ext xx).upd hDa, ?_⟩
      · unfold placesK
        rw [List.length_map, List.length_zipIdx, List.length_take]
        refine Nat.lt_of_le_of_lt (Nat.min_le_right _ _) (Nat.lt_of_le_of_lt hl (by decide))
      · have hn : ns[i] ∉ ns.take i := fun m => by
          obtain ⟨k, hk, e⟩ := List.getElem_of_mem m
          rw [List.getElem_take] at e
          rw [List.length_take] at hk
          have := (List.getElem_inj (h₀ := by omega) (h₁ := hlt) hnd).mp e
          omega
        have e2 : ns.take (i + 1) = ns.take i ++ [ns[i]] := by rw [List.take_succ, en]; rfl
        rw [upd_same, e2, ← places_snoc hn, List.length_take, Nat.min_eq_left hi]
  · have e : i = ns.length := by omega
    subst e
    refine .inl ⟨w.stops H' (hG _ _ (key H' x')), q Dd H' (x2.trans x') (f.ext (x2.trans x')) hDS hD0 ?_⟩
    rw [hd, List.take_length]
end
end LK
set_option Elab.async false
set_option linter.all false
set_option maxRecDepth 100000
set_option maxHeartbeats 1000000
/-! LK24: t[::-1] of a tuple; slices and sums of tuples, slices of lists, by data -/
namespace LK
open PySem PySem.Spec L2
open PyProof.Rows hiding St
section
variable {prog : Program} {w : World} {A : Around} {E : Value → Shared → Prop} {s : Shared}
theorem back_places (n : Nat) : Builtin.Slice.slicePlaces ((n : Int) - 1) (-1) (-1) = n := by
  unfold Builtin.Slice.slicePlaces
  rw [if_neg (by decide)]
  simp only [Int.neg_neg, Int.ediv_one]
  split <;> omega
theorem fmap_congr {α β : Type} {f g : α → Option β} : ∀ {l : List α}, (∀ m ∈ l, f m = g m) → l.filterMap f = l.filterMap g
  | [], _ => rfl
  | x :: l, h => by
    rw [List.filterMap_cons, List.filterMap_cons, h x (by simp), fmap_congr fun m z => h m (List.mem_cons_of_mem _ z)]
theorem back_pick (xs : Array Value) : ((List.range xs.size).filterMap fun (m : Nat) => xs[(((xs.size : Nat) : Int) - 1 + (m : Int) * (-1)).toNat]?) = xs.toList.reverse := by
  have e : ∀ m ∈ List.range xs.size, xs[(((xs.size : Nat) : Int) - 1 + (m : Int) * (-1)).toNat]? = xs.toList.reverse[m]? := fun m h => by
    have hm := List.mem_range.mp h
    have ez : (((xs.size : Nat) : Int) - 1 + (m : Int) * (-1)).toNat = xs.size - 1 - m := by omega
    rw [ez, List.getElem?_reverse (by simpa using hm)]
    simp
  rw [fmap_congr e]
  have gen : ∀ l : List Value, (List.range l.length).filterMap (fun m => l[m]?) = l := fun l => by
    induction l with
    | nil => rfl
    | cons x l ih =>
      rw [List.length_cons, List.range_succ_eq_map, List.filterMap_cons]
      simp only [List.getElem?_cons_zero, List.filterMap_map]
      congr 1
  have := gen xs.toList.reverse
  simpa using this
theorem back_apply {sl : Addr} {n : Nat} {tk : Tok} {Q : Int × Int × Nat → Shared → Prop} (g : s.heap.IsSliceOf sl .none .none (.int (-1) tk)) (q : Q ((n : Int) - 1, -1, n) s) : wpAny (model prog w) A (Builtin.Slice.sliceApplied (.ref sl) (pure (n : Int))) Q E s := by
  obtain ⟨o, g1, g2, g3⟩ := id g
  unfold Builtin.Slice.sliceApplied Builtin.Slice.sliceFields
  refine wpAny_bind (wpAny_bind (wpAny_field g1 g3 (x := .none) rfl (wpAny_bind (wpAny_field g1 g3 (x := .none) rfl (wpAny_bind (wpAny_field g1 g3 (x := .int (-1) tk) rfl (wpAny_pure ?_)))))))
  refine wpAny_bind (slicePart_int ?_)
  show wpAny _ _ (if ((-1 : Int) == 0) = true then _ else _) _ _ s
  rw [if_neg (by decide)]
  refine wpAny_bind (slicePart_none (wpAny_bind (slicePart_none (wpAny_bind (wpAny_pure ?_)))))
  show wpAny _ _ (pure ((n : Int) - 1, (-1 : Int), Builtin.Slice.slicePlaces ((n : Int) - 1) (-1) (-1))) _ _ s
  rw [back_places]
  exact wpAny_pure q
theorem back_tup {t sl : Addr} {xs : Array Value} {tk : Tok} {Q : Value → Shared → Prop} (ht : IsTup s.heap t xs) (g : s.heap.IsSliceOf sl .none .none (.int (-1) tk)) (hz : xs.size ≤ sizeLine)
    (q : Q (.ref s.heap.objs.size) { s with heap := s.heap.push { cls := .type "tuple", data := .seq xs.toList.reverse.toArray } }) : wpAny (model prog w) A (getItem (.ref t) (.ref sl)) Q E s := by
  have fits : sizeOk (.seq xs.toList.reverse.toArray) := by
    show xs.toList.reverse.toArray.size ≤ sizeLine
    simpa using hz
  obtain ⟨o, g1, g2, g3⟩ := id g
  have ty : s.TypeIs (.ref sl) "slice" := ⟨o, g1, g2⟩
  unfold getItem
  try with_reducible refine wpAny_holding ?_
  first | refine wpAny_bind (wpAny_pure ?_) | skip
  refine wpAny_bind (wpAny_sequenceKey ht.typeIs (by decide) ?_)
  refine wpAny_bind (wpAny_callSpecial?_slot (name := Str.ofString "__getitem__") ht.typeIs PyProof.Rows.slot_tuple_getitem (wpAny_call_entry PyProof.Rows.slot_tuple_getitem ht.typeIs entry_tuple_getitem ?_ (args_tuple_getitem _ _)))
  show wpAny _ _ (Builtin.Tuple.tupleItemsOf (.ref t) >>= _) _ _ s
  refine wpAny_bind (tupleItemsOf_ ht (wpAny_bind (wpAny_typeOf ty ?_)))
  rw [if_pos (by decide)]
  refine wpAny_bind (back_apply g ?_)
  show wpAny _ _ (if (((xs.size : Nat) : Int) - 1 == 0 && (-1 : Int) == 1 && xs.size == xs.size) = true then _ else _) _ _ s
  rw [if_neg (by simp), back_pick]
  first
    | exact wpAny_bind (m := Builtin.Tuple.tupleExact _) (wpAny_newObj_type (wpAny_pure ⟨_, rfl, wpAny_pure q⟩) fits)
    | exact wpAny_bind (m := Builtin.Tuple.tupleExact _) (wpAny_newObj_type (wpAny_bind (wpAny_pure (wpAny_pure ⟨_, rfl, wpAny_pure q⟩))) fits)
end
end LK
set_option Elab.async false
set_option linter.all false
set_option maxRecDepth 100000
set_option maxHeartbeats 1000000
/-! LK25: t[::-1], slices and sums of tuples, slices and multiples of lists, by data; words in lists; chains -/
namespace LK
open PySem PySem.Spec L2
open PyProof.Rows hiding St
def tRevT (K : PySem.W.Frag) (te ts : TE) : TE := fun σ H Q => te σ H fun x H1 => ts σ H1 fun y H2 => y = .int (-1) ∧ ∃ a xs, x = .ref a ∧ SqT K H2 a xs ∧ ∀ p, H2 p = none → Q (.ref p) (upd H2 p (.tup xs.reverse))
def rCatG (K : PySem.W.Frag) : R2 := rCatA K
section
variable {X : Cx} {K : PySem.W.Frag} {e st : Expr} {te ts : TE} {pos p2 : Pos}
theorem pe_revT {ops : Value → Value → List Value} (eK : X.K = K) (he : PE X e te) (hs : PE X st ts) (hsub : ∀ o i, subscripted (.Slice none none (some st) p2) false o i = operate (ops o i) (getItem o i) := by intro _ _; with_unfolding_all rfl) : PE X (.Subscript e (.Slice none none (some st) p2) pos) (tRevT K te ts) := by
  subst eK
  refine ⟨fun pins s σ H Q I h => ?_⟩
  refine Subscript_ (thn (he.run pins s σ H _ I h) fun v s1 ⟨x, H1, I1, r1, q1⟩ => ?_)
  refine wpAny_Slice ?_
  rw [evalPart_none]
  refine wpAny_pure (wpAny_pure ?_)
  rw [evalPart_some]
  refine thn (hs.run pins s1 σ H1 _ I1 q1) fun u s2 ⟨y, H2, I2, r2, ey, a, xs, ex, hx, q⟩ => ?_
  subst ey ex
  obtain ⟨tk, rfl⟩ : ∃ t, u = Value.int (-1) t := r2
  obtain rfl : v = Value.ref a := r1
  have I3 : Inv X pins σ H2 { s2 with heap := s2.heap.push { cls := .type "slice", data := .fields #[.none, .none, .int (-1) tk] } } := I2.kept (t' := s2.toks) fun b ob q => Heap.get?_push_of_some _ q
  obtain ⟨its, r, ht, hz⟩ := I3.tuple hx
  refine tail_any ht.typeIs PyProof.Rows.slot_tuple_getitem.lookup ?_ (hsub _ _)
  refine back_tup ht (Heap.IsSliceOf.new ..) (by rw [List.size_toArray, ← r.length]; exact hz) ?_
  have fr := I3.fresh
  refine ⟨.ref _, _, I3.laid (t' := s2.toks) (o := .tup xs.reverse) (fun b ob q => Heap.get?_push_of_some _ q) (Nat.le_refl _) ?_, rfl, q _ ?_⟩
  · exact ⟨by rw [List.length_reverse]; exact hz, _, r.reverse, IsTup.new _ _⟩
  · exact fr
theorem kSlL (eK : X.K = K := by rfl) : SlR X (rSlL K) := eK ▸ sl_list
theorem kSlA (eK : X.K = K := by rfl) : SlR X (rSlA K) := eK ▸ sl_tupA
theorem kCatG (eK : X.K = K := by rfl) : OpR X (binaryOp .Add) (rCatG K) := eK ▸ op_catA
theorem kIsiT (eK : X.K = K := by rfl) : CallR X (.builtin "isinstance") (rIsiT K) := eK ▸ call_isiT
theorem pss_dead {ss : List Stmt} : PSs X ss fun _ _ _ => False := ⟨fun _ _ _ _ _ _ h => h.elim⟩
end
def cutD {α : Type} (xs : List α) (lo hi : Option Int) : List α := (xs.drop (HT.sIx xs.length 0 lo)).take (HT.sIx xs.length xs.length hi - HT.sIx xs.length 0 lo)
theorem cutD_mem {α : Type} {xs : List α} {lo hi : Option Int} : ∀ {z : α}, z ∈ cutD xs lo hi → z ∈ xs := fun m => List.mem_of_mem_drop (List.mem_of_mem_take m)
theorem cutD_len {α : Type} {xs : List α} {lo hi : Option Int} : (cutD xs lo hi).length ≤ xs.length := by
  unfold cutD
  rw [List.length_take, List.length_drop]
  omega
section
variable {K : PySem.W.Frag} {a : Addr} {S : List Addr} {σ : L2.St} {G H : Hp} {ta tb tc te : TE} {tr : TA} {tl th : TO} {lo hi : Option Int} {ds es : List PyData} {i j k : Int} {d : PyData} {ns : List Str} {x : Str}
theorem DA.cut {vs : List V} (h : DA K H vs ds) : DA K H (cutV vs lo hi) (cutD ds lo hi) := by
  unfold cutV cutD
  rw [h.length]
  exact (h.drop _).take _
def EvO (a : Addr) (G : Hp) (tl : TO) (σ : L2.St) (lo : Option Int) : Prop := ∀ S H1, Fr a S H1 → Same G (off S H1) → ∀ R : Option Int → Hp → Prop, (∀ H2, Ext a H1 H2 → R lo H2) → tl σ H1 R
theorem eo_no : EvO a G tNoPart σ none := fun S H1 f s R r => r H1 Ext.refl
theorem eo_at (h : Ev K a G te σ (· = .int i)) : EvO a G (tPart te) σ (some i) := fun S H1 f s R r => h S H1 f s _ fun v d H2 x2 m e => by
  subst e
  cases m
  exact ⟨i, rfl, r H2 x2⟩
theorem ev_slA (h : Ev K a G te σ (· = .tuple ds)) (hl : EvO a G tl σ lo) (hh : EvO a G th σ hi) : Ev K a G (tSl (rSlA K) te tl th) σ (· = .tuple (cutD ds lo hi)) := fun S H1 f s Q q =>
  h S H1 f s _ fun v d H2 x2 m e => hl S H2 (f.ext x2) (f.same x2 s) _ fun H3 x3 => hh S H3 ((f.ext x2).ext x3) (f.same (x2.trans x3) s) _ fun H4 x4 => by
    subst e
    have m := m.mono ((x3.trans x4).off f.mem)
    cases m with
    | @tup t vs _ ht my =>
      have x := (x2.trans x3).trans x4
      refine ⟨t, vs, rfl, sqT_same off_le ht, fun hw => q _ _ H4 x (.tup ht my) ?_, fun hw p hp => q _ _ _ (x.trans (Ext.new hp)) (D.new_tup hp ((f.ext x).out hp) my.cut) rfl⟩
      rw [my.length] at hw
      unfold cutD
      rw [hw.1, hw.2, List.drop_zero, Nat.sub_zero, List.take_length]
theorem ev_slLD (h : Ev K a G te σ (· = .list ds)) (hl : EvO a G tl σ lo) (hh : EvO a G th σ hi) : Ev K a G (tSl (rSlL K) te tl th) σ (· = .list (cutD ds lo hi)) := fun S H1 f s Q q =>
  h S H1 f s _ fun v d H2 x2 m e => hl S H2 (f.ext x2) (f.same x2 s) _ fun H3 x3 => hh S H3 ((f.ext x2).ext x3) (f.same (x2.trans x3) s) _ fun H4 x4 => by
    subst e
    have m := m.mono ((x3.trans x4).off f.mem)
    cases m with
    | @lst t vs _ ht my =>
      have x := (x2.trans x3).trans x4
      exact ⟨t, vs, rfl, SqL.of (off_le _ _ ht), fun p hp => q _ _ _ (x.trans (Ext.new hp)) (D.new_lst hp ((f.ext x).out hp) my.cut) rfl⟩
theorem ev_catG (ha : Ev K a G ta σ (· = .tuple ds)) (hb : Ev K a G tb σ (· = .tuple es)) (h : ds.length + es.length ≤ 1000000) : Ev K a G (tOp (rCatG K) ta tb) σ (· = .tuple (ds ++ es)) := by
  refine ev_op ha hb ?_
  rintro _ _ rfl rfl S H x y f m1 m2 Q q
  cases m1 with
  | @tup t1 vs _ h1 n1 =>
    cases m2 with
    | @tup t2 ws _ h2 n2 =>
      refine ⟨t1, t2, vs, ws, rfl, rfl, sqT_same off_le h1, sqT_same off_le h2, by rw [n1.length, n2.length]; exact Nat.le_trans h (by decide), fun e => ?_, fun _ e => ?_, fun _ _ p hp => ?_⟩
      · subst e
        cases n1
        exact q _ _ H Ext.refl (.tup h2 n2) rfl
      · subst e
        cases n2
        exact q _ _ H Ext.refl (.tup h1 n1) (by rw [List.append_nil])
      · exact q _ _ _ (Ext.new hp) (D.new_tup hp (f.out hp) (n1.append n2)) rfl
theorem ev_revT (h : Ev K a G te σ (· = .tuple ds)) (hb : Ev K a G tb σ (· = .int (-1))) : Ev K a G (tRevT K te tb) σ (· = .tuple ds.reverse) := fun S H1 f s Q q =>
  h S H1 f s _ fun v d H2 x2 m e => hb S H2 (f.ext x2) (f.same x2 s) _ fun y dy H3 x3 my e' => by
    subst e e'
    cases my
    have m := m.mono (x3.off f.mem)
    cases m with
    | @tup t vs _ ht mv =>
      exact ⟨rfl, t, vs, rfl, sqT_same off_le ht, fun p hp => q _ _ _ ((x2.trans x3).trans (Ext.new hp)) (D.new_tup hp ((f.ext (x2.trans x3)).out hp) mv.rev) rfl⟩
theorem DA.rep {vs : List V} (h : DA K H vs ds) : ∀ n : Nat, DA K H (List.replicate n vs).flatten (List.replicate n ds).flatten
  | 0 => .nil
  | n + 1 => by
    rw [List.replicate_succ, List.replicate_succ, List.flatten_cons, List.flatten_cons]
    exact h.append (DA.rep h n)
theorem ev_repL (ha : Ev K a G ta σ (· = .list ds)) (hb : Ev K a G tb σ (· = .int k)) (h0 : 0 ≤ k) (h1 : k ≤ 1000) (hl : ds.length ≤ 1000) : Ev K a G (tOp rMulA ta tb) σ (· = .list (List.replicate k.toNat ds).flatten) := by
  refine ev_op ha hb ?_
  rintro _ _ rfl rfl
  refine R2D.inr (R2D.inr fun S H x y f m1 m2 Q q => ?_)
  cases m2
  cases m1 with
  | @lst t vs _ ht mv =>
    refine ⟨t, k, vs, rfl, rfl, off_le _ _ ht, by omega, by omega, ?_, fun p hp => q _ _ _ (Ext.new hp) (D.new_lst hp (f.out hp) (mv.rep _)) rfl⟩
    rw [mv.length]
    refine Nat.le_trans (Nat.mul_le_mul hl (show k.toNat ≤ 1000 by omega)) (by decide)
/-! chains of ints -/
theorem et_chainE {g g' : Int → Int → Bool} (ha : Ev K a G ta σ (· = .int i)) (hb : Ev K a G tb σ (· = .int j)) (hc : Ev K a G tc σ (· = .int k)) :
    EvT a G (tTest (tChain (rI0 fun i j => .bl (g i j)) (rI0 fun i j => .bl (g' i j)) ta tb tc)) σ (· = (g i j && g' j k)) :=
  et_chainI (cA := (· = i)) (cB := (· = j)) (cC := (· = k)) (ev_isI ha rfl) (ev_isI hb rfl) (ev_isI hc rfl) (by rintro _ _ _ rfl rfl rfl; rfl) (by
    rintro _ _ rfl rfl h
    rw [h]
    rfl)
theorem ev_chainE {g g' : Int → Int → Bool} (ha : Ev K a G ta σ (· = .int i)) (hb : Ev K a G tb σ (· = .int j)) (hc : Ev K a G tc σ (· = .int k)) :
    Ev K a G (tChain (rI0 fun i j => .bl (g i j)) (rI0 fun i j => .bl (g' i j)) ta tb tc) σ (· = .bool (g i j && g' j k)) := fun S H1 f s Q q =>
  ha S H1 f s _ fun v d H2 x2 m c => hb S H2 (f.ext x2) (f.same x2 s) _ fun w e H3 x3 m3 c3 => by
    subst c c3
    cases m
    cases m3
    refine ⟨i, j, rfl, rfl, g i j, rfl, ?_⟩
    cases hg : g i j with
    | false => exact q _ _ H3 (x2.trans x3) (.bl _) (by rw [hg]; rfl)
    | true =>
      refine hc S H3 ((f.ext x2).ext x3) (f.same (x2.trans x3) s) _ fun z g2 H4 x4 m4 c4 => ?_
      subst c4
      cases m4
      exact ⟨j, k, rfl, rfl, q _ _ H4 ((x2.trans x3).trans x4) (.bl _) (by rw [hg, Bool.true_and])⟩
/-! words in lists of words -/
theorem DA.strV {vs : List V} (h : DA K H vs (ns.map .str)) : vs = ns.map V.str := by
  induction ns generalizing vs with
  | nil =>
    cases h
    rfl
  | cons n ns ih =>
    cases h with
    | cons h1 h2 =>
      cases h1
      rw [ih h2]
      rfl
theorem inV_str : ∀ ns : List Str, inV (.str x) (ns.map V.str) = decide (x ∈ ns)
  | [] => rfl
  | n :: ns => by
    show (eqV (.str n) (.str x) || inV (.str x) (ns.map V.str)) = _
    rw [inV_str ns]
    show ((n == x) || _) = _
    by_cases h : n = x
    · subst h
      simp
    · rw [beq_eq_false_iff_ne.mpr h, Bool.false_or]
      congr 1
      apply propext
      constructor
      · exact fun m => List.mem_cons_of_mem _ m
      · intro m
        rcases List.mem_cons.mp m with e | m
        · exact absurd e.symm h
        · exact m
theorem flat_strs (ns : List Str) : (ns.map V.str).all flatV = true := by
  rw [List.all_eq_true]
  intro v m
  obtain ⟨n, _, rfl⟩ := List.mem_map.mp m
  rfl
theorem ev_inS (ha : Ev K a G ta σ (· = .str x)) (hb : Ev K a G tb σ (· = .list (ns.map .str))) : Ev K a G (tOp (rInA K) ta tb) σ (· = .bool (decide (x ∈ ns))) := by
  refine ev_op ha hb ?_
  rintro _ _ rfl rfl
  refine R2D.inr fun S H v y f m1 m2 Q q => ?_
  cases m1
  cases m2 with
  | @lst t vs _ ht mv =>
    obtain rfl := mv.strV
    refine ⟨t, _, rfl, .inl (SqL.of (off_le _ _ ht)), rfl, flat_strs ns, ?_⟩
    rw [inV_str]
    exact q _ _ H Ext.refl (.bl _) rfl
theorem ev_notInS (ha : Ev K a G ta σ (· = .str x)) (hb : Ev K a G tb σ (· = .list (ns.map .str))) : Ev K a G (tOp (rNotInA K) ta tb) σ (· = .bool (!decide (x ∈ ns))) := by
  refine ev_op ha hb ?_
  rintro _ _ rfl rfl
  refine R2D.inr fun S H v y f m1 m2 Q q => ?_
  cases m1
  cases m2 with
  | @lst t vs _ ht mv =>
    obtain rfl := mv.strV
    refine ⟨t, _, rfl, .inl (SqL.of (off_le _ _ ht)), rfl, flat_strs ns, ?_⟩
    rw [inV_str]
    exact q _ _ H Ext.refl (.bl _) rfl
/-! lists of words are equal -/
theorem eqv_strs : ∀ ns ms : List Str, PyData.eqv (.list (ns.map .str)) (.list (ms.map .str)) = decide (ns = ms)
  | [], [] => by simp [PyData.eqv, PyData.eqvAll]
  | [], _ :: _ => by simp [PyData.eqv, PyData.eqvAll]
  | _ :: _, [] => by simp [PyData.eqv, PyData.eqvAll]
  | n :: ns, m :: ms => by
    have h := eqv_strs ns ms
    simp only [PyData.eqv, List.map_cons, PyData.eqvAll] at h ⊢
    rw [h]
    by_cases e : n = m
    · subst e
      simp
    · rw [beq_eq_false_iff_ne.mpr e, Bool.false_and]
      symm
      rw [decide_eq_false_iff_not]
      intro z
      injection z with z
      exact e z
theorem names_eqOk (h : ∀ n ∈ ns, isNameD (.str n) = true) : EqOk (.list (ns.map .str)) := by
  have small : ∀ c ∈ abc.cps.toList, c < 0x110000 := by decide +kernel
  have nd : ∀ ms : List Str, noDictAll (ms.map .str) = true := fun ms => by
    induction ms with
    | nil => rfl
    | cons m ms ih => simp only [List.map_cons, noDictAll, noDict, Bool.true_and, ih]
  have cl : ∀ ms : List Str, (∀ m ∈ ms, isNameD (.str m) = true) → PyData.canLayAll0 (ms.map .str) = true := fun ms => by
    induction ms with
    | nil => exact fun _ => by simp [PyData.canLayAll0]
    | cons m ms ih =>
      intro hm
      have h1 := hm m (by simp)
      rw [isName_str, Bool.and_eq_true, List.all_eq_true] at h1
      have h2 : PyData.strOk m = true := by
        unfold PyData.strOk
        rw [← Array.all_toList, List.all_eq_true]
        intro c mc
        exact decide_eq_true (small c (of_decide_eq_true (h1.2 c mc)))
      simp only [List.map_cons, PyData.canLayAll0, PyData.canLay0, h2, ih fun z mz => hm z (List.mem_cons_of_mem _ mz), Bool.and_self]
  have dp : ∀ ms : List Str, PyData.depthAll (ms.map .str) ≤ 1 := fun ms => by
    induction ms with
    | nil => simp [PyData.depthAll]
    | cons m ms ih =>
      simp only [List.map_cons, PyData.depthAll, PyData.depth]
      omega
  refine ⟨by simpa [noDict] using nd ns, ?_⟩
  unfold SeqAt.shaped
  rw [Bool.and_eq_true]
  refine ⟨by simpa [PyData.canLay0] using cl ns h, decide_eq_true ?_⟩
  simp only [PyData.depth]
  have := dp ns
  omega
end
end LK
set_option Elab.async false
set_option linter.all false
set_option maxRecDepth 100000
set_option maxHeartbeats 1000000
/-! LK26: expressions whose value is a sheet; sheets made and compared -/
namespace LK
open PySem PySem.Spec L2
open PyProof.Rows hiding St
/-- the reading comes to a sheet -/
def EvS (C : Addr) (a : Addr) (G : Hp) (te : TE) (σ : L2.St) (Cn : List Str → Prop) : Prop :=
  ∀ S H1, Fr a S H1 → Same G (off S H1) → ∀ Q : VK, (∀ p ns H2, Ext a H1 H2 → ShAt C (off S H2) p ns → Cn ns → Q (.ref p) H2) → te σ H1 Q
/-- Sheet.__init__ -/
def spInit (K : PySem.W.Frag) (C : Addr) : Sp := fun vs H Q _ => ∃ (a : Addr) (S : List Addr) (H0 : Hp) (x dx : Addr) (v : V) (ns : List Str),
  vs = [.ref x, v] ∧ H = upd (upd H0 dx (.own x)) x (.ins C dx []) ∧ H0 x = none ∧ H0 dx = none ∧ dx ≠ x ∧ Fr a S H0 ∧ D K (off S H0) v (.list (ns.map .str)) ∧ NamesOk ns ∧ ∀ H', Ext a H0 H' → ShAt C (off S H') x ns → Q .non H'
/-- Sheet.__eq__, both sheets -/
def spEq (K : PySem.W.Frag) (C : Addr) : Sp := fun vs H Q _ => ∃ (a : Addr) (S : List Addr) (p q : Addr) (ns ms : List Str),
  vs = [.ref p, .ref q] ∧ Fr a S H ∧ ShAt C (off S H) p ns ∧ ShAt C (off S H) q ms ∧ NamesOk ns ∧ NamesOk ms ∧ ∀ H', Ext a H H' → Q (.bl (decide (ns = ms))) H'
section
variable {K : PySem.W.Frag} {a : Addr} {S : List Addr} {σ : L2.St} {G H : Hp} {ta tb te : TE} {tr : TA} {C p : Addr} {ns ms : List Str} {Cn Cm : List Str → Prop} {Dn : Ends} {E : L2.St → XK}
theorem evs_var {i : Nat} (hi : σ[i]? = some (some (.ref p))) (h : ShAt C G p ns) : EvS C a G (tVar i) σ (· = ns) := fun S H1 f s Q q => ⟨.ref p, hi, q p ns H1 Ext.refl (h.mono s) rfl⟩
theorem evs_make (h : Ev K a G te σ (fun d => ∃ ns : List Str, d = .list (ns.map .str) ∧ NamesOk ns ∧ Cn ns)) : EvS C a G (tMakeX C (spInit K C) [] E (tCons te tNil)) σ Cn := fun S H1 f s Q q =>
  h S H1 f s _ fun v d H2 x2 m ⟨ns, e, ok, cn⟩ x dx nx nd ne => by
    subst e
    exact ⟨a, S, H2, x, dx, v, ns, rfl, rfl, nx, nd, ne, f.ext x2, m, ok, fun H' x' sh => ⟨rfl, q x ns H' (x2.trans x') sh cn⟩⟩
theorem EvS.at {G' : Hp} (h : EvS C a G te σ Cn) (e : Same G G') : EvS C a G' te σ Cn := fun S H1 f s => h S H1 f (e.trans s)
theorem EvS.imp (h : EvS C a G te σ Cn) (i : ∀ ns, Cn ns → Cm ns) : EvS C a G te σ Cm := fun S H1 f s Q q => h S H1 f s Q fun p ns H2 x2 sh c => q p ns H2 x2 sh (i ns c)
theorem q_setS {i : Nat} (h : EvS C a G te σ Cn) (f : Fr a S H) (s : Same G (off S H)) (q : ∀ p ns H', Ext a H H' → Fr a S H' → ShAt C (off S H') p ns → Cn ns → Dn.nx (σ.set i (some (.ref p))) H') : tAsg te (gName i) Dn σ H :=
  h S H f s _ fun p ns H2 x2 sh c => q p ns H2 x2 (f.ext x2) sh c
theorem q_parS {i j : Nat} (ha : EvS C a G ta σ Cn) (hb : EvS C a G tb σ Cm) (f : Fr a S H) (s : Same G (off S H))
    (q : ∀ p p' ns ms H', Ext a H H' → Fr a S H' → ShAt C (off S H') p ns → ShAt C (off S H') p' ms → Cn ns → Cm ms → Dn.nx ((σ.set i (some (.ref p))).set j (some (.ref p'))) H') : tPar i j (tCons ta (tCons tb tNil)) Dn σ H :=
  ha S H f s _ fun p ns H2 x2 sh c => hb S H2 (f.ext x2) (f.same x2 s) _ fun p' ms H3 x3 sh' c' => ⟨_, _, rfl, q p p' ns ms H3 (x2.trans x3) (f.ext (x2.trans x3)) (sh.mono (x3.off f.mem)) sh' c c'⟩
theorem ev_ownEq (ha : EvS C a G ta σ (fun z => z = ns ∧ NamesOk z)) (hb : EvS C a G tb σ (fun z => z = ms ∧ NamesOk z)) : Ev K a G (tOp (rOwnEq C (spEq K C)) ta tb) σ (· = .bool (decide (ns = ms))) := fun S H1 f s Q q =>
  ha S H1 f s _ fun p ns' H2 x2 sh ⟨e, ok⟩ => hb S H2 (f.ext x2) (f.same x2 s) _ fun p' ms' H3 x3 sh' ⟨e', ok'⟩ => by
    subst e e'
    have sh := sh.mono (x3.off f.mem)
    obtain ⟨dx, pl, pd, h1, _, _⟩ := id sh
    obtain ⟨dy, ql, qd, g1, _, _⟩ := id sh'
    refine ⟨p, dx, _, p', dy, _, rfl, rfl, (off_some h1).2, (off_some g1).2, a, S, p, p', _, _, rfl, f.ext (x2.trans x3), sh, sh', ok, ok', fun H' x' => q _ _ H' ((x2.trans x3).trans x') (.bl _) rfl⟩
/-- isinstance(x, Sheet), x a sheet -/
structure ClsIs (K : PySem.W.Frag) (C : Addr) : Prop where
  cl : L2.Cls K C
  ha : PySem.W.findIn K (.ref C) "__class__" = some (some (.builtin "object.__class__"))
  hn : PySem.W.specialIn K (.builtin "object.__class__") "__get__" = some (some (.builtin "getset_descriptor.__get__"))
  ht : PySem.W.takesIn K (.builtin "object.__class__") = some true
  hm : PySem.W.mroIn K C (.type "object") = some true
  hk : PySem.W.kitOne K (.ref C) (.ref C) = some true
theorem ev_isOwn {i : Nat} (hi : σ[i]? = some (some (.ref p))) (c : ClsIs K C) (h : ShAt C G p ns) : Ev K a G (tCB (rIsi K) (tCons (tVar i) (tCons (tC (.ref C)) tNil))) σ (· = .bool true) := fun S H1 f s Q q => by
  obtain ⟨dx, pl, pd, h1, h2, h3⟩ := h.mono s
  exact ⟨.ref p, hi, .ref p, .ref C, .ref C, .ref C, true, rfl, .own C, .base (.ins (off_some h1).2 c.cl c.ha c.hn c.ht c.hm), c.hk, q _ _ H1 Ext.refl (.bl _) rfl⟩
/-- self.f, self in slot i, of another sheet too -/
theorem ev_ownF' {i : Nat} (hi : σ[i]? = some (some (.ref p))) (c : ClsIs K C) (n : NoAttr K C "own_fields") (h : ShAt C G p ns) : Ev K a G (tFld K (tVar i) "own_fields") σ (· = .list (ns.map .str)) := ev_ownF hi c.cl n h
end
end LK
set_option Elab.async false
set_option linter.all false
set_option maxRecDepth 100000
set_option maxHeartbeats 1000000
/-! LK27: levels, settings by data; items of tame data -/
namespace LK
open PySem PySem.Spec L2
open PyProof.Rows hiding St
def isLevelD : PyData → Bool
  | .int i => decide (0 ≤ i) && decide (i ≤ 2)
  | _ => false
def hasD (ns : List Str) : PyData → Bool
  | .str x => decide (x ∈ ns)
  | _ => false
def isSettingD (ns : List Str) : PyData → Bool
  | .tuple [l, t, r, f, w] => isLevelD l && ((match t with | .int i => decide (1 ≤ i) | _ => false) && (isNameD r && (hasD ns f && isRatD w)))
  | _ => false
theorem isSetting_no {ns : List Str} {d : PyData} (h : tupD d = false) : isSettingD ns d = false := by
  cases d <;> first | rfl | cases h
theorem isSetting_len {ns : List Str} {ds : List PyData} (h : ds.length ≠ 5) : isSettingD ns (.tuple ds) = false := by
  rcases ds with _ | ⟨_, _ | ⟨_, _ | ⟨_, _ | ⟨_, _ | ⟨_, _ | ⟨_, _⟩⟩⟩⟩⟩⟩ <;> first | rfl | exact absurd rfl h
theorem tame_all {ds : List PyData} : PyData.showableAll ds = true → PyData.leavesShortAll 2000 ds = true → ∀ d ∈ ds, d.showable = true ∧ d.leavesShort 2000 = true ∧ d.bulk ≤ PyData.bulkAll ds ∧ d.depth ≤ PyData.depthAll ds := by
  induction ds with
  | nil => exact fun _ _ d m => nomatch m
  | cons x xs ih =>
    intro h1 h2 d m
    simp only [PyData.showableAll, PyData.leavesShortAll, Bool.and_eq_true] at h1 h2
    simp only [PyData.bulkAll, PyData.depthAll]
    rcases List.mem_cons.mp m with rfl | m
    · exact ⟨h1.1, h2.1, by omega, by omega⟩
    · obtain ⟨a1, a2, a3, a4⟩ := ih h1.2 h2.2 d m
      exact ⟨a1, a2, by omega, by omega⟩
theorem Tame.tupItem {ds : List PyData} (h : Tame (.tuple ds)) : ∀ d ∈ ds, Tame d := fun d m => by
  obtain ⟨a1, a2, a3, a4⟩ := tame_all (by simpa [PyData.showable] using h.sh) (by simpa [PyData.leavesShort] using h.lv) d m
  have h3 := h.bk
  have h4 := h.dp
  simp only [PyData.bulk] at h3
  simp only [PyData.depth] at h4
  exact ⟨a1, a2, by omega, by omega⟩
theorem Tame.tupLen {ds : List PyData} (h : Tame (.tuple ds)) : ds.length ≤ 8000 := by
  have h1 := h.bk
  simp only [PyData.bulk] at h1
  have h2 : ∀ l : List PyData, l.length ≤ PyData.bulkAll l := by
    intro l
    induction l with
    | nil => simp
    | cons z l ih =>
      simp only [PyData.bulkAll, List.length_cons]
      omega
  exact Nat.le_trans (h2 ds) h1
section
variable {K : PySem.W.Frag} {a : Addr} {S : List Addr} {σ : L2.St} {G H : Hp} {ta tb tc te : TE} {tr : TA} {d : PyData} {C p : Addr} {ns : List Str} {v : V} {x : Str}
theorem ev_isStrE (h : Ev K a G te σ (· = d)) : Ev K a G (tCB (rIsi K) (tCons te (tCons (tC (.ty "str")) tNil))) σ (· = .bool (isStrD d)) :=
  (ev_isiE h (n := "str") (by rw [kit_str]; rfl)).imp fun _ z => by rw [z]; unfold isTy; rw [kit_str]; rfl
theorem ev_isTupE (h : Ev K a G te σ (· = d)) : Ev K a G (tCB (rIsi K) (tCons te (tCons (tC (.ty "tuple")) tNil))) σ (· = .bool (tupD d)) :=
  (ev_isiE h (n := "tuple") (by rw [kit_tup]; rfl)).imp fun _ z => by rw [z]; unfold isTy; rw [kit_tup]; rfl
theorem str_of {d : PyData} (h : isStrD d = true) : ∃ x, d = .str x := by
  cases d <;> first | exact ⟨_, rfl⟩ | cases h
/-- a constant of the class -/
theorem ev_cval {mc : Value} {f : Str} {w : V} {d : PyData} (r : ClX.CRead K C mc) (k : ∃ u, ClX.CVal K C mc f w u) (m : D K (fun _ => none) w d) : Ev K a G (ClX.tCVal K (tC (.ref C)) f) σ (· = d) := fun S H1 fr s Q q => by
  obtain ⟨u, k⟩ := k
  exact ⟨C, mc, w, u, rfl, r, k, q w d H1 Ext.refl (m.mono fun b o e => nomatch e) rfl⟩
/-- all([letter in abc for letter in x]) -/
theorem ev_allAbc (e1 : Ev K a G (tVar 0) [some v, none] (· = .str x)) (hl : x.length ≤ 10000) :
    Ev K a G (tCB (rAll K) (tCons (tLc (iStr (tVar 0)) (gName 1) tYes (tOp (rInA K) (tVar 1) (tC (.str abc))) [1]) tNil)) [some v, none] (· = .bool (x.cps.toList.all fun c => decide (c ∈ abc.cps.toList))) := by
  refine Ev.imp (ev_all (B := (· = x.cps.toList.all fun c => decide (c ∈ abc.cps.toList))) (ev_lcS (Y := fun i z => ∃ c, x.cps[i]? = some c ∧ z = .bool (decide (c ∈ abc.cps.toList))) e1 (by omega) (fun _ => rfl) ?_) ?_) ?_
  · intro i c hc
    refine (ev_inSgn (P := (· = c)) (B := (· = decide (c ∈ abc.cps.toList))) (ev_var rfl (.str _) |>.imp ?_) ev_s ?_).imp ?_
    · rintro _ rfl
      exact ⟨c, rfl, rfl⟩
    · rintro _ rfl
      rfl
    · rintro _ ⟨b, rfl, rfl⟩
      exact ⟨c, hc, rfl⟩
  · rintro _ ⟨ds, rfl, hl, hY⟩
    refine ⟨x.cps.toList.map fun c => decide (c ∈ abc.cps.toList), ?_, ?_⟩
    · congr 1
      apply List.ext_getElem?
      intro i
      rw [List.getElem?_map, List.getElem?_map]
      by_cases hi : i < x.length
      · obtain ⟨c, hc, hz⟩ := hY i ds[i] (by simp [hl, hi])
        have hc' : x.cps.toList[i]? = some c := by simpa using hc
        rw [hc', List.getElem?_eq_getElem (by omega), hz]
        rfl
      · rw [List.getElem?_eq_none (by omega), List.getElem?_eq_none (by simp; exact Nat.le_of_not_lt hi)]
        rfl
    · show _ = _
      rw [List.all_map]
      rfl
  · rintro _ ⟨b, rfl, rfl⟩
    rfl
theorem pg_tupK {X : Cx} {K : PySem.W.Frag} {es : List Expr} {k n : Nat} {t : TGs} {pos : Pos} (eK : X.K = K) (hc : X.calm = true) (h : PGs X es t) (hn : (assignEach es X.env).length = n := by rfl) (hst : (assignEach es X.env).findIdx? (·.1) = none := by rfl) : PG X (.Tuple es k pos) (gTup K n t) := eK ▸ pg_tup hc h hn hst
theorem lt1 {n : Nat} (h : n + 64 < cLine) : n + 1 < cLine := by omega
def preFl (ds : List PyData) : Prop := ∃ ns : List Str, ds = [.list (ns.map .str)] ∧ NamesOk ns
abbrev FNm (P : Program) (w : World) (K : PySem.W.Frag) (mg : Str → Option Value) (base : Heap) : Prop := Df P w K mg base CX0 1 "is_name" ["value"] (spG K preT (post1 fun d => .bool (isNameD d)))
abbrev FLv (P : Program) (w : World) (K : PySem.W.Frag) (mg : Str → Option Value) (base : Heap) : Prop := Df1 P w K mg base 2 "is_level" "value" fun d => .bool (isLevelD d)
abbrev FCf (P : Program) (w : World) (K : PySem.W.Frag) (mg : Str → Option Value) (base : Heap) : Prop := Df P w K mg base CX0 3 "check_fields" ["fields"] (spG K preFl fun _ r => r = .none)
abbrev MHf (P : Program) (w : World) (K : PySem.W.Frag) (mg : Str → Option Value) (base : Heap) (C : Addr) : Prop := MtG P w K mg base CX0 1 C "has_field" ["self", "value"] [] (spM K C (fun _ ds => pre1 ds) fun ns => post1 fun d => .bool (hasD ns d))
abbrev MFi (P : Program) (w : World) (K : PySem.W.Frag) (mg : Str → Option Value) (base : Heap) (C : Addr) : Prop := MtG P w K mg base CX0 1 C "fields" ["self"] [] (spM K C (fun _ ds => ds = []) fun ns _ r => r = .list (ns.map .str))
abbrev MEq (P : Program) (w : World) (K : PySem.W.Frag) (mg : Str → Option Value) (base : Heap) (C : Addr) : Prop := MtG P w K mg base CX0 1 C "__eq__" ["self", "other"] [] (spEq K C)
abbrev MMk (P : Program) (w : World) (K : PySem.W.Frag) (mg : Str → Option Value) (base : Heap) (C : Addr) : Prop := MkG P w K mg base CX0 4 "Sheet" C ["self", "fields"] [] (spInit K C)
/-- the first ones of a list -/
theorem cutD_take {α : Type} (xs : List α) {i : Nat} (h : i ≤ xs.length) : cutD xs none (some (i : Nat)) = xs.take i := by
  unfold cutD
  have e1 : HT.sIx xs.length 0 none = 0 := rfl
  have e2 : HT.sIx xs.length xs.length (some (i : Nat)) = i := by
    rw [HT.sIx_nat]
    omega
  rw [e1, e2]
  rfl
end
end LK
set_option Elab.async false
set_option linter.all false
set_option maxRecDepth 100000
set_option maxHeartbeats 1000000
/-! LK28: tuples of four and five unpacked; a field asked of a sheet -/
namespace LK
open PySem PySem.Spec L2
open PyProof.Rows hiding St
section
variable {K : PySem.W.Frag} {a : Addr} {S : List Addr} {σ : L2.St} {G H : Hp} {ta tb tc te : TE} {tr : TA} {d d1 d2 d3 d4 d5 : PyData} {C p : Addr} {ns : List Str} {v : V} {x : Str} {Dn : Ends} {E : L2.St → XK} {E' : XK}
theorem DA.four {vs : List V} (h : DA K H vs [d1, d2, d3, d4]) : ∃ v1 v2 v3 v4, vs = [v1, v2, v3, v4] ∧ D K H v1 d1 ∧ D K H v2 d2 ∧ D K H v3 d3 ∧ D K H v4 d4 := by
  cases h with
  | cons h1 h =>
    cases h with
    | cons h2 h =>
      obtain ⟨v3, v4, rfl, h3, h4⟩ := DA.two h
      exact ⟨_, _, v3, v4, rfl, h1, h2, h3, h4⟩
theorem DA.five {vs : List V} (h : DA K H vs [d1, d2, d3, d4, d5]) : ∃ v1 v2 v3 v4 v5, vs = [v1, v2, v3, v4, v5] ∧ D K H v1 d1 ∧ D K H v2 d2 ∧ D K H v3 d3 ∧ D K H v4 d4 ∧ D K H v5 d5 := by
  cases h with
  | cons h1 h =>
    obtain ⟨v2, v3, v4, v5, rfl, h2, h3, h4, h5⟩ := DA.four h
    exact ⟨_, v2, v3, v4, v5, rfl, h1, h2, h3, h4, h5⟩
/-- w, x, y, z = .. -/
theorem q_unpack4 {i j k l : Nat} {P : PyData → PyData → PyData → PyData → Prop} (h : Ev K a G te σ (fun d => ∃ d1 d2 d3 d4, d = .tuple [d1, d2, d3, d4] ∧ P d1 d2 d3 d4)) (f : Fr a S H) (s : Same G (off S H))
    (q : ∀ v1 v2 v3 v4 d1 d2 d3 d4 H', Ext a H H' → Fr a S H' → D K (off S H') v1 d1 → D K (off S H') v2 d2 → D K (off S H') v3 d3 → D K (off S H') v4 d4 → P d1 d2 d3 d4 → Dn.nx ((((σ.set i (some v1)).set j (some v2)).set k (some v3)).set l (some v4)) H') :
    tAsg te (gTup K 4 (gCons (gName i) (gCons (gName j) (gCons (gName k) (gCons (gName l) gNil))))) Dn σ H :=
  h S H f s _ fun v d H2 x2 m ⟨d1, d2, d3, d4, e, c⟩ => by
    subst e
    cases m with
    | tup ht my =>
      obtain ⟨v1, v2, v3, v4, rfl, h1, h2, h3, h4⟩ := DA.four my
      exact ⟨_, _, rfl, sqT_same off_le ht, rfl, _, _, rfl, _, _, rfl, _, _, rfl, _, _, rfl, rfl, q v1 v2 v3 v4 d1 d2 d3 d4 H2 x2 (f.ext x2) h1 h2 h3 h4 c⟩
theorem q_unpack5 {i j k l o : Nat} (h : Ev K a G te σ (· = .tuple [d1, d2, d3, d4, d5])) (f : Fr a S H) (s : Same G (off S H))
    (q : ∀ v1 v2 v3 v4 v5 H', Ext a H H' → Fr a S H' → D K (off S H') v1 d1 → D K (off S H') v2 d2 → D K (off S H') v3 d3 → D K (off S H') v4 d4 → D K (off S H') v5 d5 → Dn.nx (((((σ.set i (some v1)).set j (some v2)).set k (some v3)).set l (some v4)).set o (some v5)) H') :
    tAsg te (gTup K 5 (gCons (gName i) (gCons (gName j) (gCons (gName k) (gCons (gName l) (gCons (gName o) gNil)))))) Dn σ H :=
  h S H f s _ fun v d H2 x2 m e => by
    subst e
    cases m with
    | tup ht my =>
      obtain ⟨v1, v2, v3, v4, v5, rfl, h1, h2, h3, h4, h5⟩ := DA.five my
      exact ⟨_, _, rfl, sqT_same off_le ht, rfl, _, _, rfl, _, _, rfl, _, _, rfl, _, _, rfl, _, _, rfl, rfl, q v1 v2 v3 v4 v5 H2 x2 (f.ext x2) h1 h2 h3 h4 h5⟩
theorem ev_hasF {i : Nat} (hi : σ[i]? = some (some (.ref p))) (h : ShAt C G p ns) (hr : Ev K a G te σ (· = d)) : Ev K a G (tMethX C "has_field" (spM K C (fun _ ds => pre1 ds) fun ns => post1 fun d => .bool (hasD ns d)) [] E (tVar i) (tCons te tNil)) σ (· = .bool (hasD ns d)) :=
  ev_meth hi h (ea_eq hr ea_nil) (fun _ e => ⟨d, e⟩) fun ds r e z => by
    obtain ⟨d', e', z⟩ := z
    rw [e] at e'
    injection e' with e'
    rw [z, e']
theorem ev_fieldsF {i : Nat} (hi : σ[i]? = some (some (.ref p))) (h : ShAt C G p ns) : Ev K a G (tMethX C "fields" (spM K C (fun _ ds => ds = []) fun ns _ r => r = .list (ns.map .str)) [] E (tVar i) tNil) σ (· = .list (ns.map .str)) :=
  ev_meth hi h ea_nil (fun _ e => e) fun ds r e z => z
/-- f(sheet, value) -/
theorem ev_callMT {i : Nat} {fn : List Str → PyData → PyData} (hi : σ[i]? = some (some (.ref p))) (h : ShAt C G p ns) (hr : Ev K a G te σ (· = d)) (t : Tame d) : Ev K a G (tCall (spM K C (fun _ => preT) fun ns => post1 (fn ns)) [] E' (tCons (tVar i) (tCons te tNil))) σ (· = fn ns d) :=
  ev_callM hi h (ea_eq hr ea_nil) (fun _ e => ⟨d, e, t⟩) fun ds r e z => by
    obtain ⟨d', e', z⟩ := z
    rw [e] at e'
    injection e' with e'
    rw [z, e']
/-- f(value=.., sheet=..) -/
theorem ev_kwMT {i : Nat} {fn : List Str → PyData → PyData} (hi : σ[i]? = some (some (.ref p))) (h : ShAt C G p ns) (hr : Ev K a G te σ (· = d)) (t : Tame d) : Ev K a G (tCallK0 2 (spM K C (fun _ => preT) fun ns => post1 (fn ns)) revL E' (tCons te (tCons (tVar i) tNil))) σ (· = fn ns d) := fun S H1 f s Q q =>
  hr S H1 f s _ fun v d' H2 x2 m e => by
    subst e
    refine ⟨.ref p, hi, rfl, a, S, p, ns, [v], [d'], rfl, f.ext x2, h.mono (f.same x2 s), .cons m .nil, ⟨_, rfl, t⟩, fun w r H3 x3 m3 z => ?_⟩
    obtain ⟨d2, e2, z⟩ := z
    injection e2 with e2
    exact q w r H3 (x2.trans x3) m3 (by rw [z, e2])
end
section
open L2
abbrev FWh (P : Program) (w : World) (K : PySem.W.Frag) (mg : Str → Option Value) (base : Heap) : Prop := Df1 P w K mg base 1 "_law_is_whole" "_law_thing" fun d => .bool (isIntD d)
abbrev FWd (P : Program) (w : World) (K : PySem.W.Frag) (mg : Str → Option Value) (base : Heap) : Prop := Df P w K mg base CX0 1 "_law_is_word" ["_law_thing"] (spG K preT (post1 fun d => .bool (isNameD d)))
abbrev FRt (P : Program) (w : World) (K : PySem.W.Frag) (mg : Str → Option Value) (base : Heap) : Prop := Df P w K mg base CX0 2 "_law_is_ratio" ["_law_thing"] (spG K preT (post1 fun d => .bool (isRatD d)))
abbrev FSt (P : Program) (w : World) (K : PySem.W.Frag) (mg : Str → Option Value) (base : Heap) (C : Addr) : Prop := Df P w K mg base CX0 3 "is_setting" ["sheet", "value"] (spM K C (fun _ => preT) fun ns => post1 fun d => .bool (isSettingD ns d))
def preTd (ds : List PyData) : Prop := ∃ (ns : List Str) (d : PyData), ds = [.list (ns.map .str), d] ∧ Tame d
def postTd (ds : List PyData) (r : PyData) : Prop := ∃ (ns : List Str) (d : PyData), ds = [.list (ns.map .str), d] ∧ r = .bool (isSettingD ns d)
abbrev FTd (P : Program) (w : World) (K : PySem.W.Frag) (mg : Str → Option Value) (base : Heap) : Prop := Df P w K mg base CX0 3 "_law_is_told" ["_law_labels", "_law_thing"] (spG K preTd postTd)
end
theorem strs_inj {ns ms : List Str} (h : ns.map PyData.str = ms.map PyData.str) : ns = ms := List.map_inj_right (fun _ _ e => by injection e) |>.mp h
end LK
set_option Elab.async false
set_option linter.all false
set_option maxRecDepth 100000
set_option maxHeartbeats 1000000
/-! LK29: for over drawn data; words drawn -/
namespace LK
open PySem PySem.Spec L2
open PyProof.Rows hiding St
section
variable {K : PySem.W.Frag} {a : Addr} {S : List Addr} {σ : L2.St} {G H : Hp} {ta tb tc te : TE} {tr : TA} {Dn : Ends}
/-- for over a list or tuple of drawn data -/
theorem q_forD {g : TG} {tb : TS} {P : List PyData → Prop} (h : Ev K a G te σ (fun d => ∃ es, (d = .list es ∨ d = .tuple es) ∧ P es)) (f : Fr a S H) (s : Same G (off S H)) (T : List Addr)
    (q : ∀ es H2, P es → Ext a H H2 → Fr a S H2 → ∃ Pv : Nat → L2.St → Hp → Prop, Pv 0 σ H2 ∧ (∀ i σ' H', Pv i σ' H' → Fr a T H' ∧ Same (off S H2) (off T H')) ∧
      (∀ i x d σ' H' H'', i < es.length → Pv i σ' H' → Ext a H' H'' → D K (off T H'') x d → es[i]? = some d → g x σ' H'' fun σ2 H2 => tb { Dn with nx := Pv (i + 1), ct := Pv (i + 1), bk := Dn.nx } σ2 H2) ∧ ∀ σ' H', Pv es.length σ' H' → Dn.nx σ' H') :
    tFor (iSeq K te) g tb Dn σ H := h S H f s _ fun v d H2 x2 m ⟨es, e, p⟩ => by
  have f2 := f.ext x2
  have w : Walks K a (off S H2) (iSeq K fun _ H Q => Q v H) σ es.length (fun i d => es[i]? = some d) := walks_seq (te := fun _ H Q => Q v H) fun S' H3 f3 s3 Q q => q v d H3 Ext.refl (m.mono s3) e
  have := q_forW (Dn := Dn) (g := g) (tb := tb) w f2 (Same.refl _) T fun H3 x3 f3 => by
    obtain ⟨Pv, h0, h1, h2, h3⟩ := q es H3 p (x2.trans x3) f3
    exact ⟨Pv, h0, h1, fun i x d σ' H' H'' hi pv xx _ md xd => h2 i x d σ' H' H'' hi pv xx md xd, h3⟩
  exact this
end
theorem pig {α : Type} [DecidableEq α] : ∀ (l ns : List α), l.Nodup → (∀ x ∈ l, x ∈ ns) → l.length ≤ ns.length
  | [], _, _, _ => Nat.zero_le _
  | x :: l, ns, nd, h => by
    have nd' := List.nodup_cons.mp nd
    have hx := h x (by simp)
    have := pig l (ns.erase x) nd'.2 fun y m => (List.mem_erase_of_ne (a := y) (b := x) fun e => nd'.1 (by rw [← e]; exact m)).mpr (h y (List.mem_cons_of_mem _ m))
    rw [List.length_erase_of_mem hx] at this
    have hp := List.length_pos_of_mem hx
    rw [List.length_cons]
    omega
theorem spare {ns : List Str} (h : ns.length ≤ 20) : ∃ i c : Nat, (TL.tl abc)[i]? = some c ∧ (⟨#[c]⟩ : Str) ∉ ns := by
  refine Classical.byContradiction fun hn => ?_
  have hall : ∀ x ∈ (TL.tl abc).map (fun c => (⟨#[c]⟩ : Str)), x ∈ ns := fun x m => by
    obtain ⟨c, mc, rfl⟩ := List.mem_map.mp m
    obtain ⟨i, hi, e⟩ := List.getElem_of_mem mc
    refine Decidable.byContradiction fun z => hn ⟨i, c, ?_, z⟩
    rw [List.getElem?_eq_getElem hi, e]
  have := pig _ ns (by decide +kernel) hall
  have e : ((TL.tl abc).map (fun c => (⟨#[c]⟩ : Str))).length = 26 := by decide +kernel
  omega
/-- so many words -/
structure WordsOk (n : Nat) (ns : List Str) : Prop where
  len : ns.length = n
  nd : ns.Nodup
  ok : ∀ w ∈ ns, isNameD (.str w) = true
theorem WordsOk.names {n : Nat} {ns : List Str} (h : WordsOk n ns) (h1 : 1 ≤ n) (h2 : n ≤ 12) : NamesOk ns := ⟨by rw [h.len]; exact h1, by rw [h.len]; exact h2, h.nd, h.ok⟩
theorem NamesOk.words {ns : List Str} (h : NamesOk ns) : WordsOk ns.length ns := ⟨rfl, h.nd, h.ok⟩
theorem word_one {c : Nat} (h : c ∈ abc.cps.toList) : isNameD (.str ⟨#[c]⟩) = true := by
  rw [isName_str, Bool.and_eq_true, Bool.and_eq_true]
  refine ⟨⟨decide_eq_true ?_, decide_eq_true ?_⟩, ?_⟩
  · show (1 : Int) ≤ ((1 : Nat) : Int)
    decide
  · show ((1 : Nat) : Int) ≤ 8
    decide
  · simpa using h
theorem word_of {w : Str} (h1 : 1 ≤ w.length) (h2 : w.length ≤ 8) (h : ∀ c ∈ w.cps.toList, c ∈ abc.cps.toList) : isNameD (.str w) = true := by
  rw [isName_str, Bool.and_eq_true, Bool.and_eq_true, List.all_eq_true]
  exact ⟨⟨decide_eq_true (by omega), decide_eq_true (by omega)⟩, fun c m => decide_eq_true (h c m)⟩
section
variable {K : PySem.W.Frag} {a : Addr} {S : List Addr} {σ : L2.St} {G H : Hp} {ta tb tc te : TE} {tr : TA} {Dn : Ends} {ns : List Str}
def preWd (ds : List PyData) : Prop := ∃ ns : List Str, ds = [.list (ns.map .str)] ∧ ns.length ≤ 20
def postWd (ds : List PyData) (r : PyData) : Prop := ∃ (ns : List Str) (w : Str), ds = [.list (ns.map .str)] ∧ r = .str w ∧ isNameD (.str w) = true ∧ w ∉ ns
def preWs (ds : List PyData) : Prop := ∃ n : Nat, n ≤ 12 ∧ ds = [.int n]
def postWs (ds : List PyData) (r : PyData) : Prop := ∃ (n : Nat) (ns : List Str), ds = [.int n] ∧ r = .list (ns.map .str) ∧ WordsOk n ns
abbrev FWo (P : Program) (w : World) (K : PySem.W.Frag) (mg : Str → Option Value) (base : Heap) : Prop := Df P w K mg base CX0 2 "_law_word" ["_law_pot_here", "_law_taken"] (spP K preWd postWd)
abbrev FWs (P : Program) (w : World) (K : PySem.W.Frag) (mg : Str → Option Value) (base : Heap) : Prop := Df P w K mg base CX0 3 "_law_words" ["_law_pot_here", "_law_many"] (spP K preWs postWs)
/-- a letter that is not taken -/
theorem ev_spare {i j : Nat} {v : V} (hi : σ[i]? = some (some v)) (mv : D K G v (.list (ns.map .str))) (hl : ns.length ≤ 20) (ht : Ev K a G te σ (· = .str abc)) (hw : ∀ x, wipe ((wipe σ [j]).set j (some x)) [j] = wipe σ [j])
    (hj : ∀ x, ((wipe σ [j]).set j (some x))[j]? = some (some x)) (hv : ∀ x, ((wipe σ [j]).set j (some x))[i]? = some (some v)) :
    Ev K a G (tOp (rIx K) (tLc (iStr te) (gName j) (tTest (tOp (rNotInA K) (tVar j) (tVar i))) (tVar j) [j]) (tC (.int 0))) σ (fun d => ∃ w : Str, d = .str w ∧ isNameD (.str w) = true ∧ w ∉ ns) := by
  refine ev_ixL (C1 := fun r => ∃ os, Picks abc.length (fun i d => ∃ c, (TL.tl abc)[i]? = some c ∧ d = .str ⟨#[c]⟩) (fun _ d => !hasD ns d) (fun _ d y => y = d) os ∧ r = .list (os.filterMap id)) (ev_lcW (walks_str ht) (by decide +kernel) takes_name fun k d G' σ' hk sG xd ⟨x, e, mx⟩ => ?_) (ev_isI (c := (· = 0)) ev_i rfl) ?_
  · subst e
    obtain ⟨c, _, rfl⟩ := xd
    cases mx
    refine ⟨hw _, ?_, fun _ => ev_var (hj _) (.str _)⟩
    exact et_testE (K := K) (ev_notInS (ev_var (hj _) (.str _)) (ev_var (hv _) (mv.mono sG)))
  · rintro _ _ ⟨os, ⟨h1, h2⟩, rfl⟩ rfl
    obtain ⟨k, c, hc, hn⟩ := spare hl
    have hk : k < os.length := by
      rw [h1]
      by_cases z : k < abc.length
      · exact z
      · rw [List.getElem?_eq_none (by show (TL.tl abc).length ≤ k; exact Nat.le_of_not_lt z)] at hc
        cases hc
    obtain ⟨d, ⟨c', hc', rfl⟩, hz⟩ := h2 k os[k] (List.getElem?_eq_getElem hk)
    rw [hc] at hc'
    injection hc' with hc'
    subst hc'
    obtain ⟨y, ey, _, rfl⟩ : ∃ y, os[k] = some y ∧ _ ∧ y = .str ⟨#[c]⟩ := by
      rcases hz with ⟨_, e⟩ | z
      · simp only [hasD, decide_eq_false hn] at e
        cases e
      · exact z
    have hm : (.str ⟨#[c]⟩ : PyData) ∈ os.filterMap id := List.mem_filterMap.mpr ⟨os[k], List.getElem_mem hk, ey⟩
    cases e : os.filterMap id with
    | nil =>
      rw [e] at hm
      cases hm
    | cons z zs =>
      refine ⟨_, z, .inl rfl, atI_zero, ?_⟩
      have zm : z ∈ os.filterMap id := by rw [e]; simp
      obtain ⟨o, om, eo⟩ := List.mem_filterMap.mp zm
      obtain ⟨n, hn', en⟩ := List.getElem_of_mem om
      obtain ⟨d, ⟨c', hc', rfl⟩, hz⟩ := h2 n o (by rw [List.getElem?_eq_getElem hn', en])
      rcases hz with ⟨e1, _⟩ | ⟨y, e1, e2, rfl⟩
      · rw [e1] at eo
        cases eo
      · rw [e1] at eo
        injection eo with eo
        refine ⟨⟨#[c']⟩, eo.symm, word_one ?_, ?_⟩
        · exact List.mem_of_getElem? hc'
        · simp only [hasD] at e2
          intro m
          rw [decide_eq_true m] at e2
          cases e2
end
end LK
set_option Elab.async false
set_option linter.all false
set_option maxRecDepth 100000
set_option maxHeartbeats 1000000
/-! LK30: a new list by +, then changed; odd things; rows of settings -/
namespace LK
open PySem PySem.Spec L2
open PyProof.Rows hiding St
theorem Ext.fresh {a : Addr} {H H' : Hp} {L : Addr} (x : Ext a H H') (h : H' L = none) (n : L ≠ a) : H L = none := by
  cases e : H L with
  | none => rfl
  | some o =>
    have := x.keep _ _ n e
    rw [h] at this
    cases this
section
variable {K : PySem.W.Frag} {a : Addr} {S : List Addr} {σ : L2.St} {G H : Hp} {ta tb te : TE} {tr : TA} {Dn : Ends} {ds es : List PyData} {L : Addr}
/-- x = y + z: a list that will change -/
theorem q_catL {i : Nat} (ha : Ev K a G ta σ (· = .list ds)) (hb : Ev K a G tb σ (· = .list es)) (hl : ds.length + es.length ≤ 100000) (f : Fr a S H) (s : Same G (off S H))
    (q : ∀ L vs H', Ext a H H' → Fr a S H' → H' L = none → DA K (off S H') vs (ds ++ es) → Dn.nx (σ.set i (some (.ref L))) (upd H' L (.lst vs))) : tAsg (tOp (rAddA K) ta tb) (gName i) Dn σ H :=
  ha S H f s _ fun v d H2 x2 m e => hb S H2 (f.ext x2) (f.same x2 s) _ fun w d' H3 x3 m3 e' => by
    subst e e'
    have m := m.mono (x3.off f.mem)
    cases m with
    | lst h1 n1 =>
      cases m3 with
      | lst h2 n2 =>
        exact .inr (.inr (.inl ⟨_, _, _, _, rfl, rfl, off_le _ _ h1, off_le _ _ h2, by rw [n1.length, n2.length]; exact Nat.le_trans hl (by decide), fun p hp => q p _ H3 (x2.trans x3) (f.ext (x2.trans x3)) hp (n1.append n2)⟩))
/-- data that was there before L stays, whatever L holds -/
theorem DA.past {vs : List V} (m : DA K (off S H) vs ds) (h : H L = none) (f : Fr a S H) {o : HO} : DA K (off (L :: S) (upd H L o)) vs ds := m.mono (same_off_in h ((Ext.new (a := a) h).off f.mem))
theorem DA.pop {vs : List V} {o : HO} (m : DA K (off (L :: S) H) vs ds) : DA K (off S (upd H L o)) vs ds := by
  have e : off (L :: S) (upd H L o) = off (L :: S) H := off_upd List.mem_cons_self
  rw [← e] at m
  exact m.mono same_off_pop
end
namespace Odd31
def oddA : List PyData := [.none, .int 0, .int 1, .int 2, .int 3, .int (-1), .bool true, .bool false, .str "", .str "A", .str "a b", .str "nineletter", .str "abcdefgh", .str "1", .str "z", .tuple [], .list [], .dict [], .tuple [.int 1, .int 2]]
def oddB : List PyData := [.tuple [.int 2, .int 4], .tuple [.int 3, .int 1], .tuple [.int 1, .int 0], .tuple [.int 1, .int (-2)], .tuple [.bool true, .int 2], .tuple [.int 1, .int 2, .int 3], .tuple [.int (-7), .int 3], .tuple [.int 0, .int 2], .list [.int 1, .int 2], .list [.str "a"], .tuple [.str "a"]]
def oddC : List PyData := [.int (10 ^ 30)]
theorem sz : ∀ d ∈ oddA ++ oddB ++ oddC, Sz 100 3 d := by
  have h : (oddA ++ oddB ++ oddC).all (szB 100 3) = true := by decide +kernel
  intro d m
  exact Sz.of (List.all_eq_true.mp h d m)
end Odd31
abbrev FOd (P : Program) (w : World) (K : PySem.W.Frag) (mg : Str → Option Value) (base : Heap) : Prop := Df P w K mg base CX0 2 "_law_odd" ["_law_pot_here"] (spP K (fun ds => ds = []) (fun _ r => Sz 100 3 r))
/-- a setting's parts, by size -/
def RowOk (r : PyData) : Prop := ∃ ds, r = .tuple ds ∧ ds.length = 5 ∧ ∀ d ∈ ds, Sz 100 3 d
theorem RowOk.sz {r : PyData} (h : RowOk r) : Sz 505 4 r := by
  obtain ⟨ds, rfl, l, hd⟩ := h
  have := Sz.tup hd
  rw [l] at this
  exact this
theorem sz_tup {n m k : Nat} {ds : List PyData} (h : ∀ d ∈ ds, Sz n k d) (hm : ds.length * (n + 1) ≤ m) : Sz m (k + 1) (.tuple ds) := (Sz.tup h).up hm (Nat.le_refl _)
theorem sz_list {n m k : Nat} {ds : List PyData} (h : ∀ d ∈ ds, Sz n k d) (hm : ds.length * (n + 1) ≤ m) : Sz m (k + 1) (.list ds) := (Sz.list h).up hm (Nat.le_refl _)
def preRow (ds : List PyData) : Prop := ∃ r, ds = [r] ∧ RowOk r
abbrev FSp1 (P : Program) (w : World) (K : PySem.W.Frag) (mg : Str → Option Value) (base : Heap) : Prop := Df P w K mg base CX0 3 "_law_spoilt" ["_law_pot_here", "_law_row"] (spP K preRow fun _ r => Sz 2000 6 r)
def preTl (ds : List PyData) : Prop := ∃ (n p : Nat) (ls fs : List Str) (k : Nat), ds = [.list (ls.map .str), .list (fs.map .str), .int (k : Nat)] ∧ WordsOk n ls ∧ WordsOk p fs ∧ 1 ≤ n ∧ 1 ≤ p ∧ n ≤ 12 ∧ p ≤ 12 ∧ k ≤ 40
def postTl (ds : List PyData) (r : PyData) : Prop := ∃ es, r = .list es ∧ es.length ≤ 40 ∧ ∀ e ∈ es, RowOk e
abbrev FTl1 (P : Program) (w : World) (K : PySem.W.Frag) (mg : Str → Option Value) (base : Heap) : Prop := Df P w K mg base CX0 4 "_law_told" ["_law_pot_here", "_law_labels", "_law_folk", "_law_many"] (spP K preTl postTl)
end LK
namespace LK
open PySem PySem.Spec L2
open PyProof.Rows hiding St
theorem DA.three {K : PySem.W.Frag} {H : Hp} {vs : List V} {d1 d2 d3 : PyData} (h : DA K H vs [d1, d2, d3]) : ∃ v1 v2 v3, vs = [v1, v2, v3] ∧ D K H v1 d1 ∧ D K H v2 d2 ∧ D K H v3 d3 := by
  cases h with
  | cons h1 h =>
    obtain ⟨v2, v3, rfl, h2, h3⟩ := DA.two h
    exact ⟨_, v2, v3, rfl, h1, h2, h3⟩
end LK
namespace LK
open PySem PySem.Spec L2
open PyProof.Rows hiding St
def preCs (ds : List PyData) : Prop := ∃ wide most : Nat, 1 ≤ wide ∧ wide ≤ 12 ∧ most ≤ 30 ∧ ds = [.int wide, .int 0, .int most]
def CaseOk (d1 d2 d3 d4 : PyData) : Prop := ∃ (n p : Nat) (ls fs : List Str) (es : List PyData), d1 = .list (ls.map .str) ∧ d2 = .list [] ∧ d3 = .list (fs.map .str) ∧ d4 = .list es ∧ WordsOk n ls ∧ WordsOk p fs ∧ 1 ≤ n ∧ 1 ≤ p ∧ n ≤ 12 ∧ p ≤ 12 ∧ es.length ≤ 40 ∧ ∀ e ∈ es, RowOk e
def postCs (_ : List PyData) (r : PyData) : Prop := ∃ d1 d2 d3 d4, r = .tuple [d1, d2, d3, d4] ∧ CaseOk d1 d2 d3 d4
abbrev FCs (P : Program) (w : World) (K : PySem.W.Frag) (mg : Str → Option Value) (base : Heap) : Prop := Df P w K mg base CX0 5 "_law_case" ["_law_pot_here", "_law_wide", "_law_many", "_law_most"] (spP K preCs postCs)
abbrev FLn (P : Program) (w : World) (K : PySem.W.Frag) (mg : Str → Option Value) (base : Heap) : Prop := Df P w K mg base CX0 2 "_law_lines" ["_law_pot_here", "_law_wide", "_law_many"] (spP K (fun ds => ∃ n : Int, ds = [.int n, .int 0]) fun _ r => r = .list [])
section
variable {K : PySem.W.Frag} {a : Addr} {S : List Addr} {σ : L2.St} {G H : Hp} {te : TE} {E : XK}
/-- words(pot, n), n drawn -/
theorem ev_words {m : Nat} (hm : m ≤ 12) (hi : σ[0]? = some (some (.ref a))) (h : Ev K a G te σ (IsI fun i => 1 ≤ i ∧ i ≤ (m : Nat))) : Ev K a G (tCall (spP K preWs postWs) [] E (tCons (tVar 0) (tCons te tNil))) σ (fun d => ∃ (n : Nat) (ns : List Str), d = .list (ns.map .str) ∧ WordsOk n ns ∧ 1 ≤ n ∧ n ≤ m) :=
  ev_callP hi (ea_one h) (fun ds ⟨d, e, i, e2, h1, h2⟩ => ⟨i.toNat, by omega, by rw [e, e2, Int.toNat_of_nonneg (by omega)]⟩) fun ds r ⟨d, e, i, e2, h1, h2⟩ ⟨n, ns, e3, e4, ok⟩ => by
    rw [e, e2] at e3
    injection e3 with e3
    injection e3 with e3
    exact ⟨n, ns, e4, ok, by omega, by omega⟩
/-- told(pot, labels, folk, n), n drawn -/
theorem ev_told {tl tf : TE} {n p m : Nat} {ls fs : List Str} (wl : WordsOk n ls) (wf : WordsOk p fs) (n1 : 1 ≤ n) (p1 : 1 ≤ p) (n12 : n ≤ 12) (p12 : p ≤ 12) (hm : m ≤ 40) (hi : σ[0]? = some (some (.ref a))) (hl : Ev K a G tl σ (· = .list (ls.map .str))) (hf : Ev K a G tf σ (· = .list (fs.map .str))) (h : Ev K a G te σ (IsI fun i => 0 ≤ i ∧ i ≤ (m : Nat))) :
    Ev K a G (tCall (spP K preTl postTl) [] E (tCons (tVar 0) (tCons tl (tCons tf (tCons te tNil))))) σ (fun d => ∃ es, d = .list es ∧ es.length ≤ 40 ∧ ∀ e ∈ es, RowOk e) :=
  ev_callP hi (ea_cons hl (ea_cons hf (ea_one h))) (fun ds ⟨d1, _, e1, h1, d2, _, e2, h2, d3, e3, i, e4, h3, h4⟩ => ⟨n, p, ls, fs, i.toNat, by rw [e1, e2, e3, e4, h1, h2, Int.toNat_of_nonneg h3], wl, wf, n1, p1, n12, p12, by omega⟩) fun ds r _ z => z
end
end LK
set_option Elab.async false
set_option linter.all false
set_option maxRecDepth 100000
set_option maxHeartbeats 1000000
/-! LK31: all([right(pot(script, k)) for k in range(..)]); told and settings asked -/
namespace LK
open PySem PySem.Spec L2
open PyProof.Rows hiding St
theorem rd_lawAll {K : PySem.W.Frag} {E1 E2 : XK} {s : Addr} {ns : List Int} {H : Hp} {Q : VK} {tr : TA} (hs : SqL K H s (ns.map V.int)) (hz : ∀ R : List V → Hp → Prop, (∀ z : Int, 1 ≤ z → z ≤ 63 → R [.int z] H) → tr [some (.ref s), none] H R) (k : ∀ H', Q (.bl true) H') :
    tCB (rAll K) (tCons (tLc (iRng1 tr) (gName 1) tYes (tCall (spP K (fun ds => ds = []) fun _ r => r = .bool true) [] E1 (tCons (tCall (spPot K) [] E2 (tCons (tVar 0) (tCons (tVar 1) tNil))) tNil)) [1]) tNil) [some (.ref s), none] H Q := by
  refine hz _ fun z z1 z63 => ⟨z, rfl, by omega, by omega, fun D hD => ?_⟩
  refine lc_range (lo := 0) (n := z.toNat) (σ := [some (.ref s), none]) (vs := [1]) (fun i H' => Same H H' ∧ H' D = some (.lst (List.replicate i (V.bl true)))) ⟨same_new hD, upd_same⟩ ?_ ?_
  · rintro i H1 hi ⟨s1, hD1⟩
    refine ⟨rfl, ?_⟩
    unfold tYes
    dsimp only
    rw [if_pos rfl]
    refine ⟨.ref s, rfl, .int (0 + (i : Nat)), rfl, s, ns, i, by rw [List.append_nil, Int.zero_add], s1.seq hs, by omega, fun p H2 s2 hp pot => ?_⟩
    refine ⟨p, [p], [], [], rfl, Fr.one pot, .nil, rfl, fun v d H3 x3 m e => ?_⟩
    subst e
    cases m
    have s3 : Same H1 H3 := Ext.same_of hp s2 x3
    have hD3 := s3 _ _ hD1
    refine ⟨_, hD3, by rw [List.length_replicate]; exact Nat.lt_of_lt_of_le hi (Nat.le_trans (show z.toNat ≤ 63 by omega) (by decide)), ?_, ?_⟩
    · intro b o e
      have nb : b ≠ D := fun z => by
        rw [z, hD] at e
        cases e
      rw [upd_ne nb]
      exact s3 _ _ (s1 _ _ e)
    · rw [upd_same, List.replicate_succ']
  · rintro H1 ⟨s1, hD1⟩
    refine ⟨D, List.replicate z.toNat true, rfl, ?_, ?_⟩
    · rw [List.map_replicate]
      exact SqL.of hD1
    · rw [show (List.replicate z.toNat true).all id = true by simp]
      exact k H1
section
variable {K : PySem.W.Frag} {a : Addr} {S : List Addr} {σ : L2.St} {G H : Hp} {te tl : TE} {E : XK} {ls : List Str} {d : PyData}
theorem ev_tdE (hl : Ev K a G tl σ (· = .list (ls.map .str))) (h : Ev K a G te σ (· = d)) (t : Tame d) : Ev K a G (tCall (spG K preTd postTd) [] E (tCons tl (tCons te tNil))) σ (· = .bool (isSettingD ls d)) :=
  ev_callE (ea_eq hl (ea_eq h ea_nil)) ⟨ls, d, rfl, t⟩ fun r ⟨ns, d', e, z⟩ => by
    injection e with e1 e
    injection e with e2 _
    injection e1 with e1
    rw [z, strs_inj e1, e2]
end
end LK
set_option Elab.async false
set_option linter.all false
set_option maxRecDepth 100000
set_option maxHeartbeats 1000000
/-! LK32: data compared by >, data in lists, list.index, insert, extend, reverse -/
namespace LK
open PySem PySem.Spec L2
open PyProof.Rows hiding St
/-- x > y of data that are alike -/
def rGtD (K : PySem.W.Frag) : R2 := fun x y H Q => ∃ d e, Dp K H x d ∧ Dp K H y e ∧ PySem.W.alike d e = true ∧ d ≠ .none ∧ d.depth ≤ 64 ∧ Q (.bl (PySem.W.dataLt e d)) H
def rInDK (K : PySem.W.Frag) : R2 := rInD K
def rNotInDK (K : PySem.W.Frag) : R2 := rNotInD K
section
variable {X : Cx} {K : PySem.W.Frag}
theorem op_gtD (hu : X.A.units + 64 < cLine) : OpR X (compareOp .Gt) (rGtD X.K) := by
  intro pins s σ H x y v u Q I rx ry h
  obtain ⟨d, e, hd, he, al, hn, hp, q⟩ := h
  obtain ⟨as, r1⟩ := Dp.reads I d x v hd rx
  obtain ⟨bs, r2⟩ := Dp.reads I e y u he ry
  exact PySem.W.gt_data r1 r2 al hn (by have := Nat.min_le_left d.depth e.depth; omega) ⟨.bl _, H, I, rfl, q⟩
theorem kGtD (hu : X.A.units + 64 < cLine) (eK : X.K = K := by rfl) : OpR X (compareOp .Gt) (rGtD K) := eK ▸ op_gtD hu
theorem lt65 {n k : Nat} {A : Around} (r : Room k A) (e : n = A.units) : n + 65 < cLine := by
  have := r.un
  omega
theorem kInD (hu : X.A.units + 65 < cLine) (eK : X.K = K := by rfl) : OpR X (compareOp .In) (rInDK K) := eK ▸ op_inD hu
theorem kNotInD (hu : X.A.units + 65 < cLine) (eK : X.K = K := by rfl) : OpR X (compareOp .NotIn) (rNotInDK K) := eK ▸ op_notInD hu
theorem kIndexD (hu : X.A.units + 65 < cLine) (eK : X.K = K := by rfl) : MtR X "list.index" (rIndexD K) := eK ▸ mt_indexD hu
end
def rInsert : V → List V → Hp → VK → Prop := fun x vs H Q => ∃ (l : Addr) (xs : List V) (i : Int) (y : V), x = .ref l ∧ vs = [.int i, y] ∧ H l = some (.lst xs) ∧ xs.length < sizeLine ∧ 0 ≤ i ∧ i < 2 ^ 63 ∧ Q .non (upd H l (.lst (xs.take i.toNat ++ [y] ++ xs.drop i.toNat)))
section
variable {X : Cx}
theorem kInsert : MtR X "list.insert" rInsert := mt_insert
end
section
variable {K : PySem.W.Frag} {a : Addr} {S : List Addr} {σ : L2.St} {G H : Hp} {ta tb te ti : TE} {tr : TA} {Dn : Ends} {d e : PyData} {ds es : List PyData} {L : Addr} {C : PyData → Prop}
theorem ev_gtD (ha : Ev K a G ta σ (· = d)) (hb : Ev K a G tb σ (· = e)) (h1 : EqOk d) (h2 : noDict e = true) (al : PySem.W.alike d e = true) (hn : d ≠ .none) : Ev K a G (tOp (rGtD K) ta tb) σ (· = .bool (PySem.W.dataLt e d)) := by
  refine ev_op ha hb ?_
  rintro _ _ rfl rfl S H x y f m1 m2 Q q
  exact ⟨_, _, D.dp _ _ (m1.mono off_le) h1.nd, D.dp _ _ (m2.mono off_le) h2, al, hn, SeqAt.depth_of_shaped h1.sh, q _ _ H Ext.refl (.bl _) rfl⟩
theorem ev_inDD (ha : Ev K a G ta σ (· = d)) (hb : Ev K a G tb σ (· = .list es)) (h1 : EqOk d) (h2 : EqOk (.list es)) : Ev K a G (tOp (rInDK K) ta tb) σ (· = .bool (es.any fun z => PyData.eqv z d)) := by
  refine ev_op ha hb ?_
  rintro _ _ rfl rfl S H x y f m1 m2 Q q
  exact ⟨_, _, D.dp _ _ (m1.mono off_le) h1.nd, D.dp _ _ (m2.mono off_le) h2.nd, h1.sh, h2.sh, q _ _ H Ext.refl (.bl _) rfl⟩
theorem ev_notInDD (ha : Ev K a G ta σ (· = d)) (hb : Ev K a G tb σ (· = .list es)) (h1 : EqOk d) (h2 : EqOk (.list es)) : Ev K a G (tOp (rNotInDK K) ta tb) σ (· = .bool (!es.any fun z => PyData.eqv z d)) := by
  refine ev_op ha hb ?_
  rintro _ _ rfl rfl S H x y f m1 m2 Q q
  exact ⟨_, _, D.dp _ _ (m1.mono off_le) h1.nd, D.dp _ _ (m2.mono off_le) h2.nd, h1.sh, h2.sh, q _ _ H Ext.refl (.bl _) rfl⟩
end
end LK
set_option Elab.async false
set_option linter.all false
set_option maxRecDepth 100000
set_option maxHeartbeats 1000000
/-! LK33: which of two settings is stronger; lists of settings, strongest first -/
namespace LK
open PySem PySem.Spec L2
open PyProof.Rows hiding St
/-- a right setting, by its parts -/
structure Row where
  l : Int
  t : Int
  w : Str
  f : Str
  n : PyData
def Row.d (r : Row) : PyData := .tuple [.int r.l, .int r.t, .str r.w, .str r.f, r.n]
structure Row.Ok (ls : List Str) (r : Row) : Prop where
  l0 : 0 ≤ r.l
  l2 : r.l ≤ 2
  t1 : 1 ≤ r.t
  tb : r.t.natAbs < 2 ^ 250
  w : isNameD (.str r.w) = true
  f : r.f ∈ ls
  fo : isNameD (.str r.f) = true
  n : Num 300 r.n
theorem Row.Ok.setting {ls : List Str} {r : Row} (h : r.Ok ls) : isSettingD ls r.d = true := by
  show (isLevelD (.int r.l) && (decide (1 ≤ r.t) && (isNameD (.str r.w) && (hasD ls (.str r.f) && isRatD r.n)))) = true
  rw [h.w, h.n.rat, show isLevelD (.int r.l) = true from by show (decide (0 ≤ r.l) && decide (r.l ≤ 2)) = true; rw [decide_eq_true h.l0, decide_eq_true h.l2]; rfl, decide_eq_true h.t1, show hasD ls (.str r.f) = true from decide_eq_true h.f]
  rfl
def rankD (ls : List Str) (r : Row) : List PyData := [.int r.l, .int r.t, .str r.w, .int ((ls.idxOf r.f : Nat) : Int)]
def toks (ls : List Str) (r : Row) : List (Int ⊕ List Nat) := [.inl 1, .inl r.l, .inl 1, .inl r.t, .inl 1, .inr r.w.cps.toList, .inl 1, .inl ((ls.idxOf r.f : Nat) : Int), .inl 0]
theorem rank_toks (ls : List Str) (r : Row) : PySem.W.keyToksAll (rankD ls r) = toks ls r := by
  simp [rankD, toks, PySem.W.keyToksAll, PySem.W.keyToks]
def aboveR (ls : List Str) (a b : Row) : Bool := if PyData.eqvAll (rankD ls a) (rankD ls b) = true then decide (valD b.n < valD a.n) else PySem.W.dataLt (.tuple (rankD ls b)) (.tuple (rankD ls a))
theorem rank_eqv {ls : List Str} {a b : Row} : PyData.eqvAll (rankD ls a) (rankD ls b) = true ↔ toks ls a = toks ls b := by
  constructor
  · intro h
    simp only [rankD, PyData.eqvAll, PyData.eqv, Bool.and_eq_true, beq_iff_eq, and_true] at h
    obtain ⟨h1, h2, h3, h4⟩ := h
    unfold toks
    rw [h1, h2, h3, h4]
  · intro h
    unfold toks at h
    simp only [List.cons.injEq, Sum.inl.injEq, Sum.inr.injEq, true_and, and_true] at h
    obtain ⟨h1, h2, h3, h4⟩ := h
    simp only [rankD, PyData.eqvAll, PyData.eqv, Bool.and_eq_true, beq_iff_eq, and_true]
    exact ⟨h1, h2, PySem.W.str_of_cps h3, h4⟩
theorem above_iff {ls : List Str} {a b : Row} : aboveR ls a b = true ↔ PyProof.Rows.lexLt PyProof.Rows.itemOrd (toks ls b) (toks ls a) = true ∨ (toks ls a = toks ls b ∧ valD b.n < valD a.n) := by
  unfold aboveR
  have e : PySem.W.dataLt (.tuple (rankD ls b)) (.tuple (rankD ls a)) = PyProof.Rows.lexLt PyProof.Rows.itemOrd (toks ls b) (toks ls a) := by
    rw [← rank_toks, ← rank_toks]
    rfl
  rw [e]
  by_cases h : toks ls a = toks ls b
  · rw [if_pos (rank_eqv.mpr h), h, PyProof.Rows.lex_irrefl]
    simp
  · rw [if_neg fun z => h (rank_eqv.mp z)]
    simp [h]
theorem above_irrefl {ls : List Str} {a : Row} : aboveR ls a a = false := by
  cases h : aboveR ls a a with
  | false => rfl
  | true =>
    rcases above_iff.mp h with h | ⟨_, h⟩
    · rw [PyProof.Rows.lex_irrefl] at h
      cases h
    · grind
theorem above_trans {ls : List Str} {a b c : Row} (h1 : aboveR ls a b = true) (h2 : aboveR ls b c = true) : aboveR ls a c = true := by
  rw [above_iff] at h1 h2 ⊢
  rcases h1 with h1 | ⟨e1, h1⟩
  · rcases h2 with h2 | ⟨e2, h2⟩
    · exact .inl (PyProof.Rows.lex_trans _ _ _ h2 h1)
    · exact .inl (e2 ▸ h1)
  · rcases h2 with h2 | ⟨e2, h2⟩
    · exact .inl (e1 ▸ h2)
    · exact .inr ⟨e1.trans e2, by grind⟩
theorem idx_inj {ls : List Str} {x y : Str} (h1 : x ∈ ls) (h2 : y ∈ ls) (e : ls.idxOf x = ls.idxOf y) : x = y := by
  have a := List.getElem_idxOf (List.idxOf_lt_length_iff.mpr h1)
  have b := List.getElem_idxOf (List.idxOf_lt_length_iff.mpr h2)
  rw [← a, ← b]
  congr 1
theorem row_eq {ls : List Str} {a b : Row} (ha : a.Ok ls) (hb : b.Ok ls) (e : toks ls a = toks ls b) (v : valD a.n = valD b.n) : a = b := by
  unfold toks at e
  simp only [List.cons.injEq, Sum.inl.injEq, Sum.inr.injEq, true_and, and_true] at e
  obtain ⟨h1, h2, h3, h4⟩ := e
  have h5 := idx_inj ha.f hb.f (by omega)
  have h6 := val_inj ha.n.rat hb.n.rat v
  cases a
  cases b
  simp only at h1 h2 h3 h5 h6
  rw [h1, h2, PySem.W.str_of_cps h3, h5, h6]
theorem above_total {ls : List Str} {a b : Row} (ha : a.Ok ls) (hb : b.Ok ls) (h1 : aboveR ls a b = false) (h2 : aboveR ls b a = false) : a = b := by
  have n1 : ¬ aboveR ls a b = true := by rw [h1]; decide
  have n2 : ¬ aboveR ls b a = true := by rw [h2]; decide
  rw [above_iff] at n1 n2
  have e : toks ls a = toks ls b := by
    refine (PyProof.Rows.lex_total (O := PyProof.Rows.itemOrd) (toks ls b) (toks ls a) ?_ ?_).symm
    · cases z : PyProof.Rows.lexLt PyProof.Rows.itemOrd (toks ls b) (toks ls a)
      · rfl
      · exact absurd (.inl z) n1
    · cases z : PyProof.Rows.lexLt PyProof.Rows.itemOrd (toks ls a) (toks ls b)
      · rfl
      · exact absurd (.inl z) n2
  refine row_eq ha hb e ?_
  have m1 : ¬ valD b.n < valD a.n := fun z => n1 (.inr ⟨e, z⟩)
  have m2 : ¬ valD a.n < valD b.n := fun z => n2 (.inr ⟨e.symm, z⟩)
  grind
theorem row_eqv {ls : List Str} {a b : Row} (ha : a.Ok ls) (hb : b.Ok ls) : PyData.eqv a.d b.d = true ↔ a = b := by
  constructor
  · intro h
    simp only [Row.d, PyData.eqv, PyData.eqvAll, Bool.and_eq_true, beq_iff_eq, and_true] at h
    obtain ⟨h1, h2, h3, h4, h5⟩ := h
    rw [rat_eqv ha.n.rat hb.n.rat] at h5
    have h6 := val_inj ha.n.rat hb.n.rat (of_decide_eq_true h5)
    cases a
    cases b
    simp only at h1 h2 h3 h4 h6
    rw [h1, h2, h3, h4, h6]
  · rintro rfl
    simp only [Row.d, PyData.eqv, PyData.eqvAll, Bool.and_eq_true, beq_iff_eq, and_true, true_and]
    rw [rat_eqv ha.n.rat ha.n.rat]
    exact decide_eq_true rfl
/-! ### strongest first -/
def posR (ls : List Str) (found : List Row) (r : Row) : Nat := (found.filter fun z => aboveR ls z r).length
def insR (ls : List Str) (found : List Row) (r : Row) : List Row := if (found.any fun z => PyData.eqv z.d r.d) = true then found else found.take (posR ls found r) ++ [r] ++ found.drop (posR ls found r)
def sortR (ls : List Str) (rs : List Row) : List Row := rs.foldl (insR ls) []
def Falls (ls : List Str) (rs : List Row) : Prop := rs.Pairwise fun a b => aboveR ls a b = true
theorem pos_split {ls : List Str} {r : Row} (hr : r.Ok ls) : ∀ {rs : List Row}, (∀ z ∈ rs, z.Ok ls) → Falls ls rs → r ∉ rs → (∀ z ∈ rs.take (posR ls rs r), aboveR ls z r = true) ∧ ∀ z ∈ rs.drop (posR ls rs r), aboveR ls r z = true
  | [], _, _, _ => ⟨fun z m => (by simp at m), fun z m => (by simp at m)⟩
  | y :: rs, ok, hf, hn => by
    have hf' := List.pairwise_cons.mp hf
    by_cases h : aboveR ls y r = true
    · have e : posR ls (y :: rs) r = posR ls rs r + 1 := by
        unfold posR
        rw [List.filter_cons_of_pos (by exact h), List.length_cons]
      obtain ⟨h1, h2⟩ := pos_split hr (fun z m => ok z (List.mem_cons_of_mem _ m)) hf'.2 fun m => hn (List.mem_cons_of_mem _ m)
      rw [e, List.take_succ_cons, List.drop_succ_cons]
      refine ⟨fun z m => ?_, h2⟩
      rcases List.mem_cons.mp m with rfl | m
      · exact h
      · exact h1 z m
    · have below : ∀ z ∈ y :: rs, aboveR ls z r = false := fun z m => by
        rcases List.mem_cons.mp m with rfl | m
        · simpa using h
        · cases e : aboveR ls z r with
          | false => rfl
          | true => exact absurd (above_trans (hf'.1 z m) e) h
      have e : posR ls (y :: rs) r = 0 := by
        unfold posR
        rw [List.filter_eq_nil_iff.mpr fun z m => by rw [below z m]; decide]
        rfl
      rw [e]
      refine ⟨fun z m => (by simp at m), fun z m => ?_⟩
      rw [List.drop_zero] at m
      cases q : aboveR ls r z with
      | true => rfl
      | false => exact absurd (above_total hr (ok z m) q (below z m) ▸ m) hn
theorem ins_mem {ls : List Str} {r : Row} {rs : List Row} (hr : r.Ok ls) (ok : ∀ z ∈ rs, z.Ok ls) {z : Row} : z ∈ insR ls rs r ↔ z ∈ rs ∨ z = r := by
  unfold insR
  split
  · rename_i h
    obtain ⟨y, my, e⟩ := List.any_eq_true.mp h
    have := (row_eqv (ok y my) hr).mp e
    subst this
    exact ⟨fun m => .inl m, fun m => m.elim id fun e => e ▸ my⟩
  · have e : z ∈ rs ↔ z ∈ rs.take (posR ls rs r) ∨ z ∈ rs.drop (posR ls rs r) := by
      rw [← List.mem_append, List.take_append_drop]
    rw [e]
    simp only [List.mem_append, List.mem_singleton]
    constructor
    · rintro ((m | m) | m)
      · exact .inl (.inl m)
      · exact .inr m
      · exact .inl (.inr m)
    · rintro ((m | m) | m)
      · exact .inl (.inl m)
      · exact .inr m
      · exact .inl (.inr m)
theorem ins_falls {ls : List Str} {r : Row} {rs : List Row} (hr : r.Ok ls) (ok : ∀ z ∈ rs, z.Ok ls) (hf : Falls ls rs) : Falls ls (insR ls rs r) := by
  unfold insR
  split
  · exact hf
  · rename_i h
    have hn : r ∉ rs := fun m => h (List.any_eq_true.mpr ⟨r, m, (row_eqv hr hr).mpr rfl⟩)
    obtain ⟨h1, h2⟩ := pos_split hr ok hf hn
    have hf2 : (rs.take (posR ls rs r) ++ rs.drop (posR ls rs r)).Pairwise fun a b => aboveR ls a b = true := by
      rw [List.take_append_drop]
      exact hf
    rw [List.pairwise_append] at hf2
    unfold Falls
    rw [List.append_assoc, List.pairwise_append]
    refine ⟨hf2.1, ?_, fun x mx y my => ?_⟩
    · rw [List.singleton_append, List.pairwise_cons]
      exact ⟨h2, hf2.2.1⟩
    · rcases List.mem_append.mp my with my | my
      · rw [List.mem_singleton.mp my]
        exact h1 x mx
      · exact hf2.2.2 x mx y my
theorem sort_fold {ls : List Str} : ∀ (rs acc : List Row), (∀ z ∈ rs, z.Ok ls) → (∀ z ∈ acc, z.Ok ls) → Falls ls acc → Falls ls (rs.foldl (insR ls) acc) ∧ (∀ z, z ∈ rs.foldl (insR ls) acc ↔ z ∈ acc ∨ z ∈ rs)
  | [], acc, _, _, hf => ⟨hf, fun z => by simp⟩
  | r :: rs, acc, ok, oka, hf => by
    have hr := ok r (by simp)
    have ok' : ∀ z ∈ insR ls acc r, z.Ok ls := fun z m => ((ins_mem hr oka).mp m).elim (oka z) fun e => e ▸ hr
    obtain ⟨h1, h2⟩ := sort_fold rs (insR ls acc r) (fun z m => ok z (List.mem_cons_of_mem _ m)) ok' (ins_falls hr oka hf)
    refine ⟨h1, fun z => ?_⟩
    rw [List.foldl_cons, h2 z, ins_mem hr oka, List.mem_cons]
    constructor
    · rintro ((m | m) | m)
      · exact .inl m
      · exact .inr (.inl m)
      · exact .inr (.inr m)
    · rintro (m | m | m)
      · exact .inl (.inl m)
      · exact .inl (.inr m)
      · exact .inr m
theorem falls_unique {ls : List Str} : ∀ {xs ys : List Row}, Falls ls xs → Falls ls ys → (∀ z, z ∈ xs ↔ z ∈ ys) → xs = ys
  | [], [], _, _, _ => rfl
  | [], y :: ys, _, _, h => by
    have := (h y).mpr (by simp)
    cases this
  | x :: xs, [], _, _, h => by
    have := (h x).mp (by simp)
    cases this
  | x :: xs, y :: ys, hx, hy, h => by
    have hx' := List.pairwise_cons.mp hx
    have hy' := List.pairwise_cons.mp hy
    have e : x = y := by
      rcases List.mem_cons.mp ((h x).mp (by simp)) with e | m
      · exact e
      · rcases List.mem_cons.mp ((h y).mpr (by simp)) with e | m'
        · exact e.symm
        · have := above_trans (hx'.1 y m') (hy'.1 x m)
          rw [above_irrefl] at this
          cases this
    subst e
    rw [falls_unique hx'.2 hy'.2 fun z => ?_]
    constructor
    · intro m
      rcases List.mem_cons.mp ((h z).mp (List.mem_cons_of_mem _ m)) with e | m'
      · have := hx'.1 z m
        rw [e, above_irrefl] at this
        cases this
      · exact m'
    · intro m
      rcases List.mem_cons.mp ((h z).mpr (List.mem_cons_of_mem _ m)) with e | m'
      · have := hy'.1 z m
        rw [e, above_irrefl] at this
        cases this
      · exact m'
/-- the order of the given settings, and repetitions, do not matter -/
theorem sort_same {ls : List Str} {xs ys : List Row} (hx : ∀ z ∈ xs, z.Ok ls) (h : ∀ z, z ∈ xs ↔ z ∈ ys) : sortR ls xs = sortR ls ys := by
  have a := sort_fold xs [] hx (fun _ m => nomatch m) .nil
  have b := sort_fold ys [] (fun z m => hx z ((h z).mpr m)) (fun _ m => nomatch m) .nil
  refine falls_unique a.1 b.1 fun z => ?_
  rw [show z ∈ sortR ls xs ↔ z ∈ [] ∨ z ∈ xs from a.2 z, show z ∈ sortR ls ys ↔ z ∈ [] ∨ z ∈ ys from b.2 z]
  simp [h z]
theorem sort_ok {ls : List Str} {xs : List Row} (hx : ∀ z ∈ xs, z.Ok ls) : Falls ls (sortR ls xs) ∧ ∀ z, z ∈ sortR ls xs ↔ z ∈ xs := by
  have a := sort_fold xs [] hx (fun _ m => nomatch m) .nil
  exact ⟨a.1, fun z => by rw [show z ∈ sortR ls xs ↔ z ∈ [] ∨ z ∈ xs from a.2 z]; simp⟩
end LK
set_option Elab.async false
set_option linter.all false
set_option maxRecDepth 100000
set_option maxHeartbeats 1000000
/-! LK34: enumerate over a tuple -/
namespace LK
open PySem PySem.Spec L2
open PyProof.Rows hiding St
section
open AutoSeq1 (wpAny_loadPart')
open MeetsSeq MeetsSeq2 MeetsSeq3
theorem newB1 {v : Value} {o : Obj} {Hh : Heap → Prop} (B : Begins v o Hh) :
    Meets (Builtin.«enumerate.__new__» ⟨[.type "enumerate", v], []⟩) (fun _ R s => Hh s.heap ∧
      R (.ok (.ret (.ref (s.heap.push o).objs.size))) { s with heap := (s.heap.push o).push { cls := .type "enumerate", data := .fields #[.none, .bool false, .ref s.heap.objs.size, rawInt 0, .none, .none] } }) :=
  .of_wp fun prog w A R s h => by
    obtain ⟨hp, g, d, tk, os⟩ := s
    obtain ⟨h1, h⟩ := h
    have hsub := sub_enumerate
    have begun : ∀ {A' : Around} {E : Value → Shared → Prop} {Q : Value → Shared → Prop}, Q (.ref hp.objs.size) ⟨hp.push o, g, d, tk, os⟩ → wpAny (model prog w) A' (pyIter v) Q E ⟨hp, g, d, tk, os⟩ :=
      fun q => B.iter prog w _ _ ⟨hp, g, d, tk, os⟩ _ h1 q
    wp_walk using begun
    refine wpAny_stack_any fun st => wpAny_pure ?_
    split
    · rename_i c _ _ _ _ _
      cases (c == Value.type "enumerate") <;>
      · wp_walk using begun
        exact ⟨_, rfl, h⟩
    · wp_walk using begun
      exact ⟨_, rfl, h⟩
end
section
variable {prog : Program} {w : World} {A : Around} {E : Value → Shared → Prop} {s : Shared}
theorem call_enum1 {v : Value} {o : Obj} {Hh : Heap → Prop} {Q : Value → Shared → Prop} (B : Begins v o Hh) (h1 : Hh s.heap)
    (q : ∀ h', IsEnum h' (s.heap.objs.size + 1) s.heap.objs.size 0 .none → h'.get? s.heap.objs.size = some o → (∀ b u, s.heap.get? b = some u → h'.get? b = some u) → Q (.ref (s.heap.objs.size + 1)) { s with heap := h' }) :
    wpAny (model prog w) A (call (.type "enumerate") [v]) Q E s := by
  refine callType_new F.called_enumerate (by decide) (F.typeCall_enumerate_1 _) (F.newCall_enumerate_1 _) (fun obj => F.args_object_init_2 obj _) F.entry_enumerate_new (newB1 B) ⟨h1, ?_⟩
  have size : (s.heap.push o).objs.size = s.heap.objs.size + 1 := Heap.size_push ..
  show _ ∧ _
  rw [size]
  have new : IsEnum ((s.heap.push o).push { cls := .type "enumerate", data := .fields #[.none, .bool false, .ref s.heap.objs.size, rawInt 0, .none, .none] }) (s.heap.objs.size + 1) s.heap.objs.size 0 .none := by
    have z := Heap.get?_push_size (s.heap.push o) (o := { cls := .type "enumerate", data := .fields #[.none, .bool false, .ref s.heap.objs.size, rawInt 0, .none, .none] }) rfl
    rw [size] at z
    exact z
  exact ⟨⟨_, new, rfl⟩, q _ new (Heap.get?_push_of_some _ (Heap.get?_push_size _ B.free)) fun b u x => Heap.get?_push_of_some _ (Heap.get?_push_of_some _ x)⟩
end
/-- the tuple at a, each item in a new pair -/
def IteT (K : PySem.W.Frag) (a : Addr) : It :=
  ⟨fun i H => ∃ (xs : List V) (x : V), SqT K H a xs ∧ xs[i]? = some x, fun i H v H' => ∃ T x, v = .ref T ∧ H T = none ∧ H' = upd H T (.tup [.int (i : Nat), x]) ∧ ∀ xs, SqT K H a xs → xs[i]? = some x, fun i H => ∃ xs : List V, SqT K H a xs ∧ xs.length = i⟩
theorem turn_enumT {P : Program} {w : World} {K : PySem.W.Frag} {elts : List Expr} {kk : Nat} {tpos : Pos} (a e it : Addr) (hta : a ≠ it) (hea : e ≠ a) :
    Turn P w K (.Tuple elts kk tpos) (IteT K a) [e, it] e (fun i h => (∃ old, IsEnum h e it ((i : Nat) : Int) old) ∧ h.IsTupleIter it a i ∧ e ≠ it) where
  mem := by simp
  obj := fun i h st b hb => by
    obtain ⟨⟨old, he⟩, ⟨o, ho, hc, hd⟩, _⟩ := st
    rcases (show b = e ∨ b = it by simpa using hb) with z | z
    · rw [z]
      exact ⟨_, he, fun v q => nomatch q⟩
    · rw [z]
      exact ⟨o, ho, fun v q => by
        rw [hd] at q
        cases q⟩
  keep := fun i h h' st k => by
    obtain ⟨⟨old, he⟩, hi, hne⟩ := st
    exact ⟨⟨old, k e (by simp) _ he⟩, hi.at fun o q => k it (by simp) o q, hne⟩
  item := by
    intro X hP hw hK hc i pins s σ H E I hf st hg
    subst hP hw hK
    obtain ⟨⟨old, he⟩, hit, hne⟩ := st
    obtain ⟨xs, x, hq, hx⟩ := hg
    obtain ⟨its, rv, p, hz⟩ := I.tuple hq
    obtain ⟨u, hu, ru⟩ := rv.get hx
    have below : e < s.heap.objs.size := Heap.lt_size he
    have below2 : it < s.heap.objs.size := by
      obtain ⟨_, q, _⟩ := hit
      exact Heap.lt_size q
    have hlt : i < its.toArray.size := by
      rw [List.size_toArray]
      exact (List.getElem?_eq_some_iff.mp hu).1
    refine wpAny_pyNext_enum_itemC (Draws.tuple (A := X.A.in1) (show X.A.in1.handled = none from I.ok.hd hc) it a hta its.toArray) he ⟨hit, p⟩ hlt hne (by simp [hne, hea]) fun y h' tk hy ho hst hT hsz hk => ?_
    have ey : y = u := by
      have : its.toArray[i]? = some u := by simpa using hu
      exact Option.some.inj (hy.symm.trans this)
    subst ey
    refine ⟨_, rfl, wpAny_letOwnedTupleGo_enum (s := { s with heap := h', toks := tk + 1 }) ho fun h'' he' sb => ?_⟩
    have there : h''.get? s.heap.objs.size = some { cls := .type "tuple", data := .seq #[.int i tk, y] } := (sb.2 _ (Nat.ne_of_gt below)).trans hT
    have new : ObjOk X.prog X.w (upd H s.heap.objs.size (.tup [.int (i : Nat), x])) h'' s.heap.objs.size (.tup [.int (i : Nat), x]) :=
      ⟨by show 2 ≤ sizeLine; decide, [.int i tk, y], .cons ⟨_, rfl⟩ (.cons ru .nil), ⟨_, there, rfl, _, rfl⟩⟩
    have I1 : Inv X pins σ (upd H s.heap.objs.size (.tup [.int (i : Nat), x])) { s with heap := h'', toks := tk + 1 } :=
      I.turnedNew (ch := [e, it]) (fun b ob hb q => (sb.2 b (fun z => hb (by simp [z]))).trans (hk b ob (fun z => hb (by simp [z])) (fun z => hb (by simp [z])) q)) hf (Nat.le_refl _) new
    refine ⟨.ref s.heap.objs.size, _, I1, rfl, ⟨_, x, rfl, I.hok.fresh (Nat.le_refl _), rfl, fun ys hy' => by rw [I.tuple_inj hy' hq]; exact hx⟩, ⟨⟨y, ?_⟩, hst.1.at fun o q => (sb.2 it (Ne.symm hne)).trans q, hne⟩, fun b hb => ?_⟩
    · have e1 : ((i + 1 : Nat) : Int) = (i : Int) + 1 := by omega
      rw [e1]
      exact he'
    · have lb : b < s.heap.objs.size := by
        rcases (show b = e ∨ b = it by simpa using hb) with z | z
        · rw [z]
          exact below
        · rw [z]
          exact below2
      rw [upd_ne (Nat.ne_of_lt lb)]
      exact (hf b hb).1
  done := by
    intro X hP hw hK hc i pins s σ H E I hf st hg
    subst hP hw hK
    obtain ⟨⟨old, he⟩, hit, hne⟩ := st
    obtain ⟨xs, hq, hx⟩ := hg
    obtain ⟨its, rv, p, hz⟩ := I.tuple hq
    obtain ⟨f0, f1, f2, f3, f4, f5⟩ := hf it (by simp)
    have hl : its.toArray.size = i := by
      rw [List.size_toArray, ← rv.length]
      exact hx
    refine wpAny_pyNext_enum_endD (Draws.tuple (A := X.A.in1) (show X.A.in1.handled = none from I.ok.hd hc) it a hta its.toArray) he ⟨hl ▸ hit, p⟩ fun h' eb => ⟨rfl, I.turned (t' := s.toks) (fun b o hb q => eb b o hb q) f0 f1 f3 f4 f5⟩
  self := fun A i s Q E st h => by
    obtain ⟨⟨_, he⟩, _⟩ := st
    exact wpAny_pyIter_enum he h
theorem walk_enumT {K : PySem.W.Frag} {a : Addr} {xs : List V} : Walk (IteT K a) xs.length (fun H => SqT K H a xs) (YPair (fun i => some (.int (i : Nat))) (fun i => xs[i]?)) := by
  refine ⟨fun i _ hi q => ⟨xs, xs[i], q, by simp [hi]⟩, fun _ q => ⟨xs, q, rfl⟩, fun i H v H' _ q y => ?_⟩
  obtain ⟨T, x, h1, h2, h3, h4⟩ := y
  exact ⟨T, .int (i : Nat), x, h1, h2, h3, rfl, h4 xs q⟩
/-- enumerate(e), e a list or a tuple -/
def iEnumA (K : PySem.W.Frag) (ta : TA) : TI := fun σ H R => ta σ H fun vs H1 => ∃ a xs, vs = [.ref a] ∧ ((SqL K H1 a xs ∧ R (Ite K a) H1) ∨ (SqT K H1 a xs ∧ R (IteT K a) H1))
theorem pi_enumA {X : Cx} {K : PySem.W.Frag} {e : Expr} {ta : TA} {p pos tpos : Pos} {elts : List Expr} {kk : Nat} (eK : X.K = K) (hg : Gl X "enumerate") (hm : X.mg "enumerate" = none) (ha : PA X [e] ta) (hs : starEach [e] X.env = [(false, eval e X.env)] := by rfl) :
    PI X (.Tuple elts kk tpos) (.Call (.Name "enumerate" p) [e] [] pos) (iEnumA K ta) := by
  subst eK
  refine ⟨fun pins s σ H R I h => ?_⟩
  refine Call_ (ld_blt I hg hm boot_enumerate (PyProof.Rows.callWith_type1 (thn (ha.run pos pins s σ H _ I h) fun us s1 ⟨vs, H1, I1, r1, q1⟩ => ?_) hs rfl))
  obtain ⟨a, xs, rfl, hq⟩ := q1
  cases r1 with
  | cons r rr =>
    cases rr
    cases r
    have fresh : ∀ b ∈ [s1.heap.objs.size + 1, s1.heap.objs.size], FpOk X pins H1 b := fun b hb => by
      have le : s1.heap.objs.size ≤ b := by
        rcases (show b = s1.heap.objs.size + 1 ∨ b = s1.heap.objs.size by simpa using hb) with z | z
        · omega
        · omega
      exact I1.fpOk le (I1.hok.fresh le)
    rcases hq with ⟨hq, q⟩ | ⟨hq, q⟩
    · obtain ⟨its, rv, p', hz⟩ := I1.list hq
      refine call_enumerate_list p'.isList fun h' he hit hsz hk => wpAny_pyIter_enum he ?_
      have I2 : Inv X pins σ H1 { s1 with heap := h' } := I1.kept (t' := s1.toks) hk
      exact ⟨_, [s1.heap.objs.size + 1, s1.heap.objs.size], _, _, H1, rfl, I2, turn_enum a (s1.heap.objs.size + 1) s1.heap.objs.size, ⟨⟨.none, he⟩, hit, Nat.succ_ne_self _⟩, fresh, q⟩
    · obtain ⟨its, rv, p', hz⟩ := I1.tuple hq
      have la : a < s1.heap.objs.size := by
        obtain ⟨o, ho, _⟩ := p'
        exact Heap.lt_size ho
      refine call_enum1 (begins_tuple a its.toArray) p' fun h' he hit hk => wpAny_pyIter_enum he ?_
      have I2 : Inv X pins σ H1 { s1 with heap := h' } := I1.kept (t' := s1.toks) hk
      refine ⟨_, [s1.heap.objs.size + 1, s1.heap.objs.size], _, _, H1, rfl, I2, turn_enumT a (s1.heap.objs.size + 1) s1.heap.objs.size (Nat.ne_of_lt la) (Nat.ne_of_gt (Nat.lt_succ_of_lt la)), ⟨⟨.none, he⟩, ⟨_, hit, rfl, rfl⟩, Nat.succ_ne_self _⟩, fresh, q⟩
theorem walks_enumA {K : PySem.W.Frag} {a : Addr} {G : Hp} {te : TE} {σ : L2.St} {es : List PyData} (h : Ev K a G te σ (fun d => d = .list es ∨ d = .tuple es)) : Walks K a G (iEnumA K (tCons te tNil)) σ es.length (fun i d => ∃ e, es[i]? = some e ∧ d = .tuple [.int (i : Nat), e]) := fun S H1 f s R r => h S H1 f s _ fun v d H2 x2 m c => by
  have step : ∀ (L : Addr) (xs : List V), DA K (off S H2) xs es → ∀ S' i H' x H'', Fr a S' H' → Same (off S H2) (off S' H') → i < xs.length → YPair (fun i => some (.int (i : Nat))) (fun i => xs[i]?) i H' x H'' →
      Ext a H' H'' ∧ (∀ b o, H' b = some o → H'' b = some o) ∧ ∃ d, D K (off S' H'') x d ∧ ∃ e, es[i]? = some e ∧ d = .tuple [.int (i : Nat), e] := by
    rintro L xs mx S' i H' x _ f' e hi ⟨T, y, z, rfl, hT, rfl, ey, ez⟩
    injection ey with ey
    subst ey
    obtain ⟨d, hd, md⟩ := mx.getV ez
    exact ⟨Ext.new hT, fun _ _ q => same_new hT _ _ q, .tuple [.int (i : Nat), d], D.new_tup hT (f'.out hT) (.cons (.int _) (.cons (md.mono e) .nil)), d, hd, rfl⟩
  rcases c with rfl | rfl
  · cases m with
    | @lst L xs _ hL mx => exact ⟨L, xs, rfl, .inl ⟨SqL.of (off_le _ _ hL), r _ _ _ H2 x2 (mx.length ▸ walk_enum (xs := xs) (K := K) (a := L)) (fun S' H' e => SqL.of (off_off e hL)) fun S' i H' x H'' f' e hi y => step L xs mx S' i H' x H'' f' e (by rw [mx.length]; exact hi) y⟩⟩
  · cases m with
    | @tup L xs _ hL mx => exact ⟨L, xs, rfl, .inr ⟨sqT_same off_le hL, r _ _ _ H2 x2 (mx.length ▸ walk_enumT (xs := xs) (K := K) (a := L)) (fun S' H' e => sqT_same (e.trans off_le) hL) fun S' i H' x H'' f' e hi y => step L xs mx S' i H' x H'' f' e (by rw [mx.length]; exact hi) y⟩⟩
end LK
namespace LK
open PySem PySem.Spec L2
open PyProof.Rows hiding St
section
variable {K : PySem.W.Frag} {a : Addr} {S : List Addr} {σ : L2.St} {G H : Hp} {ta tb te : TE} {d e : PyData} {C p : Addr} {ns : List Str} {x : Str} {E : L2.St → XK} {E' : XK}
theorem less_val {d e : PyData} (hd : isRatD d = true) (he : isRatD e = true) : lessD d e = decide (valD d < valD e) := by
  rw [Bool.eq_iff_iff, less_iff hd he, decide_eq_true_iff]
theorem idx_some {x : Str} : ∀ {ns : List Str}, x ∈ ns → ns.idxOf? x = some (ns.idxOf x)
  | n :: ns, h => by
    rw [List.idxOf?_cons, List.idxOf_cons]
    by_cases e : n = x
    · subst e
      simp
    · have h' : x ∈ ns := (List.mem_cons.mp h).elim (fun z => absurd z.symm e) id
      rw [if_neg (by simpa using e), idx_some h']
      have : (n == x) = false := by simpa using e
      rw [this]
      rfl
/-- self.own_places[x] -/
theorem ev_place {i : Nat} (hi : σ[i]? = some (some (.ref p))) (hb : Ev K a G tb σ (· = .str x)) (c : L2.Cls K C) (n : NoAttr K C "own_places") (h : ShAt C G p ns) (hx : x ∈ ns) : Ev K a G (tDGet (tFld K (tVar i) "own_places") tb) σ (· = .int ((ns.idxOf x : Nat) : Int)) := fun S H1 f s Q q => by
  obtain ⟨dx, pl, pd, h1, h2, h3⟩ := h.mono s
  refine ⟨.ref p, hi, p, C, dx, _, .ref pd, rfl, (off_some h1).2, c, n, rfl, ?_⟩
  refine hb S H1 f (s) _ fun v d H2 x2 m e => ?_
  subst e
  cases m
  have h3' := x2.off f.mem _ _ h3
  refine ⟨pd, .int ((ns.idxOf x : Nat) : Int), rfl, ?_, q _ _ H2 x2 (.int _) rfl⟩
  have e : valV (placesK ns) (.inr x) = some (.int ((ns.idxOf x : Nat) : Int)) := by
    rw [valV_places, idx_some hx]
    rfl
  exact e ▸ DGet.k (k := .inr x) (off_some h3').2
end
end LK
set_option Elab.async false
set_option linter.all false
set_option maxRecDepth 100000
set_option maxHeartbeats 1000000
/-! LK35: settings as data: sizes, ==; promises about the order of settings -/
namespace LK
open PySem PySem.Spec L2
open PyProof.Rows hiding St
theorem Row.d_inj {a b : Row} (h : a.d = b.d) : a = b := by
  cases a
  cases b
  simp only [Row.d, PyData.tuple.injEq, List.cons.injEq, PyData.int.injEq, PyData.str.injEq, and_true] at h
  obtain ⟨h1, h2, h3, h4, h5⟩ := h
  rw [h1, h2, h3, h4, h5]
theorem name_lay {n : Str} (h : isNameD (.str n) = true) : PyData.strOk n = true := by
  have small : ∀ c ∈ abc.cps.toList, c < 0x110000 := by decide +kernel
  rw [isName_str, Bool.and_eq_true, List.all_eq_true] at h
  unfold PyData.strOk
  rw [← Array.all_toList, List.all_eq_true]
  intro c mc
  exact decide_eq_true (small c (of_decide_eq_true (h.2 c mc)))
theorem num_flat {s : Nat} {d : PyData} (h : Num s d) : noDict d = true ∧ PyData.canLay0 d = true ∧ d.depth ≤ 1 := by
  have r := h.rat
  match d, r with
  | .int n, _ => exact ⟨rfl, by simp [PyData.canLay0], by simp [PyData.depth]⟩
  | .tuple [.int n, .int l], _ => exact ⟨rfl, by simp [PyData.canLay0, PyData.canLayAll0], by simp [PyData.depth, PyData.depthAll]⟩
section
variable {ls : List Str} {r : Row}
theorem Row.Ok.sz (h : r.Ok ls) : Sz 60 2 r.d := by
  have e : ∀ d ∈ [PyData.int r.l, .int r.t, .str r.w, .str r.f, r.n], Sz 10 1 d := fun d m => by
    simp only [List.mem_cons, List.not_mem_nil, or_false] at m
    have h0 := h.l0
    have h2 := h.l2
    rcases m with rfl | rfl | rfl | rfl | rfl
    · exact (sz_int (Nat.lt_trans (show r.l.natAbs < 2 ^ 4 by omega) (Nat.pow_lt_pow_right (by decide) (by decide)))).up (by decide) (by decide)
    · exact (sz_int (Nat.lt_trans h.tb (Nat.pow_lt_pow_right (by decide) (by decide)))).up (by decide) (by decide)
    · exact (name_sz h.w).up (by decide) (by decide)
    · exact (name_sz h.fo).up (by decide) (by decide)
    · exact (h.n.up (by decide)).sz
  exact sz_tup e (by show 5 * 11 ≤ 60; decide)
theorem Row.Ok.tame (h : r.Ok ls) : Tame r.d := h.sz.tame
theorem Row.Ok.eqOk (h : r.Ok ls) : EqOk r.d := by
  obtain ⟨n1, n2, n3⟩ := num_flat h.n
  refine ⟨by simp [Row.d, noDict, noDictAll, n1], ?_⟩
  unfold SeqAt.shaped
  rw [Bool.and_eq_true]
  refine ⟨by simp [Row.d, PyData.canLay0, PyData.canLayAll0, name_lay h.w, name_lay h.fo, n2], decide_eq_true ?_⟩
  simp only [Row.d, PyData.depth, PyData.depthAll]
  omega
theorem rows_eqOk {rs : List Row} (h : ∀ r ∈ rs, r.Ok ls) : EqOk (.list (rs.map Row.d)) := by
  have k : noDictAll (rs.map Row.d) = true ∧ PyData.canLayAll0 (rs.map Row.d) = true ∧ PyData.depthAll (rs.map Row.d) ≤ 60 := by
    induction rs with
    | nil => exact ⟨rfl, by simp [PyData.canLayAll0], by simp [PyData.depthAll]⟩
    | cons r rs ih =>
      obtain ⟨a, b, c⟩ := ih fun z m => h z (List.mem_cons_of_mem _ m)
      have e := (h r (by simp)).eqOk
      have dp := (h r (by simp)).sz.dp
      simp only [List.map_cons, noDictAll, PyData.canLayAll0, PyData.depthAll, e.nd, SeqAt.canLay_of_shaped e.sh, a, b, Bool.and_self, true_and]
      omega
  refine ⟨by simpa [noDict] using k.1, ?_⟩
  unfold SeqAt.shaped
  rw [Bool.and_eq_true]
  refine ⟨by simpa [PyData.canLay0] using k.2.1, decide_eq_true ?_⟩
  simp only [PyData.depth]
  omega
theorem rank_eqOk (h : r.Ok ls) : EqOk (.tuple (rankD ls r)) ∧ EqOk (.list (rankD ls r)) := by
  have a : noDictAll (rankD ls r) = true := rfl
  have b : PyData.canLayAll0 (rankD ls r) = true := by simp [rankD, PyData.canLay0, PyData.canLayAll0, name_lay h.w]
  have c : PyData.depthAll (rankD ls r) ≤ 1 := by
    simp only [rankD, PyData.depth, PyData.depthAll]
    omega
  constructor
  · refine ⟨a, ?_⟩
    unfold SeqAt.shaped
    rw [Bool.and_eq_true]
    refine ⟨by simpa [PyData.canLay0] using b, decide_eq_true ?_⟩
    simp only [PyData.depth]
    omega
  · refine ⟨a, ?_⟩
    unfold SeqAt.shaped
    rw [Bool.and_eq_true]
    refine ⟨by simpa [PyData.canLay0] using b, decide_eq_true ?_⟩
    simp only [PyData.depth]
    omega
end
theorem rank_alike (ls : List Str) (a b : Row) : PySem.W.alikeAll (rankD ls a) (rankD ls b) = true := by simp [rankD, PySem.W.alikeAll, PySem.W.alike]
/-! promises -/
def prePl (ns : List Str) (ds : List PyData) : Prop := ∃ x : Str, ds = [.str x] ∧ x ∈ ns
def postPl (ns : List Str) (ds : List PyData) (r : PyData) : Prop := ∃ x : Str, ds = [.str x] ∧ r = .int ((ns.idxOf x : Nat) : Int)
abbrev MPl (P : Program) (w : World) (K : PySem.W.Frag) (mg : Str → Option Value) (base : Heap) (C : Addr) : Prop := MtG P w K mg base CX0 3 C "place" ["self", "field"] [] (spM K C prePl postPl)
def preCn (ds : List PyData) : Prop := ∃ es, ds = [.list es] ∧ ∀ z ∈ es, Num 300 z
abbrev FCn (P : Program) (w : World) (K : PySem.W.Frag) (mg : Str → Option Value) (base : Heap) : Prop := Df P w K mg base CX0 3 "check_numbers" ["values"] (spG K preCn fun _ r => r = .none)
def preLs (ds : List PyData) : Prop := ∃ d e, ds = [d, e] ∧ Num 300 d ∧ Num 300 e
abbrev FLs (P : Program) (w : World) (K : PySem.W.Frag) (mg : Str → Option Value) (base : Heap) : Prop := Df P w K mg base CX0 4 "is_less" ["first", "second"] (spG K preLs (post2 fun d e => .bool (lessD d e)))
abbrev FTp (P : Program) (w : World) (K : PySem.W.Frag) (mg : Str → Option Value) (base : Heap) : Prop := Df1 P w K mg base 1 "top_and_low" "value" topLow
def preR (ns : List Str) (ds : List PyData) : Prop := ∃ r : Row, ds = [r.d] ∧ r.Ok ns
abbrev FCS (P : Program) (w : World) (K : PySem.W.Frag) (mg : Str → Option Value) (base : Heap) (C : Addr) : Prop := Df P w K mg base CX0 4 "check_setting" ["sheet", "value"] (spM K C preR fun _ _ r => r = .none)
def preRs (ns : List Str) (ds : List PyData) : Prop := ∃ rs : List Row, (ds = [.list (rs.map Row.d)] ∨ ds = [.tuple (rs.map Row.d)]) ∧ (∀ r ∈ rs, r.Ok ns) ∧ rs.length ≤ 1000
abbrev FCSs (P : Program) (w : World) (K : PySem.W.Frag) (mg : Str → Option Value) (base : Heap) (C : Addr) : Prop := Df P w K mg base CX0 4 "check_settings" ["sheet", "settings"] (spM K C preRs fun _ _ r => r = .none)
def postRk (ns : List Str) (ds : List PyData) (z : PyData) : Prop := ∃ r : Row, ds = [r.d] ∧ z = .tuple (rankD ns r)
abbrev FRk (P : Program) (w : World) (K : PySem.W.Frag) (mg : Str → Option Value) (base : Heap) (C : Addr) : Prop := Df P w K mg base CX0 4 "rank_of" ["sheet", "setting"] (spM K C preR postRk)
def preAb (ns : List Str) (ds : List PyData) : Prop := ∃ a b : Row, ds = [a.d, b.d] ∧ a.Ok ns ∧ b.Ok ns
def postAb (ns : List Str) (ds : List PyData) (z : PyData) : Prop := ∃ a b : Row, ds = [a.d, b.d] ∧ z = .bool (aboveR ns a b)
abbrev FAb (P : Program) (w : World) (K : PySem.W.Frag) (mg : Str → Option Value) (base : Heap) (C : Addr) : Prop := Df P w K mg base CX0 5 "is_above" ["sheet", "first", "second"] (spM K C preAb postAb)
section
variable {K : PySem.W.Frag} {a : Addr} {S : List Addr} {σ : L2.St} {G H : Hp} {ta tb te : TE} {C p : Addr} {ns : List Str} {x : Str} {E : L2.St → XK} {E' : XK} {r q : Row}
theorem ev_placeF {i : Nat} (hi : σ[i]? = some (some (.ref p))) (h : ShAt C G p ns) (hr : Ev K a G te σ (· = .str x)) (hx : x ∈ ns) : Ev K a G (tMethX C "place" (spM K C prePl postPl) [] E (tVar i) (tCons te tNil)) σ (· = .int ((ns.idxOf x : Nat) : Int)) :=
  ev_meth hi h (ea_eq hr ea_nil) (fun _ e => ⟨x, e, hx⟩) fun ds z e ⟨y, e', z'⟩ => by
    rw [e] at e'
    injection e' with e'
    injection e' with e'
    rw [z', e']
theorem ev_rank {i : Nat} (hi : σ[i]? = some (some (.ref p))) (h : ShAt C G p ns) (hr : Ev K a G te σ (· = r.d)) (ok : r.Ok ns) : Ev K a G (tCall (spM K C preR postRk) [] E' (tCons (tVar i) (tCons te tNil))) σ (· = .tuple (rankD ns r)) :=
  ev_callM hi h (ea_eq hr ea_nil) (fun _ e => ⟨r, e, ok⟩) fun ds z e ⟨y, e', z'⟩ => by
    rw [e] at e'
    injection e' with e'
    rw [z', Row.d_inj e']
theorem ev_above {i : Nat} (hi : σ[i]? = some (some (.ref p))) (h : ShAt C G p ns) (ha : Ev K a G ta σ (· = r.d)) (hb : Ev K a G tb σ (· = q.d)) (ok : r.Ok ns) (ok' : q.Ok ns) : Ev K a G (tCall (spM K C preAb postAb) [] E' (tCons (tVar i) (tCons ta (tCons tb tNil)))) σ (· = .bool (aboveR ns r q)) :=
  ev_callM hi h (ea_eq ha (ea_eq hb ea_nil)) (fun _ e => ⟨r, q, e, ok, ok'⟩) fun ds z e ⟨y, y', e', z'⟩ => by
    rw [e] at e'
    injection e' with e1 e'
    injection e' with e2 _
    rw [z', Row.d_inj e1, Row.d_inj e2]
end
end LK
set_option Elab.async false
set_option linter.all false
set_option maxRecDepth 100000
set_option maxHeartbeats 1000000
/-! LK36: strongest first, walked -/
namespace LK
open PySem PySem.Spec L2
open PyProof.Rows hiding St
def aboveD (ns : List Str) (r : Row) : PyData → Bool
  | .tuple [.int l, .int t, .str w, .str f, n] => aboveR ns ⟨l, t, w, f, n⟩ r
  | _ => false
theorem aboveD_d {ns : List Str} {r z : Row} : aboveD ns r z.d = aboveR ns z r := rfl
theorem above_filter {ns : List Str} {r : Row} (found : List Row) : (found.map Row.d).filter (aboveD ns r) = (found.filter fun z => aboveR ns z r).map Row.d := by
  rw [List.filter_map]
  rfl
theorem any_map {r : Row} (found : List Row) : ((found.map Row.d).any fun z => PyData.eqv z r.d) = found.any fun z => PyData.eqv z.d r.d := by
  rw [List.any_map]
  rfl
section
variable {K : PySem.W.Frag} {a : Addr} {S : List Addr} {σ : L2.St} {G H : Hp} {ta tb te : TE} {Dn : Ends} {L : Addr} {acc : List V}
theorem q_insertV {i j k : Nat} {x : V} (hi : σ[i]? = some (some (.ref L))) (hj : σ[j]? = some (some x)) (hL : H L = some (.lst acc)) (hLa : L ≠ a) (hl : acc.length ≤ 100000) (hk : k ≤ 100000) (h : Ev K a G te σ (· = .int (k : Nat))) (f : Fr a S H) (s : Same G (off S H))
    (q : ∀ H', Ext a H H' → Fr a S H' → H' L = some (.lst acc) → Dn.nx σ (upd H' L (.lst (acc.take k ++ [x] ++ acc.drop k)))) : tDrop (tBM K "list" rInsert (tVar i) (tCons te (tCons (tVar j) tNil))) Dn σ H :=
  ⟨.ref L, hi, .inl ⟨rfl, _, SqL.of hL⟩, h S H f s _ fun v d H2 x2 m e => by
    subst e
    cases m
    exact ⟨x, hj, L, acc, (k : Nat), x, rfl, rfl, x2.keep _ _ hLa hL, Nat.lt_of_le_of_lt hl (by decide), by omega, by omega, q H2 x2 (f.ext x2) (x2.keep _ _ hLa hL)⟩⟩
/-- strongest_first: a new list -/
def spSf (K : PySem.W.Frag) (C : Addr) : Sp := fun vs H Q _ => ∃ (a : Addr) (S : List Addr) (p : Addr) (ns : List Str) (v : V) (d : PyData) (rs : List Row),
  vs = [.ref p, v] ∧ Fr a S H ∧ ShAt C (off S H) p ns ∧ D K (off S H) v d ∧ (d = .list (rs.map Row.d) ∨ d = .tuple (rs.map Row.d)) ∧ (∀ r ∈ rs, r.Ok ns) ∧ rs.length ≤ 1000 ∧
    ∀ L xs H', Ext a H H' → H L = none → H' L = some (.lst xs) → DA K (off (L :: S) H') xs ((sortR ns rs).map Row.d) → Q (.ref L) H'
theorem sort_len {ns : List Str} : ∀ (rs acc : List Row), (rs.foldl (insR ns) acc).length ≤ acc.length + rs.length
  | [], acc => by simp
  | r :: rs, acc => by
    have := sort_len (ns := ns) rs (insR ns acc r)
    have e : (insR ns acc r).length ≤ acc.length + 1 := by
      unfold insR
      split
      · omega
      · simp only [List.length_append, List.length_take, List.length_drop, List.length_cons, List.length_nil]
        omega
    rw [List.foldl_cons, List.length_cons]
    omega
theorem pos_le {ns : List Str} {r : Row} {found : List Row} : posR ns found r ≤ found.length := List.length_filter_le _ _
/-- the walk of both sorts: a list that grows by insertions -/
theorem rd_sort {tb : TS} {ns : List Str} {rs : List Row} {v : V} {d : PyData} {iv ix : Nat} {ok0 : L2.St → Prop} (hok : ∀ r ∈ rs, r.Ok ns) (hl : rs.length ≤ 1000)
    (hd : d = .list (rs.map Row.d) ∨ d = .tuple (rs.map Row.d)) {H0 : Hp} (f0 : Fr a S H0) (mv : D K (off S H0) v d) (hL0 : H0 L = none) (x0 : Ext a H0 H) (f : Fr a (L :: S) H) (hL : H L = some (.lst []))
    (hv : σ[iv]? = some (some v)) (h0 : ok0 σ) (hset : ∀ σ' x, ok0 σ' → ok0 (σ'.set ix (some x)))
    (body : ∀ (found : List Row) (r : Row) (x : V) (xs : List V) (σ' : L2.St) (H' : Hp) (Dn' : Ends), ok0 σ' → σ'[ix]? = some (some x) → Ext a H0 H' → Fr a (L :: S) H' → H' L = some (.lst xs) → DA K (off (L :: S) H') xs (found.map Row.d) → D K (off (L :: S) H') x r.d → r.Ok ns → (∀ z ∈ found, z.Ok ns) → found.length ≤ 1000 →
      (∀ σ'' H'' ys, ok0 σ'' → Ext a H0 H'' → Fr a (L :: S) H'' → Same (off (L :: S) H') (off (L :: S) H'') → H'' L = some (.lst ys) → DA K (off (L :: S) H'') ys ((insR ns found r).map Row.d) → Dn'.nx σ'' H'') → tb Dn' σ' H')
    (fin : ∀ σ' H' xs, ok0 σ' → Ext a H0 H' → Fr a (L :: S) H' → H' L = some (.lst xs) → DA K (off (L :: S) H') xs ((sortR ns rs).map Row.d) → Dn.nx σ' H') (hsl : ∀ σ' x, ok0 σ' → (σ'.set ix (some x))[ix]? = some (some x)) :
    tFor (iSeq K (tVar iv)) (gName ix) tb Dn σ H := by
  have La : L ≠ a := f0.ne hL0
  have mv' : D K (off (L :: S) H) v d := mv.mono (same_off_in hL0 (x0.off f0.mem))
  have len : ∀ i, (((rs.take i).foldl (insR ns) []).length ≤ 1000) := fun i => by
    have := sort_len (ns := ns) (rs.take i) []
    rw [List.length_take] at this
    simp only [List.length_nil] at this
    omega
  have okf : ∀ i, ∀ z ∈ (rs.take i).foldl (insR ns) [], z.Ok ns := fun i z m => by
    have := (sort_fold (rs.take i) [] (fun z m => hok z (List.mem_of_mem_take m)) (fun _ m => nomatch m) .nil).2 z
    rcases this.mp m with m | m
    · cases m
    · exact hok z (List.mem_of_mem_take m)
  refine q_forD (K := K) (P := fun es => es = rs.map Row.d) (Ev.imp (ev_var hv mv') fun z e => ⟨_, e ▸ hd, rfl⟩) f (Same.refl _) (L :: S) fun es H2 he x2 f2 => ?_
  subst he
  refine ⟨fun i σ' H' => ok0 σ' ∧ Ext a H0 H' ∧ Fr a (L :: S) H' ∧ Same (off (L :: S) H2) (off (L :: S) H') ∧ ∃ xs, H' L = some (.lst xs) ∧ DA K (off (L :: S) H') xs (((rs.take i).foldl (insR ns) []).map Row.d), ⟨h0, x0.trans x2, f2, Same.refl _, [], x2.keep _ _ La hL, .nil⟩, fun i σ' H' ⟨_, _, f', s', _⟩ => ⟨f', s'⟩, ?_, ?_⟩
  · rintro i x e σ' H' H'' hi ⟨o, x', f', s', xs, hxs, mx⟩ x'' me he
    rw [List.getElem?_map] at he
    obtain ⟨r, hr, rfl⟩ := Option.map_eq_some_iff.mp he
    have en : rs.take (i + 1) = rs.take i ++ [r] := by rw [List.take_succ, hr]; rfl
    refine body ((rs.take i).foldl (insR ns) []) r x xs _ H'' _ (hset _ x o) (hsl _ x o) (x'.trans x'') (f'.ext x'') (x''.keep _ _ La hxs) (mx.mono (x''.off f'.mem)) me (hok r (List.mem_of_getElem? hr)) (okf i) (len i) fun σ'' H3 ys o'' x3 f3 s3 hys my => ?_
    refine ⟨o'', x3, f3, (s'.trans (x''.off f'.mem)).trans s3, ys, hys, ?_⟩
    rw [en, List.foldl_append]
    exact my
  · rintro σ' H' ⟨o, x', f', s', xs, hxs, mx⟩
    rw [List.length_map, List.take_length] at mx
    exact fin σ' H' xs o x' f' hxs mx
end
end LK
set_option Elab.async false
set_option linter.all false
set_option maxRecDepth 100000
set_option maxHeartbeats 1000000
/-! LK37: list.index of words; the law's order of settings -/
namespace LK
open PySem PySem.Spec L2
open PyProof.Rows hiding St
theorem str_eqOk {x : Str} (h : isNameD (.str x) = true) : EqOk (.str x) := by
  refine ⟨rfl, ?_⟩
  unfold SeqAt.shaped
  rw [Bool.and_eq_true]
  exact ⟨by simpa [PyData.canLay0] using name_lay h, by simp [PyData.depth]⟩
def preLa (ds : List PyData) : Prop := ∃ (ls : List Str) (a b : Row), ds = [a.d, b.d, .list (ls.map .str)] ∧ a.Ok ls ∧ b.Ok ls ∧ ∀ n ∈ ls, isNameD (.str n) = true
def postLa (ds : List PyData) (z : PyData) : Prop := ∃ (ls : List Str) (a b : Row), ds = [a.d, b.d, .list (ls.map .str)] ∧ z = .bool (aboveR ls a b)
abbrev FLa (P : Program) (w : World) (K : PySem.W.Frag) (mg : Str → Option Value) (base : Heap) : Prop := Df P w K mg base CX0 2 "_law_is_above" ["_law_strong", "_law_weak", "_law_labels"] (spG K preLa postLa)
def preSo (ds : List PyData) : Prop := ∃ (ls : List Str) (rs : List Row), ds = [.list (rs.map Row.d), .list (ls.map .str)] ∧ (∀ r ∈ rs, r.Ok ls) ∧ rs.length ≤ 1000 ∧ ∀ n ∈ ls, isNameD (.str n) = true
def postSo (ds : List PyData) (z : PyData) : Prop := ∃ (ls : List Str) (rs : List Row), ds = [.list (rs.map Row.d), .list (ls.map .str)] ∧ z = .list ((sortR ls rs).map Row.d)
abbrev FSo (P : Program) (w : World) (K : PySem.W.Frag) (mg : Str → Option Value) (base : Heap) : Prop := Df P w K mg base CX0 3 "_law_sorted" ["_law_told_here", "_law_labels"] (spG K preSo postSo)
abbrev FSl (P : Program) (w : World) (K : PySem.W.Frag) (mg : Str → Option Value) (base : Heap) : Prop := Df1 P w K mg base 1 "_law_split" "_law_ratio_here" topLow
section
variable {K : PySem.W.Frag} {a : Addr} {S : List Addr} {σ : L2.St} {G H : Hp} {ta tb te tl : TE} {Dn : Ends} {ns : List Str} {x : Str} {E : XK} {r q : Row} {rs : List Row}
theorem ev_indexS (hl : Ev K a G tl σ (· = .list (ns.map .str))) (h : Ev K a G te σ (· = .str x)) (ok : ∀ n ∈ ns, isNameD (.str n) = true) (hx : x ∈ ns) : Ev K a G (tBM K "list" (rIndexD K) tl (tCons te tNil)) σ (· = .int ((ns.idxOf x : Nat) : Int)) := fun S H1 f s Q q =>
  hl S H1 f s _ fun v d H2 x2 m e => by
    subst e
    cases m with
    | @lst t vs _ ht mv =>
      refine ⟨.inl ⟨rfl, _, SqL.of (off_le _ _ ht)⟩, h S H2 (f.ext x2) (f.same x2 s) _ fun w d' H3 x3 m3 e' => ?_⟩
      subst e'
      have ml : D K (off S H3) (.ref t) (.list (ns.map .str)) := (D.lst ht mv).mono (x3.off f.mem)
      obtain ⟨h1, h2, h3⟩ := List.idxOf?_eq_some_iff.mp (idx_some hx)
      refine ⟨t, w, .str x, ns.map .str, ns.idxOf x, .str x, rfl, rfl, D.dp _ _ (ml.mono off_le) (names_eqOk ok).nd, D.dp _ _ (m3.mono off_le) rfl, (names_eqOk ok).sh, (str_eqOk (ok x hx)).sh, ?_, by simp [PyData.eqv], ?_, q _ _ H3 (x2.trans x3) (.int _) rfl⟩
      · rw [List.getElem?_map, List.getElem?_eq_getElem h1, h2]
        rfl
      · intro k z hk hz
        rw [List.getElem?_map, List.getElem?_eq_getElem (Nat.lt_trans hk h1)] at hz
        injection hz with hz
        subst hz
        simpa [PyData.eqv] using h3 k hk
theorem ev_labove (ha : Ev K a G ta σ (· = r.d)) (hb : Ev K a G tb σ (· = q.d)) (hl : Ev K a G tl σ (· = .list (ns.map .str))) (ok : r.Ok ns) (ok' : q.Ok ns) (hn : ∀ n ∈ ns, isNameD (.str n) = true) : Ev K a G (tCall (spG K preLa postLa) [] E (tCons ta (tCons tb (tCons tl tNil)))) σ (· = .bool (aboveR ns r q)) :=
  ev_callE (ea_eq ha (ea_eq hb (ea_eq hl ea_nil))) ⟨ns, r, q, rfl, ok, ok', hn⟩ fun z ⟨ls, y, y', e, z'⟩ => by
    injection e with e1 e
    injection e with e2 e
    injection e with e3 _
    injection e3 with e3
    rw [z', Row.d_inj e1, Row.d_inj e2, strs_inj e3]
theorem rows_inj {xs ys : List Row} (h : xs.map Row.d = ys.map Row.d) : xs = ys := (List.map_inj_right fun _ _ e => Row.d_inj e).mp h
theorem ev_sorted (ha : Ev K a G ta σ (· = .list (rs.map Row.d))) (hl : Ev K a G tl σ (· = .list (ns.map .str))) (ok : ∀ r ∈ rs, r.Ok ns) (h1 : rs.length ≤ 1000) (hn : ∀ n ∈ ns, isNameD (.str n) = true) : Ev K a G (tCall (spG K preSo postSo) [] E (tCons ta (tCons tl tNil))) σ (· = .list ((sortR ns rs).map Row.d)) :=
  ev_callE (ea_eq ha (ea_eq hl ea_nil)) ⟨ns, rs, rfl, ok, h1, hn⟩ fun z ⟨ls, ys, e, z'⟩ => by
    injection e with e1 e
    injection e with e2 _
    injection e1 with e1
    injection e2 with e2
    rw [z', rows_inj e1, strs_inj e2]
end
end LK
set_option Elab.async false
set_option linter.all false
set_option maxRecDepth 100000
set_option maxHeartbeats 1000000
/-! LK38: drawn settings, with what they hold -/
namespace LK
open PySem PySem.Spec L2
open PyProof.Rows hiding St
structure Row.Ok1 (ls : List Str) (r : Row) : Prop where
  ok : r.Ok ls
  n1 : Num 100 r.n
def RowIs (ls : List Str) (d : PyData) : Prop := ∃ r : Row, d = r.d ∧ r.Ok1 ls
theorem rows_of {ls : List Str} : ∀ {es : List PyData}, (∀ e ∈ es, RowIs ls e) → ∃ rs : List Row, es = rs.map Row.d ∧ ∀ r ∈ rs, r.Ok1 ls
  | [], _ => ⟨[], rfl, fun _ m => nomatch m⟩
  | e :: es, h => by
    obtain ⟨r, rfl, ok⟩ := h e (by simp)
    obtain ⟨rs, rfl, oks⟩ := rows_of fun z m => h z (List.mem_cons_of_mem _ m)
    refine ⟨r :: rs, rfl, fun z m => ?_⟩
    rcases List.mem_cons.mp m with rfl | m
    · exact ok
    · exact oks z m
def postTl2 (ds : List PyData) (r : PyData) : Prop := ∃ (ls : List Str) (x y : PyData) (es : List PyData), ds = [.list (ls.map .str), x, y] ∧ r = .list es ∧ es.length ≤ 40 ∧ ∀ e ∈ es, RowIs ls e
abbrev FTl2 (P : Program) (w : World) (K : PySem.W.Frag) (mg : Str → Option Value) (base : Heap) : Prop := Df P w K mg base CX0 4 "_law_told" ["_law_pot_here", "_law_labels", "_law_folk", "_law_many"] (spP K preTl postTl2)
def CaseIs (d1 d2 d3 d4 : PyData) : Prop := ∃ (n p : Nat) (ls fs : List Str) (rs : List Row), d1 = .list (ls.map .str) ∧ d2 = .list [] ∧ d3 = .list (fs.map .str) ∧ d4 = .list (rs.map Row.d) ∧ WordsOk n ls ∧ WordsOk p fs ∧ 1 ≤ n ∧ 1 ≤ p ∧ n ≤ 12 ∧ p ≤ 12 ∧ rs.length ≤ 40 ∧ ∀ r ∈ rs, r.Ok1 ls
def postCs2 (_ : List PyData) (r : PyData) : Prop := ∃ d1 d2 d3 d4, r = .tuple [d1, d2, d3, d4] ∧ CaseIs d1 d2 d3 d4
abbrev FCs2 (P : Program) (w : World) (K : PySem.W.Frag) (mg : Str → Option Value) (base : Heap) : Prop := Df P w K mg base CX0 5 "_law_case" ["_law_pot_here", "_law_wide", "_law_many", "_law_most"] (spP K preCs postCs2)
/-- a setting close to another one -/
def preCl (ds : List PyData) : Prop := ∃ (ls : List Str) (r : Row), ds = [r.d] ∧ r.Ok1 ls
def postCl (ds : List PyData) (z : PyData) : Prop := ∃ (r q : Row), ds = [r.d] ∧ z = q.d ∧ ∀ ls, r.Ok1 ls → q.Ok ls
abbrev FCl (P : Program) (w : World) (K : PySem.W.Frag) (mg : Str → Option Value) (base : Heap) : Prop := Df P w K mg base CX0 4 "_law_close" ["_law_pot_here", "_law_row"] (spP K preCl postCl)
section
variable {K : PySem.W.Frag} {a : Addr} {σ : L2.St} {G : Hp} {te : TE} {E : XK}
theorem ev_told2 {tl tf : TE} {n p m : Nat} {ls fs : List Str} (wl : WordsOk n ls) (wf : WordsOk p fs) (n1 : 1 ≤ n) (p1 : 1 ≤ p) (n12 : n ≤ 12) (p12 : p ≤ 12) (hm : m ≤ 40) (hi : σ[0]? = some (some (.ref a))) (hl : Ev K a G tl σ (· = .list (ls.map .str))) (hf : Ev K a G tf σ (· = .list (fs.map .str))) (h : Ev K a G te σ (IsI fun i => 0 ≤ i ∧ i ≤ (m : Nat))) :
    Ev K a G (tCall (spP K preTl postTl2) [] E (tCons (tVar 0) (tCons tl (tCons tf (tCons te tNil))))) σ (fun d => ∃ rs : List Row, d = .list (rs.map Row.d) ∧ rs.length ≤ 40 ∧ ∀ r ∈ rs, r.Ok1 ls) :=
  ev_callP hi (ea_cons hl (ea_cons hf (ea_one h))) (fun ds ⟨d1, _, e1, h1, d2, _, e2, h2, d3, e3, i, e4, h3, h4⟩ => ⟨n, p, ls, fs, i.toNat, by rw [e1, e2, e3, e4, h1, h2, Int.toNat_of_nonneg h3], wl, wf, n1, p1, n12, p12, by omega⟩) fun ds r ⟨d1, _, e1, h1, _⟩ ⟨ls', x, y, es, e, er, l, hes⟩ => by
    rw [e1, h1] at e
    injection e with e _
    injection e with e
    obtain rfl := strs_inj e
    obtain ⟨rs, rfl, ok⟩ := rows_of hes
    exact ⟨rs, er, by simpa using l, ok⟩
end
end LK
namespace LK
open PySem PySem.Spec L2
open PyProof.Rows hiding St
theorem r2_catG {K : PySem.W.Frag} {a : Addr} {ds es : List PyData} (h : ds.length + es.length ≤ 1000000) : R2D K a (rCatG K) (.tuple ds) (.tuple es) (· = .tuple (ds ++ es)) := fun S H x y f m1 m2 Q q => by
  cases m1 with
  | @tup t1 vs _ h1 n1 =>
    cases m2 with
    | @tup t2 ws _ h2 n2 =>
      refine ⟨t1, t2, vs, ws, rfl, rfl, sqT_same off_le h1, sqT_same off_le h2, by rw [n1.length, n2.length]; exact Nat.le_trans h (by decide), fun e => ?_, fun _ e => ?_, fun _ _ p hp => ?_⟩
      · subst e
        cases n1
        exact q _ _ H Ext.refl (.tup h2 n2) rfl
      · subst e
        cases n2
        exact q _ _ H Ext.refl (.tup h1 n1) (by rw [List.append_nil])
      · exact q _ _ _ (Ext.new hp) (D.new_tup hp (f.out hp) (n1.append n2)) rfl
end LK
set_option Elab.async false
set_option linter.all false
set_option maxRecDepth 100000
set_option maxHeartbeats 1000000
/-! LK39: l[::-1] of a list -/
namespace LK
open PySem PySem.Spec L2
open PyProof.Rows hiding St
def tRevL (K : PySem.W.Frag) (te ts : TE) : TE := fun σ H Q => te σ H fun x H1 => ts σ H1 fun y H2 => y = .int (-1) ∧ ∃ a xs, x = .ref a ∧ SqL K H2 a xs ∧ ∀ p, H2 p = none → Q (.ref p) (upd H2 p (.lst xs.reverse))
section
variable {X : Cx} {K : PySem.W.Frag} {e st : Expr} {te ts : TE} {pos p2 : Pos}
theorem pe_revL {ops : Value → Value → List Value} (eK : X.K = K) (he : PE X e te) (hs : PE X st ts) (hsub : ∀ o i, subscripted (.Slice none none (some st) p2) false o i = operate (ops o i) (getItem o i) := by intro _ _; with_unfolding_all rfl) : PE X (.Subscript e (.Slice none none (some st) p2) pos) (tRevL K te ts) := by
  subst eK
  refine ⟨fun pins s σ H Q I h => ?_⟩
  refine Subscript_ (thn (he.run pins s σ H _ I h) fun v s1 ⟨x, H1, I1, r1, q1⟩ => ?_)
  refine wpAny_Slice ?_
  rw [evalPart_none]
  refine wpAny_pure (wpAny_pure ?_)
  rw [evalPart_some]
  refine thn (hs.run pins s1 σ H1 _ I1 q1) fun u s2 ⟨y, H2, I2, r2, ey, a, xs, ex, hx, q⟩ => ?_
  subst ey ex
  obtain ⟨tk, rfl⟩ : ∃ t, u = Value.int (-1) t := r2
  obtain rfl : v = Value.ref a := r1
  have I3 : Inv X pins σ H2 { s2 with heap := s2.heap.push { cls := .type "slice", data := .fields #[.none, .none, .int (-1) tk] } } := I2.kept (t' := s2.toks) fun b ob q => Heap.get?_push_of_some _ q
  obtain ⟨its, r, ht, hz⟩ := I3.list hx
  refine tail_any ht.isList.typeIs slot_list_getitem.lookup ?_ (hsub _ _)
  refine wpAny_getItem_list_slice ht.isList (Heap.IsSliceOf.new ..) .none .none (.int (-1) tk) (by simp) ?_ (by rw [List.size_toArray, ← r.length]; exact hz)
  rw [PySem.W.krv_pick]
  have fr := I3.fresh
  refine ⟨.ref _, _, I3.laid (t' := s2.toks) (o := .lst xs.reverse) (fun b ob q => Heap.get?_push_of_some _ q) (Nat.le_refl _) ?_, rfl, q _ fr⟩
  exact ⟨by rw [List.length_reverse]; exact hz, its.reverse, 0, r.reverse, Heap.get?_push_size _ rfl⟩
end
section
variable {K : PySem.W.Frag} {a : Addr} {S : List Addr} {σ : L2.St} {G H : Hp} {tb te : TE} {ds : List PyData}
theorem ev_revL (h : Ev K a G te σ (· = .list ds)) (hb : Ev K a G tb σ (· = .int (-1))) : Ev K a G (tRevL K te tb) σ (· = .list ds.reverse) := fun S H1 f s Q q =>
  h S H1 f s _ fun v d H2 x2 m e => hb S H2 (f.ext x2) (f.same x2 s) _ fun y dy H3 x3 my e' => by
    subst e e'
    cases my
    have m := m.mono (x3.off f.mem)
    cases m with
    | @lst t vs _ ht mv =>
      exact ⟨rfl, t, vs, rfl, SqL.of (off_le _ _ ht), fun p hp => q _ _ _ ((x2.trans x3).trans (Ext.new hp)) (D.new_lst hp ((f.ext (x2.trans x3)).out hp) mv.rev) rfl⟩
end
end LK
namespace LK
open PySem PySem.Spec L2
open PyProof.Rows hiding St
theorem Row.Ok.turn {ls ms : List Str} {r : Row} (h : r.Ok ls) (e : r.f ∈ ms) : r.Ok ms := ⟨h.l0, h.l2, h.t1, h.tb, h.w, e, h.fo, h.n⟩
theorem Row.Ok.back {ls : List Str} {r : Row} (h : r.Ok ls) : r.Ok ls.reverse := h.turn (List.mem_reverse.mpr h.f)
theorem NamesOk.back {ns : List Str} (h : NamesOk ns) : NamesOk ns.reverse := ⟨by rw [List.length_reverse]; exact h.pos, by rw [List.length_reverse]; exact h.most, (by unfold List.Nodup; rw [List.pairwise_reverse]; exact h.nd.imp fun z => Ne.symm z), fun n m => h.ok n (List.mem_reverse.mp m)⟩
theorem rows_sz {ls : List Str} {rs : List Row} (h : ∀ r ∈ rs, r.Ok ls) (hl : rs.length ≤ 100) : Tame (.list (rs.map Row.d)) :=
  (sz_list (n := 60) (m := 7000) (k := 2) (fun z m => by
    obtain ⟨r, mr, rfl⟩ := List.mem_map.mp m
    exact (h r mr).sz) (by rw [List.length_map]; omega)).tame
theorem sortR_len {ls : List Str} {rs : List Row} : (sortR ls rs).length ≤ rs.length := by
  have := sort_len (ns := ls) rs []
  simpa [sortR] using this
section
variable {K : PySem.W.Frag} {a : Addr} {S : List Addr} {σ : L2.St} {G H : Hp} {te : TE} {C p : Addr} {ns : List Str} {rs : List Row} {E : XK}
theorem ev_sf {i : Nat} (hi : σ[i]? = some (some (.ref p))) (h : ShAt C G p ns) (hr : Ev K a G te σ (fun d => d = .list (rs.map Row.d) ∨ d = .tuple (rs.map Row.d))) (ok : ∀ r ∈ rs, r.Ok ns) (hl : rs.length ≤ 1000) :
    Ev K a G (tCall (spSf K C) [] E (tCons (tVar i) (tCons te tNil))) σ (· = .list ((sortR ns rs).map Row.d)) := fun S H1 f s Q q => ⟨.ref p, hi, hr S H1 f s _ fun v d H2 x2 m hd => by
  show spSf K C [.ref p, v] H2 Q E
  refine ⟨a, S, p, ns, v, d, rs, rfl, f.ext x2, h.mono (f.same x2 s), m, hd, ok, hl, fun L xs H' x' hL hx mx => ?_⟩
  exact q _ _ H' (x2.trans x') (.lst (off_mk ((f.ext x2).out hL) hx) (mx.mono same_off_pop)) rfl⟩
/-- the same where its list will change -/
theorem q_sf {i j : Nat} {Dn : Ends} (hi : σ[i]? = some (some (.ref p))) (h : ShAt C G p ns) (hr : Ev K a G te σ (fun d => d = .list (rs.map Row.d) ∨ d = .tuple (rs.map Row.d))) (ok : ∀ r ∈ rs, r.Ok ns) (hl : rs.length ≤ 1000) (f : Fr a S H) (s : Same G (off S H))
    (q : ∀ L xs H', Ext a H H' → Fr a S H' → H L = none → H' L = some (.lst xs) → DA K (off (L :: S) H') xs ((sortR ns rs).map Row.d) → Dn.nx (σ.set j (some (.ref L))) H') : tAsg (tCall (spSf K C) [] E (tCons (tVar i) (tCons te tNil))) (gName j) Dn σ H := ⟨.ref p, hi, hr S H f s _ fun v d H2 x2 m hd => by
  show spSf K C [.ref p, v] H2 (fun x H1 => gName j x σ H1 Dn.nx) E
  refine ⟨a, S, p, ns, v, d, rs, rfl, f.ext x2, h.mono (f.same x2 s), m, hd, ok, hl, fun L xs H' x' hL hx mx => ?_⟩
  exact q L xs H' (x2.trans x') (f.ext (x2.trans x')) (x2.fresh hL ((f.ext x2).ne hL)) hx mx⟩
/-- is_stronger(sheet, a, b) by position is ev_above; by its parameters' names, second, first, sheet -/
theorem DA.row2 {vs : List V} {r q : Row} (h : DA K H vs [r.d, q.d]) : ∃ v w, vs = [v, w] ∧ D K H v r.d ∧ D K H w q.d := DA.two h
end
end LK
set_option Elab.async false
set_option linter.all false
set_option maxRecDepth 100000
set_option maxHeartbeats 1000000
/-! LK40: a sheet and data at once; a list that grows by another one -/
namespace LK
open PySem PySem.Spec L2
open PyProof.Rows hiding St
section
variable {K : PySem.W.Frag} {a : Addr} {S : List Addr} {σ : L2.St} {G H : Hp} {ta tb te : TE} {C p : Addr} {Cn : List Str → Prop} {d : PyData} {Dn : Ends} {L : Addr} {C1 : PyData → Prop}
theorem q_parSD {i j : Nat} (ha : EvS C a G ta σ Cn) (hb : Ev K a G tb σ (· = d)) (f : Fr a S H) (s : Same G (off S H))
    (q : ∀ p ns v H', Ext a H H' → Fr a S H' → ShAt C (off S H') p ns → Cn ns → D K (off S H') v d → Dn.nx ((σ.set i (some (.ref p))).set j (some v)) H') : tPar i j (tCons ta (tCons tb tNil)) Dn σ H :=
  ha S H f s _ fun p ns H2 x2 sh c => hb S H2 (f.ext x2) (f.same x2 s) _ fun v d' H3 x3 m e => ⟨_, _, rfl, by
    subst e
    exact q p ns v H3 (x2.trans x3) (f.ext (x2.trans x3)) (sh.mono (x3.off f.mem)) c m⟩
/-- x.extend(e): the items stand apart from x -/
theorem q_extend {i : Nat} {acc : List V} (hi : σ[i]? = some (some (.ref L))) (hL : H L = some (.lst acc)) (hLa : L ≠ a) (hl : acc.length ≤ 100000) (h : Ev K a G te σ (fun d => ∃ es, d = .list es ∧ es.length ≤ 100000 ∧ C1 (.list es))) (f : Fr a S H) (s : Same G (off S H))
    (q : ∀ ys es H', Ext a H H' → Fr a S H' → H' L = some (.lst acc) → DA K (off S H') ys es → C1 (.list es) → Dn.nx σ (upd H' L (.lst (acc ++ ys)))) : tDrop (tBM K "list" rExtend (tVar i) (tCons te tNil)) Dn σ H :=
  ⟨.ref L, hi, .inl ⟨rfl, _, SqL.of hL⟩, h S H f s _ fun v d H2 x2 m ⟨es, e, le, c⟩ => by
    subst e
    cases m with
    | @lst t ys _ ht my =>
      exact ⟨L, t, acc, ys, rfl, rfl, x2.keep _ _ hLa hL, off_le _ _ ht, by rw [my.length]; exact Nat.le_trans (Nat.add_le_add hl le) (by decide), q ys es H2 x2 (f.ext x2) (x2.keep _ _ hLa hL) my c⟩⟩
/-- x.reverse(), dropped -/
theorem q_reverse {i : Nat} {acc : List V} (hi : σ[i]? = some (some (.ref L))) (hL : H L = some (.lst acc)) (q : Dn.nx σ (upd H L (.lst acc.reverse))) : tDrop (tBM0 K "list" rReverse (tVar i)) Dn σ H := ⟨.ref L, hi, .inl ⟨rfl, _, SqL.of hL⟩, L, acc, rfl, rfl, hL, q⟩
end
end LK
namespace LK
open PySem PySem.Spec L2
open PyProof.Rows hiding St
section
variable {K : PySem.W.Frag} {a : Addr} {S : List Addr} {σ : L2.St} {G H : Hp} {t0 te : TE}
/-- [e for x, y in pairs] -/
theorem ev_lcP {g : Row → Row → PyData} {i j : Nat} {ps : List (Row × Row)} (h : Ev K a G t0 σ (· = .list (ps.map fun p => PyData.tuple [p.1.d, p.2.d]))) (hn : ps.length < 100000)
    (hj : ∀ x y, wipe (((wipe σ [i, j]).set i (some x)).set j (some y)) [i, j] = wipe σ [i, j])
    (hb : ∀ r q x y G', (r, q) ∈ ps → Same G G' → D K G' x r.d → D K G' y q.d → Ev K a G' te (((wipe σ [i, j]).set i (some x)).set j (some y)) (· = g r q)) :
    Ev K a G (tLc (iSeq K t0) (gTup K 2 (gCons (gName i) (gCons (gName j) gNil))) tYes te [i, j]) σ (· = .list (ps.map fun p => g p.1 p.2)) := by
  have hX : ∀ k d, (ps.map fun p => PyData.tuple [p.1.d, p.2.d])[k]? = some d → ∃ r q, ps[k]? = some (r, q) ∧ d = PyData.tuple [Row.d r, Row.d q] := fun k d e => by
    rw [List.getElem?_map] at e
    obtain ⟨⟨r, q⟩, e1, e2⟩ := Option.map_eq_some_iff.mp e
    exact ⟨r, q, e1, e2.symm⟩
  refine (ev_lcW (p := fun _ _ => true) (Y := fun k d y => ∃ r q, ps[k]? = some (r, q) ∧ y = g r q) (walks_seqL h) (by rw [List.length_map]; exact hn) (takes_pair fun k d e => by
    obtain ⟨r, q, _, e2⟩ := hX k d e
    exact ⟨_, _, e2⟩) ?_).imp ?_
  · rintro k d G' σ' _ sG xd ⟨x, y, d1, d2, e, rfl, m1, m2⟩
    obtain ⟨r, q, e1, e2⟩ := hX k d xd
    rw [e2] at e
    injection e with e
    injection e with e3 e
    injection e with e4 _
    subst e3 e4
    exact ⟨hj x y, et_yes.imp fun _ z => z, fun _ => (hb r q x y G' (List.mem_of_getElem? e1) sG m1 m2).imp fun _ z => ⟨r, q, e1, z⟩⟩
  · rintro z ⟨os, hp, rfl⟩
    obtain ⟨l1, l2⟩ := picks_all hp fun _ _ => rfl
    congr 1
    apply List.ext_getElem?
    intro k
    rw [List.length_map] at l1
    by_cases hk : k < ps.length
    · rw [List.getElem?_map, List.getElem?_eq_getElem hk, List.getElem?_eq_getElem (by omega)]
      obtain ⟨d, _, r, q, e1, e2⟩ := l2 k _ (List.getElem?_eq_getElem (by omega))
      rw [List.getElem?_eq_getElem hk] at e1
      injection e1 with e1
      rw [e2, e1]
      rfl
    · rw [List.getElem?_eq_none (by omega), List.getElem?_eq_none (by rw [List.length_map]; omega)]
end
end LK
namespace LK
open PySem PySem.Spec L2
open PyProof.Rows hiding St
section
variable {K : PySem.W.Frag} {a : Addr} {S : List Addr} {σ : L2.St} {G H : Hp} {ta tb : TE} {C : Addr} {Cn : List Str → Prop} {d : PyData} {Dn : Ends}
/-- x, y = sheet, data where a name is captured: a tuple that is unpacked at once -/
theorem q_tupSD {i j : Nat} (ha : EvS C a G ta σ Cn) (hb : Ev K a G tb σ (· = d)) (f : Fr a S H) (s : Same G (off S H))
    (q : ∀ p ns v H', Ext a H H' → Fr a S H' → ShAt C (off S H') p ns → Cn ns → D K (off S H') v d → Dn.nx ((σ.set i (some (.ref p))).set j (some v)) H') : tAsg (tTup (tCons ta (tCons tb tNil))) (gTup K 2 (gCons (gName i) (gCons (gName j) gNil))) Dn σ H :=
  ha S H f s _ fun p ns H2 x2 sh c => hb S H2 (f.ext x2) (f.same x2 s) _ fun v d' H3 x3 m e => ⟨by show 2 ≤ sizeLine; decide, fun tp ht => by
    subst e
    have x4 : Ext a H3 (upd H3 tp (.tup [.ref p, v])) := Ext.new ht
    exact ⟨tp, _, rfl, .inl (.inl upd_same), rfl, _, _, rfl, _, _, rfl, rfl, q p ns v _ ((x2.trans x3).trans x4) (f.ext ((x2.trans x3).trans x4)) (sh.mono ((x3.trans x4).off f.mem)) c (m.mono (x4.off f.mem))⟩⟩
end
end LK
namespace LK
open PySem PySem.Spec L2
theorem bools_eqOk (bs : List Bool) : EqOk (.list (bs.map .bool)) := by
  have k : noDictAll (bs.map .bool) = true ∧ PyData.canLayAll0 (bs.map .bool) = true ∧ PyData.depthAll (bs.map .bool) ≤ 1 := by
    induction bs with
    | nil => exact ⟨rfl, by simp [PyData.canLayAll0], by simp [PyData.depthAll]⟩
    | cons b bs ih =>
      obtain ⟨a, c, e⟩ := ih
      simp only [List.map_cons, noDictAll, noDict, PyData.canLayAll0, PyData.canLay0, PyData.depthAll, PyData.depth, a, c, Bool.and_self, true_and]
      omega
  refine ⟨by simpa [noDict] using k.1, ?_⟩
  unfold SeqAt.shaped
  rw [Bool.and_eq_true]
  refine ⟨by simpa [PyData.canLay0] using k.2.1, decide_eq_true ?_⟩
  simp only [PyData.depth]
  omega
theorem bools_eqv (bs : List Bool) : PyData.eqv (.list (bs.map .bool)) (.list (bs.map .bool)) = true := by
  rw [PyData.eqv]
  induction bs with
  | nil => rfl
  | cons b bs ih =>
    simp only [List.map_cons, PyData.eqvAll, PyData.eqv, beq_self_eq_true, Bool.true_and]
    exact ih
theorem cut_map {α β : Type} (f : α → β) (xs : List α) (lo hi : Option Int) : cutD (xs.map f) lo hi = (cutD xs lo hi).map f := by
  unfold cutD
  rw [List.length_map, List.map_take, List.map_drop]
end LK
set_option Elab.async false
set_option linter.all false
set_option maxRecDepth 100000
set_option maxHeartbeats 1000000
/-! LK41: is_stronger and strongest_first by keywords in reverse -/
namespace LK
open PySem PySem.Spec L2
open PyProof.Rows hiding St
theorem binds3r {K : PySem.W.Frag} {x qual : Str} {st : Stmt} {f : Addr} {fd : FuncData} {p q r : Str} (F : Fun K x qual st f fd)
    (h : ∀ (kV doc pm : Value) (an : Option Addr) (cdv ct : Value) (u v w : Value), bindArgs (PySem.W.fnOf x qual (defArgs st) (defBody st) (defScope st) .none kV doc pm an cdv ct) ⟨[], [(r, u), (q, v), (p, w)]⟩ = pure [(p, w), (q, v), (r, u)]) : KB0 K fd [p, q, r] [r, q, p] revL := by
  obtain ⟨oc, od, kV, doc, pm, an, cdv, ct, osl, rfl, lk, hcd⟩ := F.ex
  refine ⟨fun s ws _ hl => ?_, fun r => r.reverse⟩
  match ws, hl with
  | [u, v, w], _ => exact .of_eq (h kV doc pm an cdv ct u v w)
section
variable {K : PySem.W.Frag} {a : Addr} {S : List Addr} {σ : L2.St} {G H : Hp} {ta tb te : TE} {C p : Addr} {ns : List Str} {rs : List Row} {E : XK} {r q : Row}
/-- is_stronger(second=.., first=.., sheet=..) -/
theorem ev_kwAb {i : Nat} (hi : σ[i]? = some (some (.ref p))) (h : ShAt C G p ns) (hb : Ev K a G tb σ (· = q.d)) (ha : Ev K a G ta σ (· = r.d)) (ok : r.Ok ns) (ok' : q.Ok ns) : Ev K a G (tCallK0 3 (spM K C preAb postAb) revL E (tCons tb (tCons ta (tCons (tVar i) tNil)))) σ (· = .bool (aboveR ns r q)) := fun S H1 f s Q k =>
  hb S H1 f s _ fun w d' H2 x2 mw e => ha S H2 (f.ext x2) (f.same x2 s) _ fun v d H3 x3 mv e' => by
    subst e e'
    refine ⟨.ref p, hi, rfl, a, S, p, ns, [v, w], [r.d, q.d], rfl, f.ext (x2.trans x3), h.mono (f.same (x2.trans x3) s), .cons mv (.cons (mw.mono (x3.off f.mem)) .nil), ⟨r, q, rfl, ok, ok'⟩, fun z d H4 x4 m4 hz => ?_⟩
    obtain ⟨y, y', e', z'⟩ := hz
    injection e' with e1 e'
    injection e' with e2 _
    exact k z d H4 ((x2.trans x3).trans x4) m4 (by rw [z', Row.d_inj e1, Row.d_inj e2])
/-- strongest_first(settings=.., sheet=..) -/
theorem ev_kwSf {i : Nat} (hi : σ[i]? = some (some (.ref p))) (h : ShAt C G p ns) (hr : Ev K a G te σ (fun d => d = .list (rs.map Row.d) ∨ d = .tuple (rs.map Row.d))) (ok : ∀ r ∈ rs, r.Ok ns) (hl : rs.length ≤ 1000) :
    Ev K a G (tCallK0 2 (spSf K C) revL E (tCons te (tCons (tVar i) tNil))) σ (· = .list ((sortR ns rs).map Row.d)) := fun S H1 f s Q k => hr S H1 f s _ fun v d H2 x2 m hd => by
  refine ⟨.ref p, hi, rfl, a, S, p, ns, v, d, rs, rfl, f.ext x2, h.mono (f.same x2 s), m, hd, ok, hl, fun L xs H' x' hL hx mx => ?_⟩
  exact k _ _ H' (x2.trans x') (.lst (off_mk ((f.ext x2).out hL) hx) (mx.mono same_off_pop)) rfl
end
end LK
set_option Elab.async false
set_option linter.all false
set_option maxRecDepth 100000
set_option maxHeartbeats 1000000
/-! LK42: int of a bool; of two settings one is stronger -/
namespace LK
open PySem PySem.Spec L2
open PyProof.Rows hiding St
theorem one_above {ls : List Str} {r q : Row} (hr : r.Ok ls) (hq : q.Ok ls) : (!PyData.eqv r.d q.d) = (!PyData.eqv (.bool (aboveR ls r q)) (.bool (aboveR ls q r))) := by
  congr 1
  by_cases e : r = q
  · subst e
    rw [(row_eqv hr hr).mpr rfl, above_irrefl]
    rfl
  · have h : PyData.eqv r.d q.d = false := by
      cases z : PyData.eqv r.d q.d with
      | false => rfl
      | true => exact absurd ((row_eqv hr hq).mp z) e
    rw [h]
    cases h1 : aboveR ls r q with
    | false =>
      cases h2 : aboveR ls q r with
      | false => exact absurd (above_total hr hq h1 h2) e
      | true => rfl
    | true =>
      cases h2 : aboveR ls q r with
      | false => rfl
      | true =>
        have := above_trans h1 h2
        rw [above_irrefl] at this
        cases this
theorem bool_eqOk (b : Bool) : EqOk (.bool b) := by
  refine ⟨rfl, ?_⟩
  unfold SeqAt.shaped
  rw [Bool.and_eq_true]
  exact ⟨by simp [PyData.canLay0], by simp [PyData.depth]⟩
theorem bools_eqv1 (b : Bool) : PyData.eqv (.bool b) (.bool b) = true := by simp [PyData.eqv]
theorem maps_of : ∀ {es : List PyData}, (∀ z ∈ es, ∃ r : Row, Row.d r = z) → ∃ rs : List Row, es = rs.map Row.d
  | [], _ => ⟨[], rfl⟩
  | e :: es, h => by
    obtain ⟨r, rfl⟩ := h e (by simp)
    obtain ⟨rs, rfl⟩ := maps_of fun z m => h z (List.mem_cons_of_mem _ m)
    exact ⟨r :: rs, rfl⟩
def rIntB : List V → Hp → VK → Prop := fun vs H Q =>
  (∃ n, vs = [.int n] ∧ Q (.int n) H) ∨
  ∃ b, vs = [.bl b] ∧ Q (.int (if b then 1 else 0)) H
theorem kIntB {X : Cx} : CallR X (.type "int") rIntB := call_int1
theorem ev_intB {K : PySem.W.Frag} {a : Addr} {σ : L2.St} {G : Hp} {te : TE} {b : Bool} (h : Ev K a G te σ (· = .bool b)) : Ev K a G (tCB rIntB (tCons te tNil)) σ (· = .int (if b then 1 else 0)) := fun S H1 f s Q q => h S H1 f s _ fun v d H2 x2 m e => by
  subst e
  cases m
  exact .inr ⟨b, rfl, q _ _ H2 x2 (.int _) rfl⟩
end LK
set_option Elab.async false
set_option linter.all false
set_option maxRecDepth 100000
set_option maxHeartbeats 1000000
/-! LK43: defs and methods called with keywords; a parameter that gathers keywords -/
namespace LK
open PySem PySem.Spec L2 StX
open PyProof.Rows hiding St
/-- a promise over the values by place and those of the keywords -/
abbrev SpK := List V → List V → Hp → VK → XK → Prop
structure FnKw (P : Program) (w : World) (K : PySem.W.Frag) (mg : Str → Option Value) (base : Heap) (CX : CXT) (k : Nat) (f : Addr) (ks : List Str) (sp : SpK) : Prop where
  go : ∀ A : Around, NoG A → Room k A → ∀ (outer : List Env) (s : Shared) (H : Hp), Env0 P w K mg base A outer s H →
    ∀ (us ws : List Value) (vs zs : List V) (Q : VK) (E : XK), Vals vs us → Vals zs ws → sp vs zs H Q E → codeAny (model P w) A (.call (.ref f) ⟨us, ks.zip ws⟩) (CR CX outer P w H s Q E) s
section
variable {P : Program} {w : World} {K : PySem.W.Frag} {mg : Str → Option Value} {base : Heap} {CX : CXT} {k : Nat} {f : Addr} {fd : FuncData} {ps ks : List Str} {sp : Sp}
theorem FnG.kw {g : List Value → List Value → List Value} {gV : List V → List V → List V} (F : FnG P w K mg base CX k f fd ps sp) (hb : KBinds K fd ps ks g gV) : FnKw P w K mg base CX k f ks fun vs zs H Q E => sp (gV vs zs) H Q E :=
  ⟨fun A hg hr outer s H e0 us ws vs zs Q E r rz q => by
    have r2 := hb.rel r rz
    have hl : (g us ws).length = ps.length := by
      rw [← r2.length]
      exact F.size _ _ _ _ q
    have inK : K.In s.heap := e0.mod.kin.keeps fun b o e => (e0.bs b o e).1
    exact F.go A hg hr outer s H e0 ⟨us, ks.zip ws⟩ (g us ws) (gV vs zs) Q E (hb.to s us ws inK hl) r2 q⟩
end
/-! ### the dict of the keywords is laid -/
section
variable {P : Program} {w : World} {A : Around} {E : Value → Shared → Prop} {D : Addr}
theorem set_raw {s : Shared} {es : List DictEntry} {n : Nat} {k : Str} {v : Value} {Q : Unit → Shared → Prop} (hD : s.heap.get? D = some (PySem.W.dictOf es n)) (hs : ∀ e ∈ es, e.key.isStr k = false) (hr : ∀ e ∈ es, e.refKey = false)
    (h : ∀ h', (∀ b, b ≠ D → h'.get? b = s.heap.get? b) → h'.objs.size = s.heap.objs.size → h'.get? D = some (PySem.W.dictOf (es ++ [⟨PyData.keyHash w.params k, .str k s.toks, v⟩]) (n + 1)) → Q () { s with heap := h', toks := s.toks + 1 }) :
    wpAny (model P w) A (nsSet D k v) Q E s := by
  have n1 : es.any (·.key.isStr k) = false := by
    cases q : es.any (·.key.isStr k) with
    | false => rfl
    | true =>
      obtain ⟨e, he, z⟩ := List.any_eq_true.mp q
      rw [hs e he] at z
      cases z
  have n2 : es.any (·.refKey) = false := by
    cases q : es.any (·.refKey) with
    | false => rfl
    | true =>
      obtain ⟨e, he, z⟩ := List.any_eq_true.mp q
      rw [hr e he] at z
      cases z
  have put : Obj.putName k (PyData.keyHash w.params k) (.str k s.toks) v (PySem.W.dictOf es n) = PySem.W.dictOf (es ++ [⟨PyData.keyHash w.params k, .str k s.toks, v⟩]) (n + 1) := by
    rw [PySem.W.putName_dict, PySem.W.putL_new hs]
    show PySem.W.dictOf _ (if es.any (·.key.isStr k) then n else n + 1) = _
    rw [n1]
    rfl
  have free : aRefKeyMayBeTheName k es.toArray = false := by
    rw [aRefKeyMayBeTheName_at, ← Array.any_toList, ← Array.any_toList]
    show (!es.any (·.key.isStr k) && es.any (·.refKey)) = false
    rw [n2, Bool.and_false]
  unfold nsSet
  apply wpAny_bind
  apply wpAny_bind
  refine wpAny_askSetting (wpAny_pure ?_)
  refine wpAny_bind (wpAny_mkText (wpAny_bind (wpAny_loadPart hD ?_)))
  dsimp only
  rw [free]
  refine wpAny_updatePart hD (h _ (fun b hb => ?_) ?_ ?_)
  · exact Heap.get?_update_ne _ _ _ _ hb
  · exact Heap.size_update _ _ _
  · have := Heap.get?_update_self (Obj.putName k (PyData.keyHash w.params k) (.str k s.toks) v) hD (by rw [put]; rfl)
    rw [put] at this
    exact this
theorem fill_raw {Q : PUnit → Shared → Prop} : ∀ (ex : List (Str × Value)) (s : Shared) (es : List DictEntry) (n : Nat), s.heap.get? D = some (PySem.W.dictOf es n) → (∀ e ∈ es, ∀ x ∈ ex, e.key.isStr x.1 = false) → (∀ e ∈ es, e.refKey = false) → (ex.map (·.1)).Nodup →
    (∀ h', (∀ b, b ≠ D → h'.get? b = s.heap.get? b) → h'.objs.size = s.heap.objs.size → h'.get? D = some (PySem.W.dictOf (es ++ PySem.W.kwEs w.params s.toks ex) (n + ex.length)) → Q ⟨⟩ { s with heap := h', toks := s.toks + ex.length }) →
    wpAny (model P w) A (forIn ex PUnit.unit fun x _ => (nsSet D x.1 x.2 >>= fun _ => pure (ForInStep.yield PUnit.unit))) Q E s
  | [], s, es, n, hD, _, _, _, h => by
    rw [List.forIn_nil]
    refine wpAny_pure (h s.heap (fun _ _ => rfl) rfl ?_)
    show s.heap.get? D = some (PySem.W.dictOf (es ++ []) n)
    rw [List.append_nil]
    exact hD
  | x :: r, s, es, n, hD, hs, hr, hn, h => by
    have hn' := List.nodup_cons.mp (show (x.1 :: r.map (·.1)).Nodup from hn)
    rw [List.forIn_cons]
    refine wpAny_bind (wpAny_bind (set_raw hD (fun e he => hs e he x List.mem_cons_self) hr fun h1 k1 z1 d1 => wpAny_pure ?_))
    show wpAny (model P w) A (forIn r PUnit.unit fun x _ => (nsSet D x.1 x.2 >>= fun _ => pure (ForInStep.yield PUnit.unit))) Q E { s with heap := h1, toks := s.toks + 1 }
    refine fill_raw r { s with heap := h1, toks := s.toks + 1 } _ _ d1 (fun e he y hy => ?_) (fun e he => ?_) hn'.2 fun h2 k2 z2 d2 => ?_
    · rcases List.mem_append.mp he with he | he
      · exact hs e he y (List.mem_cons_of_mem _ hy)
      · rw [List.mem_singleton.mp he]
        exact beq_eq_false_iff_ne.mpr fun q => hn'.1 (by rw [q]; exact List.mem_map_of_mem hy)
    · rcases List.mem_append.mp he with he | he
      · exact hr e he
      · rw [List.mem_singleton.mp he]
        rfl
    · have t1 : s.toks + 1 + r.length = s.toks + (x :: r).length := by rw [List.length_cons]; omega
      have t2 : n + 1 + r.length = n + (x :: r).length := by rw [List.length_cons]; omega
      have := h h2 (fun b hb => (k2 b hb).trans (k1 b hb)) (z2.trans z1) (by
        rw [t2, List.append_assoc] at d2
        exact d2)
      show Q ⟨⟩ { s with heap := h2, toks := s.toks + 1 + r.length }
      rw [t1]
      exact this
theorem kw_pairs : ∀ (ks : List Str) (ws : List Value) (t : Tok), PySem.Pairs (mixKind P w) (PySem.W.kwEs w.params t (ks.zip ws)) ((ks.map Sum.inr).zip ws)
  | [], _, _ => .nil
  | _ :: _, [], _ => .nil
  | k :: ks, u :: ws, t => .cons (mixKind_str P w k t) rfl (kw_pairs ks ws (t + 1))
theorem kw_kv : ∀ {ks : List Key} {zs : List V} {ws : List Value}, Vals zs ws → KV (ks.zip zs) (ks.zip ws)
  | [], _, _, _ => .nil
  | _ :: _, _, _, .nil => .nil
  | _ :: _, _, _, .cons r rs => .cons ⟨rfl, r⟩ (kw_kv rs)
end
end LK
set_option Elab.async false
set_option linter.all false
set_option maxRecDepth 100000
set_option maxHeartbeats 1000000
/-! LK44: def f(a, .., **d): the keywords' dict, locked -/
namespace LK
open PySem PySem.Spec L2 StX
open PyProof.Rows hiding St
section
variable {P : Program} {w : World} {K : PySem.W.Frag} {mg : Str → Option Value} {base : Heap} {A : Around} {outer : List Env} {s : Shared} {H : Hp}
theorem env0_up {s2 : Shared} {d : Addr} {u : HO} (e0 : Env0 P w K mg base A outer s H) (kp : ∀ b x, s.heap.get? b = some x → s2.heap.get? b = some x) (sz : s.heap.objs.size ≤ s2.heap.objs.size) (hd : s.heap.objs.size ≤ d) (hf : ∀ b, b < s.heap.objs.size → b ≠ d) (hg : s2.gens = s.gens) (new : ObjOk P w (upd H d u) s2.heap d u) :
    Env0 P w K mg base A outer s2 (upd H d u) := by
  refine ⟨e0.frames, e0.mod, fun b x e => ⟨kp b x (e0.bs b x e).1, ?_⟩, Nat.le_trans e0.bsz sz, Heap.FunFrames.of_keeps (fun b x e _ => ⟨x, kp b x e, rfl⟩) e0.funs, fun b hb => ?_, e0.hok.laid kp hd new, hg ▸ e0.bare⟩
  · rw [upd_ne (hf b (Heap.lt_size (e0.bs b x e).1))]
    exact (e0.bs b x e).2
  · obtain ⟨_, x, hx, _⟩ := e0.funs.mem hb
    rw [upd_ne (hf b (Heap.lt_size hx))]
    exact e0.frf b hb
theorem kw_dict {ks : List Str} {zs : List V} {ws : List Value} {t : Tok} {n : Nat} {h : Heap} {d : Addr} {H' : Hp} (r : Vals zs ws) (hl : zs.length = ks.length) (nd : ks.Nodup) (hz : ks.length ≤ 100) (hd : (d == sysModules) = false) (hg : h.get? d = some (PySem.W.dictOf (PySem.W.kwEs w.params t (ks.zip ws)) n)) :
    ObjOk P w H' h d (.frz (PySem.W.dictOf (PySem.W.kwEs w.params t (ks.zip ws)) n) (.dK ((ks.map Sum.inr).zip zs))) := by
  refine ⟨hg, ?_⟩
  have lz : ((ks.map Sum.inr).zip zs : List (Key × V)).length ≤ 100 := by
    rw [List.length_zip, List.length_map, hl]
    omega
  refine dk_new (Nat.le_trans lz (by decide)) hd (kw_kv r) ⟨_, _, _, hg, ⟨rfl, rfl, rfl⟩, rfl, fun e he => ?_, kw_pairs ks ws t, ?_⟩
  · obtain ⟨k, u, hk, hh⟩ := PySem.W.kwEs_key (ks.zip ws) t e (List.mem_toArray.mp he)
    exact ⟨Sum.inr k, by rw [hk]; exact mixKind_str P w k u, hh.trans rfl⟩
  · have e : (((ks.map Sum.inr).zip ws : List (Key × Value)).map (·.1)) = ks.map Sum.inr := by
      rw [List.map_fst_zip]
      rw [List.length_map, ← r.length, hl]
      exact Nat.le_refl _
    rw [e]
    exact List.Pairwise.map _ (fun a b z q => z (by injection q)) nd
end
section
variable {CX : CXT} {P : Program} {w : World} {K : PySem.W.Frag} {mg : Str → Option Value} {base : Heap} {k : Nat} {f : Addr} {name qual : Str} {params : Arguments} {body : List Stmt} {scope : Scope} {dV kV doc pm cdv ct oc : Value} {an od : Option Addr}
  {osl : Array (Option Value)} {N ps ks : List Str} {sp : Sp} {pd : Str}
/-- the dict that the call lays: nobody changes it -/
def spKwD (n m : Nat) (ks : List Str) (sp : Sp) : SpK := fun vs zs H Q E => vs.length = n ∧ zs.length = m ∧ ∀ d o, H d = none → sp (vs ++ [.ref d]) (upd H d (.frz o (.dK ((ks.map Sum.inr).zip zs)))) Q E
theorem fn_kwD (lk : K.lookup f = some ⟨oc, od, .func (PySem.W.fnOf name qual params body scope dV kV doc pm an cdv ct), osl⟩) (hcd : PySem.W.codeIn K cdv qual = true) (S : FnScope N (ps ++ [pd]) scope) (hCX : CXUp CX) (nd : ks.Nodup) (hz : ks.length ≤ 100)
    (hb : ∀ us ws : List Value, us.length = ps.length → ws.length = ks.length → bindArgs (PySem.W.fnOf name qual params body scope dV kV doc pm an cdv ct) ⟨us, ks.zip ws⟩ =
      ((alloc ({ cls := .type "dict", data := .dict #[] } : Obj) : Sem Addr) >>= fun d => (forIn (ks.zip ws) PUnit.unit fun x _ => (nsSet d x.1 x.2 >>= fun _ => pure (ForInStep.yield PUnit.unit))) >>= fun _ => pure (ps.zip us ++ [(pd, Value.ref d)])))
    (hbody : ∀ (A : Around) (outer : List Env) (s : Shared) (H : Hp) (vs : List V) (Q : VK) (E : XK), NoG A → Room k (A.deeper (envOfC qual scope s.heap.objs.size f cdv)) → sp vs H Q E →
      ∃ t, PSs (cxOf CX P w K mg base N qual scope f cdv A outer s H E) body t ∧ t { nx := fun _ H' => Q .non H', rt := Q } (start N vs) H) :
    FnKw P w K mg base CX (k + 1) f ks (spKwD ps.length ks.length ks sp) := by
  refine ⟨fun A hg hr outer s H e0 us ws vs zs Q E r rz ⟨l1, l2, q⟩ => ?_⟩
  have k1 : us.length = ps.length := r.length.symm.trans l1
  have k2 : ws.length = ks.length := rz.length.symm.trans l2
  have hn : H s.heap.objs.size = Option.none := e0.hok.fresh (Nat.le_refl _)
  refine run_bnd lk hcd S hr e0 (G := fun xs H2 => ∃ d o, H d = Option.none ∧ xs = vs ++ [V.ref d] ∧ H2 = upd H d (.frz o (.dK ((ks.map Sum.inr).zip zs)))) (fun A' Ex Q' h => ?_) fun s2 H2 xs ⟨d, o, hd, ex, eH⟩ hr' => ?_
  · rw [hb us ws k1 k2]
    refine wpAny_bind (wpAny_alloc ?_)
    have hD : (s.heap.push ({ cls := .type "dict", data := .dict #[] } : Obj)).get? s.heap.objs.size = some (PySem.W.dictOf [] 0) := Heap.get?_push_size _ rfl
    have e : (ks.zip ws).map (·.1) = ks := List.map_fst_zip (Nat.le_of_eq k2.symm)
    refine wpAny_bind (fill_raw (D := s.heap.objs.size) (ks.zip ws) { s with heap := s.heap.push { cls := .type "dict", data := .dict #[] } } [] 0 hD (fun _ m => nomatch m) (fun _ m => nomatch m) (by rw [e]; exact nd) fun h' kk zz dd => wpAny_pure ?_)
    have kp : ∀ b x, s.heap.get? b = some x → h'.get? b = some x := fun b x q => by
      rw [kk b (Nat.ne_of_lt (Heap.lt_size q))]
      exact Heap.get?_push_of_some _ q
    have sz : s.heap.objs.size ≤ h'.objs.size := by
      rw [zz]
      show _ ≤ (s.heap.push _).objs.size
      rw [Heap.size_push]
      exact Nat.le_succ _
    have big : (s.heap.objs.size == sysModules) = false := by
      rw [beq_eq_false_iff_ne]
      exact Nat.ne_of_gt (env0_big e0)
    have new := kw_dict (P := P) (w := w) (H' := upd H s.heap.objs.size (.frz (PySem.W.dictOf (PySem.W.kwEs w.params s.toks (ks.zip ws)) (0 + (ks.zip ws).length)) (.dK ((ks.map Sum.inr).zip zs)))) (t := s.toks) (n := 0 + (ks.zip ws).length) rz l2 nd hz big dd
    have up := env0_up (s2 := { s with heap := h', toks := s.toks + (ks.zip ws).length }) e0 kp sz (Nat.le_refl _) (fun b hb => Nat.ne_of_lt hb) rfl new
    have un : Un (frs outer) [] H (upd H s.heap.objs.size (.frz (PySem.W.dictOf (PySem.W.kwEs w.params s.toks (ks.zip ws)) (0 + (ks.zip ws).length)) (.dK ((ks.map Sum.inr).zip zs)))) s.heap h' := Un.laid kp (Nat.le_refl _) hn
    have z := h _ _ (vs ++ [V.ref s.heap.objs.size]) (us ++ [Value.ref s.heap.objs.size]) up un rfl (fun e s' => hCX outer s H _ _ E e s' un kp rfl) (r.append (.cons rfl .nil)) (by rw [List.length_append, List.length_append, l1] <;> rfl) ⟨_, _, hn, rfl, rfl⟩
    rw [List.zip_append k1.symm] at z
    exact z
  · subst ex eH
    exact hbody A outer s2 _ _ Q E hg hr' (q d o hd)
end
/-! ### methods called with keywords alone -/
section
variable {X : Cx} {CX : CXT} {k : Nat} {f C : Addr} {ks : List Str} {sp : SpK} {E : St → XK} {m : Str} {pos apos : Pos} {o : Expr} {kws : List Keyword} {tk : TA} {ta : TE}
structure MtKw (P : Program) (w : World) (K : PySem.W.Frag) (mg : Str → Option Value) (base : Heap) (CX : CXT) (k : Nat) (C : Addr) (m : Str) (ks : List Str) (sp : SpK) : Prop where
  ex : ∃ f : Addr, FnKw P w K mg base CX k f ks sp ∧ Meth K C m f
def tMethKw (C : Addr) (m : Str) (sp : SpK) (E : St → XK) (ta : TE) (tk : TA) : TE := fun σ H Q => ta σ H fun x H1 => ∃ a dx fs, x = .ref a ∧ H1 a = some (.ins C dx fs) ∧ fs.lookup m = none ∧ tk σ H1 fun zs H2 => sp [.ref a] zs H2 Q (E σ)
theorem pe_methKw {pl : Sem Bool} (F : MtKw X.prog X.w X.K X.mg X.base CX k C m ks sp) (c : ClsIs X.K C) (hg : NoG X.A) (hr : Room k X.A) (hx : ∀ σ, PassesAt CX X σ (E σ)) (he : PE X o ta) (hkw : PK X kws tk)
    (hall : (backToKw pos (keywordEach kws X.env)).all (·.1.isSome) = true := by rfl) (hks : (backToKw pos (keywordEach kws X.env)).filterMap (·.1) = ks := by rfl)
    (hpl : ((backTo pos (starEach [] X.env)).any (·.1) || (backToKw pos (keywordEach kws X.env)).any (·.1.isNone)) = false := by rfl)
    (hc : eval (.Call (.Attribute o m apos) [] kws pos) X.env = (do
      let ov ← eval o X.env
      standAt apos.atName
      let (g, first) ← holding [ov] (getMethod ov m pl)
      callWith pos g first (backTo pos (starEach [] X.env)) (backToKw pos (keywordEach kws X.env))) := by rfl) :
    PE X (.Call (.Attribute o m apos) [] kws pos) (tMethKw C m sp E ta tk) := by
  obtain ⟨f, G, hm⟩ := F.ex
  constructor
  intro pins s σ H Q I h
  refine PySem.W.methodCall_KW (pl := pl) (thn (he.run pins s σ H _ I h) ?_) hc
  rintro u s1 ⟨x, H1, I1, rx, a, dx, fs, rfl, ea, l, q⟩
  obtain rfl : u = Value.ref a := rx
  refine getmeth_ok I1 ea c.cl hm l ?_
  refine PySem.W.callWith_KW0 (first := [.ref a]) (h₀ := X.base) I.ok.mod.kin hm.kp hall (thn (hkw.run pos pins s1 σ H1 _ I1 q) ?_) hpl
  rintro ws s2 ⟨zs, H2, I2, rz, q2⟩
  refine ⟨I2.kIn, ?_⟩
  rw [hks]
  refine wpAny_call (codeAny_mono (G.go X.A hg hr X.stack s2 H2 I2.env0 [.ref a] ws [.ref a] zs Q (E σ) (.cons rfl .nil) rz q2) fun r' s' z => ?_)
  rcases r' with er | fl
  · exact hx σ pins H2 s2 er s' I2 z
  · cases fl
    case ret u => exact I2.after z
    all_goals exact False.elim z
end
end LK
set_option Elab.async false
set_option linter.all false
set_option maxRecDepth 100000
set_option maxHeartbeats 1000000
/-! LK45: a locked dict of keywords: walked, asked; coefficients by name -/
namespace LK
open PySem PySem.Spec L2
open PyProof.Rows hiding St
theorem d_key {K : PySem.W.Frag} {H : Hp} : ∀ k : Key, D K H (kV k) (kD k)
  | .inl i => .int i
  | .inr x => .str x
section
variable {K : PySem.W.Frag} {a : Addr} {S : List Addr} {σ : L2.St} {G H : Hp} {ta te : TE} {C p d : Addr} {o : Obj} {kvs : List (Key × V)} {es : List PyData} {ns ks : List Str} {x : Str} {zs : List V}
theorem walks_keysF {i : Nat} (hi : σ[i]? = some (some (.ref d))) (hd : G d = some (.frz o (.dK kvs))) : Walks K a G (iKeys (tVar i)) σ kvs.length (fun i e => ∃ k v, kvs[i]? = some (k, v) ∧ e = kD k) := fun S H1 f s R r => by
  refine ⟨.ref d, hi, d, o, rfl, .inl ⟨kvs, off_le _ _ (s _ _ hd), r _ _ _ H1 Ext.refl walk_keys (fun S' H' e => off_off e (s _ _ hd)) ?_⟩⟩
  rintro S' i H' x _ f' e hi ⟨rfl, k, v, hk, rfl⟩
  exact ⟨Ext.refl, fun _ _ z => z, kD k, d_key k, k, v, hk, rfl⟩
theorem walks_valsF {i : Nat} (hi : σ[i]? = some (some (.ref d))) (hd : G d = some (.frz o (.dK kvs))) (me : DA K G (kvs.map (·.2)) es) : Walks K a G (iVals (tVar i)) σ kvs.length (fun i e => es[i]? = some e) := fun S H1 f s R r => by
  refine ⟨.ref d, hi, d, o, kvs, rfl, off_le _ _ (s _ _ hd), r _ _ _ H1 Ext.refl walk_values (fun S' H' e => off_off e (s _ _ hd)) ?_⟩
  rintro S' i H' x _ f' e hi ⟨rfl, k, hk⟩
  obtain ⟨z, hz, mz⟩ := me.getV (i := i) (by rw [List.getElem?_map, hk]; rfl)
  exact ⟨Ext.refl, fun _ _ z => z, z, (mz.mono s).mono e, hz⟩
/-- value not in self.own_places -/
theorem ev_notInP {i : Nat} (ha : Ev K a G ta σ (· = .str x)) (hi : σ[i]? = some (some (.ref p))) (c : Cls K C) (n : NoAttr K C "own_places") (h : ShAt C G p ns) : Ev K a G (tDNotIn ta (tFld K (tVar i) "own_places")) σ (· = .bool (!decide (x ∈ ns))) := fun S H1 f s Q q =>
  ha S H1 f s _ fun v d H2 x2 m e => by
    subst e
    cases m
    obtain ⟨dx, pl, pd, h1, h2, h3⟩ := h.mono (f.same x2 s)
    refine ⟨.ref p, hi, p, C, dx, _, .ref pd, rfl, (off_some h1).2, c, n, ?_, pd, _, rfl, DGet.k (k := .inr x) (off_some h3).2, q _ _ H2 x2 (.bl _) ?_⟩
    · rfl
    · rw [places_some]
/-- what a name was given, 0 if nothing -/
def kwAt (ks : List Str) (es : List PyData) (x : Str) : PyData := match ks, es with
  | k :: ks, e :: es => if k = x then e else kwAt ks es x
  | _, _ => .int 0
theorem kw_get {H : Hp} : ∀ {ks : List Str} {zs : List V} {es : List PyData}, DA K H zs es → D K H ((valV ((ks.map Sum.inr).zip zs) (Sum.inr x : Key)).getD (.int 0)) (kwAt ks es x)
  | [], _, _, _ => by
    simp only [List.map_nil, List.zip_nil_left, valV_nil, kwAt]
    exact .int 0
  | _ :: _, _, _, .nil => by
    simp only [List.zip_nil_right, valV_nil, kwAt]
    exact .int 0
  | k :: ks, _, _, .cons (v := v) (vs := vs) m ms => by
    simp only [List.map_cons, List.zip_cons_cons, kwAt]
    by_cases e : k = x
    · rw [valV_pos (by show (Sum.inr k : Key) = _; rw [e]), if_pos e]
      exact m
    · rw [valV_neg (by intro z; injection z with z; exact e z), if_neg e]
      exact kw_get ms
theorem ev_kwGet {i : Nat} (hi : σ[i]? = some (some (.ref d))) (hd : G d = some (.frz o (.dK ((ks.map Sum.inr).zip zs)))) (me : DA K G zs es) (h : Ev K a G te σ (· = .str x)) : Ev K a G (tDGet2 (tVar i) te (tC (.int 0))) σ (· = kwAt ks es x) := fun S H1 f s Q q => by
  refine ⟨.ref d, hi, d, rfl, .inl ⟨_, .inr ⟨o, off_le _ _ (s _ _ hd)⟩⟩, h S H1 f s _ fun v e H2 x2 m ee => ?_⟩
  subst ee
  cases m
  refine ⟨_, .inl ⟨_, .inr x, .inr ⟨o, off_le _ _ ((s.trans (x2.off f.mem)) _ _ hd)⟩, rfl, rfl⟩, q _ _ H2 x2 ?_ rfl⟩
  exact (kw_get me).mono (s.trans (x2.off f.mem))
end
/-! the coefficients judged -/
def firstUnk (ns ks : List Str) : Option Str := ks.find? fun k => !decide (k ∈ ns)
def firstOdd (es : List PyData) : Option PyData := es.find? fun e => !isIntD e
theorem find_at {α : Type} {p : α → Bool} : ∀ {l : List α} {i : Nat} {x : α}, l[i]? = some x → p x = true → (∀ (j : Nat) (y : α), j < i → l[j]? = some y → p y = false) → l.find? p = some x
  | [], i, x, h, _, _ => by simp at h
  | y :: l, 0, x, h, hp, _ => by
    simp at h
    subst h
    rw [List.find?_cons_of_pos hp]
  | y :: l, i + 1, x, h, hp, hn => by
    rw [List.find?_cons_of_neg (by rw [hn 0 y (by omega) rfl]; decide)]
    exact find_at (by simpa using h) hp fun j z hj hz => hn (j + 1) z (by omega) (by simpa using hz)
theorem find_no {α : Type} {p : α → Bool} {l : List α} (h : ∀ (j : Nat) (y : α), l[j]? = some y → p y = false) : l.find? p = none := by
  rw [List.find?_eq_none]
  intro x m
  obtain ⟨j, hj, e⟩ := List.getElem_of_mem m
  rw [h j x (by rw [List.getElem?_eq_getElem hj, e])]
  decide
/-- Sheet.equation, its dict laid -/
def spEqn (K : PySem.W.Frag) (C CU CN : Addr) (ks : List Str) : Sp := fun vs H Q E => ∃ (a : Addr) (S : List Addr) (p : Addr) (ns : List Str) (d : Addr) (o : Obj) (zs : List V) (es : List PyData),
  vs = [.ref p, .ref d] ∧ Fr a S H ∧ ShAt C (off S H) p ns ∧ NamesOk ns ∧ (off S H) d = some (.frz o (.dK ((ks.map Sum.inr).zip zs))) ∧ DA K (off S H) zs es ∧ es.length = ks.length ∧
  (∀ v H', Ext a H H' → D K (off S H') v (.tuple (ns.map (kwAt ks es))) → firstUnk ns ks = none → firstOdd es = none → Q v H') ∧
  (∀ x v dd H', Ext a H H' → D K (off S H') v (.str x) → firstUnk ns ks = some x → H' dd = some (.xd [("value", v)]) → dd ∉ S → E (.ref CU) (some dd) H') ∧
  ∀ e v dd H', Ext a H H' → D K (off S H') v e → firstUnk ns ks = none → firstOdd es = some e → H' dd = some (.xd [("value", v)]) → dd ∉ S → E (.ref CN) (some dd) H'
/-- a promise over a sheet and data, two ways out -/
def spMX2 (K : PySem.W.Frag) (C C1 : Addr) (f1 : Str) (C2 : Addr) (f2 : Str) (pre : List Str → List PyData → Prop) (post rp1 rp2 : List Str → List PyData → PyData → Prop) : Sp := fun vs H Q E => ∃ (a : Addr) (S : List Addr) (p : Addr) (ns : List Str) (ws : List V) (ds : List PyData),
  vs = .ref p :: ws ∧ Fr a S H ∧ ShAt C (off S H) p ns ∧ NamesOk ns ∧ DA K (off S H) ws ds ∧ pre ns ds ∧ (∀ v d H', Ext a H H' → D K (off S H') v d → post ns ds d → Q v H') ∧
    (∀ v d dd H', Ext a H H' → D K (off S H') v d → rp1 ns ds d → H' dd = some (.xd [(f1, v)]) → dd ∉ S → E (.ref C1) (some dd) H') ∧
    ∀ v d dd H', Ext a H H' → D K (off S H') v d → rp2 ns ds d → H' dd = some (.xd [(f2, v)]) → dd ∉ S → E (.ref C2) (some dd) H'
theorem spMX2_len {K : PySem.W.Frag} {C C1 C2 : Addr} {f1 f2 : Str} {pre : List Str → List PyData → Prop} {post rp1 rp2 : List Str → List PyData → PyData → Prop} {n : Nat} (hp : ∀ ns ds, pre ns ds → ds.length = n) {vs : List V} {H : Hp} {Q : VK} {E : XK} (h : spMX2 K C C1 f1 C2 f2 pre post rp1 rp2 vs H Q E) : vs.length = n + 1 := by
  obtain ⟨a, S, p, ns, ws, ds, rfl, _, _, _, m, pr, _⟩ := h
  rw [List.length_cons, m.length, hp ns ds pr]
section
variable {K : PySem.W.Frag} {a : Addr} {S : List Addr} {σ : L2.St} {G H : Hp} {tk : TA} {tr : TA} {C CU CN p : Addr} {ns ks : List Str} {E : L2.St → XK} {Q : VK} {es : List PyData}
/-- o.equation(k = v, ..) -/
theorem rd_eqn {i m : Nat} (hi : σ[i]? = some (some (.ref p))) (sh : ShAt C G p ns) (nok : NamesOk ns) (h : EvA K a G tk σ (· = es)) (hl : es.length = ks.length) (hm : es.length = m) (f : Fr a S H) (s : Same G (off S H))
    (q : ∀ v H', Ext a H H' → Fr a S H' → D K (off S H') v (.tuple (ns.map (kwAt ks es))) → firstUnk ns ks = none → firstOdd es = none → Q v H')
    (e1 : ∀ x v dd H', Ext a H H' → Fr a S H' → D K (off S H') v (.str x) → firstUnk ns ks = some x → H' dd = some (.xd [("value", v)]) → dd ∉ S → E σ (.ref CU) (some dd) H')
    (e2 : ∀ e v dd H', Ext a H H' → Fr a S H' → D K (off S H') v e → firstUnk ns ks = none → firstOdd es = some e → H' dd = some (.xd [("value", v)]) → dd ∉ S → E σ (.ref CN) (some dd) H') :
    tMethKw C "equation" (spKwD 1 m ks (spEqn K C CU CN ks)) E (tVar i) tk σ H Q := by
  obtain ⟨dx, pl, pd, h1, h2, h3⟩ := sh.mono s
  refine ⟨.ref p, hi, p, dx, _, rfl, (off_some h1).2, rfl, h S H f s _ fun zs ds H1 x1 mz ez => ?_⟩
  subst ez
  refine ⟨rfl, mz.length.trans hm, fun d o hd => ?_⟩
  have f1 := f.ext x1
  have dS := f1.out hd
  have x2 : Ext a H1 (upd H1 d (.frz o (.dK ((ks.map Sum.inr).zip zs)))) := Ext.new hd
  have x12 := x1.trans x2
  have f2 := f.ext x12
  refine ⟨a, S, p, ns, d, o, zs, ds, rfl, f2, (sh.mono s).mono (x12.off f.mem), nok, off_mk dS upd_same, mz.mono (x2.off f1.mem), hl, fun v H' x' mv u1 u2 => q v H' (x12.trans x') (f.ext (x12.trans x')) mv u1 u2, fun x v dd H' x' mv u1 hx hs => e1 x v dd H' (x12.trans x') (f.ext (x12.trans x')) mv u1 hx hs, fun e v dd H' x' mv u1 u2 hx hs => e2 e v dd H' (x12.trans x') (f.ext (x12.trans x')) mv u1 u2 hx hs⟩
end
end LK
set_option Elab.async false
set_option linter.all false
set_option maxRecDepth 100000
set_option maxHeartbeats 1000000
/-! LK46: methods that gather keywords; equations by name -/
namespace LK
open PySem PySem.Spec L2 StX
open PyProof.Rows hiding St
/-- how a def with **pd binds the keywords ks -/
def BindsKw (x qual : Str) (st : Stmt) (ps : List Str) (pd : Str) (ks : List Str) : Prop := ∀ (kV doc pm : Value) (an : Option Addr) (cdv ct : Value) (us ws : List Value), us.length = ps.length → ws.length = ks.length →
  bindArgs (PySem.W.fnOf x qual (defArgs st) (defBody st) (defScope st) .none kV doc pm an cdv ct) ⟨us, ks.zip ws⟩ =
    ((alloc ({ cls := .type "dict", data := .dict #[] } : Obj) : Sem Addr) >>= fun d => (forIn (ks.zip ws) PUnit.unit fun x _ => (nsSet d x.1 x.2 >>= fun _ => pure (ForInStep.yield PUnit.unit))) >>= fun _ => pure (ps.zip us ++ [(pd, Value.ref d)]))
section
variable {P : Program} {w : World} {K : PySem.W.Frag} {mg : Str → Option Value} {base : Heap}
theorem fun_kwD {x qual : Str} {st : Stmt} {f : Addr} {fd : FuncData} {N ps ks : List Str} {pd : Str} {k : Nat} {sp : Sp} (F : Fun K x qual st f fd) (S : FnScope N (ps ++ [pd]) (defScope st)) (nd : ks.Nodup) (hz : ks.length ≤ 100) (hb : BindsKw x qual st ps pd ks)
    (hbody : ∀ (cdv : Value) (A : Around) (outer : List Env) (s : Shared) (H : Hp) (vs : List V) (Q : VK) (E : XK), NoG A → Room k (A.deeper (envOfC qual (defScope st) s.heap.objs.size f cdv)) → sp vs H Q E →
      ∃ t, PSs (cxOf (L2.CX P w) P w K mg base N qual (defScope st) f cdv A outer s H E) (defBody st) t ∧ t { nx := fun _ H' => Q .non H', rt := Q } (start N vs) H) : FnKw P w K mg base (L2.CX P w) (k + 1) f ks (spKwD ps.length ks.length ks sp) := by
  obtain ⟨oc, od, kV, doc, pm, an, cdv, ct, osl, rfl, lk, hcd⟩ := F.ex
  exact fn_kwD lk hcd S cxUp nd hz (fun us ws h1 h2 => hb kV doc pm an cdv ct us ws h1 h2) fun A outer s H vs Q E hg hr hsp => hbody cdv A outer s H vs Q E hg hr hsp
/-- o.m(k = v): one parameter behind self, by its name -/
theorem kb_one {x qual : Str} {st : Stmt} {f : Addr} {fd : FuncData} {p q : Str} (F : Fun K x qual st f fd)
    (h : ∀ (kV doc pm : Value) (an : Option Addr) (cdv ct : Value) (u v : Value), bindArgs (PySem.W.fnOf x qual (defArgs st) (defBody st) (defScope st) .none kV doc pm an cdv ct) ⟨[u], [(q, v)]⟩ = pure [(p, u), (q, v)]) :
    ∀ (s : Shared) (u v : Value), BindsTo s fd ⟨[u], [q].zip [v]⟩ ([p, q].zip [u, v]) := by
  obtain ⟨oc, od, kV, doc, pm, an, cdv, ct, osl, rfl, lk, hcd⟩ := F.ex
  exact fun s u v => .of_eq (h kV doc pm an cdv ct u v)
/-- .. of an ordinary method -/
def spKw1 (sp : Sp) : SpK := fun vs zs H Q E => vs.length = 1 ∧ zs.length = 1 ∧ sp (vs ++ zs) H Q E
theorem FnG.kw1 {CX : CXT} {k : Nat} {f : Addr} {fd : FuncData} {p q : Str} {sp : Sp} (F : FnG P w K mg base CX k f fd [p, q] sp) (hb : ∀ (s : Shared) (u v : Value), BindsTo s fd ⟨[u], [q].zip [v]⟩ ([p, q].zip [u, v])) : FnKw P w K mg base CX k f [q] (spKw1 sp) :=
  ⟨fun A hg hr outer s H e0 us ws vs zs Q E r rz ⟨l1, l2, h⟩ => by
    match vs, us, r, l1 with
    | [v], [u], .cons a .nil, _ =>
      match zs, ws, rz, l2 with
      | [z], [y], .cons b .nil, _ => exact F.go A hg hr outer s H e0 ⟨[u], [q].zip [y]⟩ [u, y] [v, z] Q E (hb s u y) (.cons a (.cons b .nil)) h⟩
end
section
variable {K : PySem.W.Frag} {a : Addr} {σ : L2.St} {G : Hp} {te : TE} {C p : Addr} {ns : List Str} {d : PyData} {Cd : PyData → Prop} {E : L2.St → XK}
/-- o.m(k = v), o in a slot -/
theorem ev_methKw1 {pre : List Str → List PyData → Prop} {post : List Str → List PyData → PyData → Prop} {i : Nat} {m : Str} (hi : σ[i]? = some (some (.ref p))) (h : ShAt C G p ns) (hr : Ev K a G te σ (· = d)) (hp : pre ns [d]) (hc : ∀ r, post ns [d] r → Cd r)
    (hm : ∀ x y : V, ([("own_fields", x), ("own_places", y)] : List (Str × V)).lookup m = none := by intro _ _; rfl) : Ev K a G (tMethKw C m (spKw1 (spM K C pre post)) E (tVar i) (tCons te tNil)) σ Cd := fun S H1 f s Q q => by
  obtain ⟨dx, pl, pd, h1, h2, h3⟩ := h.mono s
  refine ⟨.ref p, hi, p, dx, _, rfl, (off_some h1).2, hm _ _, (ea_eq hr ea_nil) S H1 f s _ fun zs ds H2 x2 mv cv => ?_⟩
  subst cv
  refine ⟨rfl, mv.length, a, S, p, ns, zs, [d], rfl, f.ext x2, h.mono (f.same x2 s), mv, hp, fun v d H3 x3 m3 p3 => q v d H3 (x2.trans x3) m3 (hc d p3)⟩
end
/-! an equation of a sheet with n fields -/
def isEqnD (n : Nat) : PyData → Bool
  | .tuple ds => decide (ds.length = n) && ds.all isIntD
  | _ => false
def preIe (ns : List Str) (ds : List PyData) : Prop := preT ds ∧ ns.length ≤ 100
theorem isEqn_no {n : Nat} {d : PyData} (h : tupD d = false) : isEqnD n d = false := by
  cases d <;> first | rfl | cases h
/-! the ways of calling -/
def givenK : Nat → List Str
  | 0 => []
  | 1 => ["s"]
  | 2 => ["b", "a"]
  | 3 => ["s", "a", "b"]
  | 4 => ["a", "nofield", "b"]
  | _ => ["other", "s", "nofield"]
def preCa (_ : List Str) (ds : List PyData) : Prop := ∃ (w : Nat) (d1 d2 d3 : PyData), ds = [.int w, d1, d2, d3] ∧ w < 6
def esK (w : Nat) (d1 d2 d3 : PyData) : List PyData := [d1, d2, d3].take (givenK w).length
def postCa (ns : List Str) (ds : List PyData) (r : PyData) : Prop := ∃ (w : Nat) (d1 d2 d3 : PyData), ds = [.int w, d1, d2, d3] ∧ firstUnk ns (givenK w) = none ∧ firstOdd (esK w d1 d2 d3) = none ∧ r = .tuple (ns.map (kwAt (givenK w) (esK w d1 d2 d3)))
def rpCu (ns : List Str) (ds : List PyData) (r : PyData) : Prop := ∃ (w : Nat) (d1 d2 d3 : PyData) (x : Str), ds = [.int w, d1, d2, d3] ∧ firstUnk ns (givenK w) = some x ∧ r = .str x
def rpCn (ns : List Str) (ds : List PyData) (r : PyData) : Prop := ∃ (w : Nat) (d1 d2 d3 : PyData), ds = [.int w, d1, d2, d3] ∧ firstUnk ns (givenK w) = none ∧ firstOdd (esK w d1 d2 d3) = some r
/-- what is told of a call -/
def toldK (ns : List Str) (w : Nat) (d1 d2 d3 : PyData) : PyData := match firstUnk ns (givenK w) with
  | some x => .list [.str "unknown", .str x]
  | none => match firstOdd (esK w d1 d2 d3) with
    | some e => .list [.str "refused", e]
    | none => .tuple (ns.map (kwAt (givenK w) (esK w d1 d2 d3)))
theorem way_inj {w v : Nat} {d1 d2 d3 e1 e2 e3 : PyData} (h : ([.int w, d1, d2, d3] : List PyData) = [.int v, e1, e2, e3]) : w = v ∧ d1 = e1 ∧ d2 = e2 ∧ d3 = e3 := by
  injection h with h1 h
  injection h with h2 h
  injection h with h3 h
  injection h with h4 _
  injection h1 with h1
  exact ⟨by omega, h2, h3, h4⟩
def preTo16 (_ : List Str) (ds : List PyData) : Prop := ∃ (w : Nat) (d1 d2 d3 : PyData), ds = [.int w, .list [d1, d2, d3]] ∧ w < 6
def postTo16 (ns : List Str) (ds : List PyData) (r : PyData) : Prop := ∃ (w : Nat) (d1 d2 d3 : PyData), ds = [.int w, .list [d1, d2, d3]] ∧ r = toldK ns w d1 d2 d3
def preDu16 (ds : List PyData) : Prop := ∃ (ns : List Str) (w : Nat) (d1 d2 d3 : PyData), ds = [.list (ns.map .str), .int w, .list [d1, d2, d3]] ∧ w < 6 ∧ ns.length ≤ 100
def postDu16 (ds : List PyData) (r : PyData) : Prop := ∃ (ns : List Str) (w : Nat) (d1 d2 d3 : PyData), ds = [.list (ns.map .str), .int w, .list [d1, d2, d3]] ∧ r = toldK ns w d1 d2 d3
end LK
namespace LK
open PySem PySem.Spec L2
theorem odd29_sz {d : PyData} (h : d ∈ odd29) : Sz 100 3 d := by
  have k : (odd29.all fun d => szB 20 2 d) = true := by decide +kernel
  exact (Sz.of (List.all_eq_true.mp k d h)).up (by decide) (by decide)
end LK
set_option Elab.async false
set_option linter.all false
set_option maxRecDepth 100000
set_option maxHeartbeats 1000000
/-! LK47: calls over a sheet with two ways out; places of names -/
namespace LK
open PySem PySem.Spec L2
open PyProof.Rows hiding St
section
variable {K : PySem.W.Frag} {a : Addr} {S : List Addr} {σ : L2.St} {G H : Hp} {te : TE} {tr : TA} {C p : Addr} {ns : List Str} {ds : List PyData}
theorem callMX2_ok {C1 C2 : Addr} {f1 f2 : Str} {pre : List Str → List PyData → Prop} {post rp1 rp2 : List Str → List PyData → PyData → Prop} {E : L2.St → XK} {Qc : VK} {i : Nat} (hi : σ[i]? = some (some (.ref p))) (sh : ShAt C G p ns) (nok : NamesOk ns) (h : EvA K a G tr σ (· = ds)) (fr : Fr a S H) (s : Same G (off S H)) (hp : pre ns ds)
    (q : ∀ v d H', Ext a H H' → Fr a S H' → D K (off S H') v d → post ns ds d → Qc v H')
    (e1 : ∀ v d dd H', Ext a H H' → Fr a S H' → D K (off S H') v d → rp1 ns ds d → H' dd = some (.xd [(f1, v)]) → dd ∉ S → E σ (.ref C1) (some dd) H')
    (e2 : ∀ v d dd H', Ext a H H' → Fr a S H' → D K (off S H') v d → rp2 ns ds d → H' dd = some (.xd [(f2, v)]) → dd ∉ S → E σ (.ref C2) (some dd) H') : tCallX (spMX2 K C C1 f1 C2 f2 pre post rp1 rp2) [] E (tCons (tVar i) tr) σ H Qc :=
  ⟨.ref p, hi, h S H fr s _ fun vs ds H1 x1 m c => by
    subst c
    show spMX2 K C C1 f1 C2 f2 pre post rp1 rp2 (V.ref p :: vs ++ []) H1 Qc (E σ)
    rw [List.append_nil]
    exact ⟨a, S, p, ns, vs, ds, rfl, fr.ext x1, (sh.mono s).mono (x1.off fr.mem), nok, m, hp, fun v d H2 x2 m2 p => q v d H2 (x1.trans x2) ((fr.ext x1).ext x2) m2 p,
      fun v d dd H2 x2 m2 p hd hS => e1 v d dd H2 (x1.trans x2) ((fr.ext x1).ext x2) m2 p hd hS, fun v d dd H2 x2 m2 p hd hS => e2 v d dd H2 (x1.trans x2) ((fr.ext x1).ext x2) m2 p hd hS⟩⟩
/-- tuple(e), e drawn -/
theorem ev_toTD {A : List PyData → Prop} (h : Ev K a G te σ (fun d => ∃ es, (d = .list es ∨ d = .tuple es) ∧ A es)) : Ev K a G (tCB (rToT K) (tCons te tNil)) σ (fun d => ∃ es, d = .tuple es ∧ A es) := fun S H1 f s Q q => h S H1 f s _ fun v d H2 x2 m ⟨es, c, hA⟩ =>
  (ev_toT (K := K) (a := a) (G := off S H2) (te := fun _ H Q => Q v H) (σ := σ) (ds := es) fun S' H3 f3 s3 Q q => q v d H3 Ext.refl (m.mono s3) c) S H2 (f.ext x2) (Same.refl _) Q fun w e H3 x3 m3 ee => q w e H3 (x2.trans x3) m3 ⟨es, ee, hA⟩
end
theorem kw_idx {x : Str} : ∀ {ks : List Str} {es : List PyData}, x ∈ ks → ks.length ≤ es.length → es[ks.idxOf x]? = some (kwAt ks (es.take ks.length) x)
  | [], _, h, _ => by simp at h
  | k :: ks, [], _, hl => by simp at hl
  | k :: ks, e :: es, h, hl => by
    rw [List.length_cons, List.take_succ_cons, kwAt, List.idxOf_cons]
    by_cases q : k = x
    · subst q
      simp
    · have hb : (k == x) = false := by simpa using q
      rw [if_neg q, hb]
      show (e :: es)[ks.idxOf x + 1]? = _
      rw [List.getElem?_cons_succ]
      refine kw_idx ?_ (by simpa using hl)
      rcases List.mem_cons.mp h with z | z
      · exact absurd z.symm q
      · exact z
theorem kw_not {x : Str} : ∀ {ks : List Str} {es : List PyData}, x ∉ ks → kwAt ks es x = .int 0
  | [], _, _ => by simp [kwAt]
  | k :: ks, [], _ => by simp [kwAt]
  | k :: ks, e :: es, h => by
    rw [kwAt, if_neg fun z => h (by rw [z]; simp)]
    exact kw_not fun z => h (List.mem_cons_of_mem _ z)
theorem givenK_len : ∀ w : Nat, (givenK w).length ≤ 3
  | 0 => by decide
  | 1 => by decide
  | 2 => by decide
  | 3 => by decide
  | 4 => by decide
  | _ + 5 => by show 3 ≤ 3; decide
theorem givenK_ok : ∀ w : Nat, ∀ n ∈ givenK w, isNameD (.str n) = true
  | 0 => by decide +kernel
  | 1 => by decide +kernel
  | 2 => by decide +kernel
  | 3 => by decide +kernel
  | 4 => by decide +kernel
  | _ + 5 => by
    show ∀ n ∈ (["other", "s", "nofield"] : List Str), isNameD (.str n) = true
    decide +kernel
theorem find_filter {α : Type} {p : α → Bool} : ∀ l : List α, l.find? p = (l.filter p).head?
  | [] => rfl
  | x :: l => by
    cases h : p x with
    | true => rw [List.find?_cons_of_pos h, List.filter_cons_of_pos h]; rfl
    | false => rw [List.find?_cons_of_neg (by rw [h]; decide), List.filter_cons_of_neg (by rw [h]; decide), find_filter l]
end LK
namespace LK
open PySem PySem.Spec L2
open PyProof.Rows hiding St
theorem odd_int (e : PyData) : (!isTy "int" e || isTy "bool" e) = !isIntD e := by cases e <;> rfl
theorem given_at : ∀ {w : Nat}, w < 6 → atI ([.list [], .list [.str "s"], .list [.str "b", .str "a"], .list [.str "s", .str "a", .str "b"], .list [.str "a", .str "nofield", .str "b"], .list [.str "other", .str "s", .str "nofield"]] : List PyData) (w : Int) = some (.list ((givenK w).map .str))
  | 0, _ => rfl
  | 1, _ => rfl
  | 2, _ => rfl
  | 3, _ => rfl
  | 4, _ => rfl
  | 5, _ => rfl
  | _ + 6, h => by omega
theorem cut_take {α : Type} {xs : List α} {n : Nat} (h : n ≤ xs.length) : cutD xs none (some (n : Int)) = xs.take n := by
  unfold cutD
  have e1 : HT.sIx xs.length 0 none = 0 := rfl
  have e2 : HT.sIx xs.length xs.length (some (n : Int)) = n := by
    simp only [HT.sIx]
    split <;> omega
  rw [e1, e2, List.drop_zero, Nat.sub_zero]
def preIl (ds : List PyData) : Prop := ∃ (d : PyData) (n : Nat), ds = [d, .int n] ∧ Tame d
def postIl (ds : List PyData) (r : PyData) : Prop := ∃ (d : PyData) (n : Nat), ds = [d, .int n] ∧ r = .bool (isEqnD n d)
def preTh (ds : List PyData) : Prop := ∃ n : Nat, ds = [.int n] ∧ 1 ≤ n ∧ n ≤ 6
def postTh (_ : List PyData) (r : PyData) : Prop := ∃ es, r = .list es ∧ es.length ≤ 20 ∧ ∀ e ∈ es, Sz 2000 6 e
end LK
namespace LK
open PySem PySem.Spec L2
open PyProof.Rows hiding St
section
variable {K : PySem.W.Frag} {a : Addr} {S : List Addr} {σ : L2.St} {G H : Hp} {te tb : TE} {ds : List PyData}
/-- l[:e], e drawn -/
theorem ev_slLT {A : Int → Prop} (h : Ev K a G te σ (· = .list ds)) (hb : Ev K a G tb σ (IsI A)) : Ev K a G (tSl (rSlL K) te tNoPart (tPart tb)) σ (fun d => ∃ i, A i ∧ d = .list (cutD ds none (some i))) := fun S H1 f s Q q =>
  h S H1 f s _ fun v d H2 x2 m e => hb S H2 (f.ext x2) (f.same x2 s) _ fun u du H3 x3 mu ⟨i, eu, hi⟩ => by
    subst e eu
    cases mu
    have x23 := x2.trans x3
    exact ⟨i, rfl, (ev_slLD (K := K) (a := a) (G := off S H3) (σ := σ) (ds := ds) (te := fun _ H Q => Q v H) (tl := tNoPart) (th := fun _ H R => R (some i) H) (fun S' H4 f4 s4 Q q => q v _ H4 Ext.refl ((m.mono (x3.off (f.ext x2).mem)).mono s4) rfl) eo_no fun S' H4 f4 s4 R r => r H4 Ext.refl) S H3 (f.ext x23) (Same.refl _) Q fun w e H4 x4 m4 ee => q w e H4 (x23.trans x4) m4 ⟨i, hi, ee⟩⟩
end
def base16 (j : Nat) : List Str := (["a", "b", "s"] : List Str) ++ (["x", "yy", "othersxx"] : List Str).take j
theorem base16_ok : ∀ {j : Nat}, j < 4 → NamesOk (base16 j)
  | 0, _ => ⟨by decide, by decide, by decide +kernel, by decide +kernel⟩
  | 1, _ => ⟨by decide, by decide, by decide +kernel, by decide +kernel⟩
  | 2, _ => ⟨by decide, by decide, by decide +kernel, by decide +kernel⟩
  | 3, _ => ⟨by decide, by decide, by decide +kernel, by decide +kernel⟩
  | _ + 4, h => by omega
theorem NamesOk.perm {ns ms : List Str} (h : NamesOk ns) (p : ms.Perm ns) : NamesOk ms := ⟨by rw [p.length_eq]; exact h.pos, by rw [p.length_eq]; exact h.most, p.symm.nodup h.nd, fun n m => h.ok n (p.mem_iff.mp m)⟩
/-- a mixed list of strings -/
theorem strs_perm {fs : List PyData} {ns : List Str} (p : fs.Perm (ns.map .str)) : ∃ ms : List Str, fs = ms.map .str ∧ ms.Perm ns := by
  have h : ∀ z ∈ fs, ∃ x : Str, PyData.str x = z := fun z m => by
    obtain ⟨x, _, e⟩ := List.mem_map.mp (p.mem_iff.mp m)
    exact ⟨x, e⟩
  obtain ⟨ms, rfl⟩ : ∃ ms : List Str, fs = ms.map .str := by
    clear p
    induction fs with
    | nil => exact ⟨[], rfl⟩
    | cons f fs ih =>
      obtain ⟨x, rfl⟩ := h f (by simp)
      obtain ⟨ms, rfl⟩ := ih fun z m => h z (List.mem_cons_of_mem _ m)
      exact ⟨x :: ms, rfl⟩
  refine ⟨ms, rfl, ?_⟩
  have q := p.map fun d => match d with | PyData.str x => x | _ => ""
  rw [List.map_map, List.map_map] at q
  have e : ∀ l : List Str, l.map ((fun d => match d with | PyData.str x => x | _ => "") ∘ PyData.str) = l := fun l => List.map_id' l
  rw [e, e] at q
  exact q
theorem told16_sz {ns : List Str} {w : Nat} {d1 d2 d3 : PyData} (nok : NamesOk ns) (h : ∀ d ∈ [d1, d2, d3], Sz 100 3 d) (hw : w < 6) : Tame (toldK ns w d1 d2 d3) := by
  have he : ∀ d ∈ esK w d1 d2 d3, Sz 100 3 d := fun d m => h d (List.mem_of_mem_take m)
  have zero : Sz 100 3 (.int 0) := Sz.of (by decide +kernel)
  have hk : ∀ {ks : List Str} {es : List PyData} {x : Str}, (∀ d ∈ es, Sz 100 3 d) → Sz 100 3 (kwAt ks es x) := by
    intro ks
    induction ks with
    | nil =>
      intro es x _
      rw [kw_not (by simp)]
      exact zero
    | cons k ks ih =>
      intro es x h
      cases es with
      | nil =>
        simp only [kwAt]
        exact zero
      | cons e es =>
        rw [kwAt]
        split
        · exact h e (by simp)
        · exact ih fun d m => h d (List.mem_cons_of_mem _ m)
  unfold toldK
  split
  · rename_i x hx
    have mx := List.mem_of_find?_eq_some hx
    refine (sz_list (n := 100) (m := 400) (k := 3) (fun z mz => ?_) (by show 2 * 101 ≤ 400; decide)).tame
    simp only [List.mem_cons, List.not_mem_nil, or_false] at mz
    rcases mz with rfl | rfl
    · exact Sz.of (by decide +kernel)
    · exact (name_sz (givenK_ok w x mx)).up (by decide) (by decide)
  · split
    · rename_i e hx
      refine (sz_list (n := 100) (m := 400) (k := 3) (fun z mz => ?_) (by show 2 * 101 ≤ 400; decide)).tame
      simp only [List.mem_cons, List.not_mem_nil, or_false] at mz
      rcases mz with rfl | rfl
      · exact Sz.of (by decide +kernel)
      · exact he _ (List.mem_of_find?_eq_some hx)
    · refine (sz_tup (n := 100) (m := 2000) (k := 3) (fun z mz => ?_) (by rw [List.length_map]; have := nok.most; omega)).tame
      obtain ⟨x, _, rfl⟩ := List.mem_map.mp mz
      exact hk he
end LK
set_option Elab.async false
set_option linter.all false
set_option maxRecDepth 100000
set_option maxHeartbeats 4000000
/-! LK48: decimal texts, by their signs (from k14) -/
namespace LK
open PySem PySem.Spec L2
open PyProof.Rows hiding St
open TL (tl numL)
open NumText (digitsVal AllDigits)
/-! ### decimal texts, by their signs -/
def allDig (l : List Nat) : Bool := l.all fun c => decide (48 ≤ c) && decide (c ≤ 57)
theorem allDig_iff {l : List Nat} : allDig l = true ↔ AllDigits l := by
  unfold allDig AllDigits
  simp
def canon (l : List Nat) : Bool := (l == [48]) || !(l.head? == some 48)
def decB (l : List Nat) : Bool := (!(l == []) && allDig l) && canon l
theorem val_app (l : List Nat) (c : Nat) : digitsVal (l ++ [c]) = digitsVal l * 10 + (c - 48) := by
  unfold digitsVal
  rw [List.foldl_append]
  rfl
theorem val_lt : ∀ (n : Nat) (l : List Nat), l.length = n → AllDigits l → digitsVal l < 10 ^ n
  | 0, l, h, _ => by
    rw [List.length_eq_zero_iff.mp h]
    decide
  | n + 1, l, h, d => by
    rcases List.eq_nil_or_concat l with e | ⟨L, c, e⟩
    · rw [e] at h
      cases h
    · rw [List.concat_eq_append] at e
      subst e
      have hl : L.length = n := by simpa using h
      have i := val_lt n L hl fun x m => d x (List.mem_append_left _ m)
      have hc := d c (List.mem_append_right _ (List.mem_singleton.mpr rfl))
      rw [val_app, Nat.pow_succ]
      omega
theorem dec_num : ∀ (n : Nat) (l : List Nat), l.length = n → AllDigits l → l ≠ [] → canon l = true → numL (digitsVal l) = l ∧ (l ≠ [48] → 0 < digitsVal l)
  | 0, l, h, _, hn, _ => absurd (List.length_eq_zero_iff.mp h) hn
  | n + 1, l, h, d, hn, hc => by
    rcases List.eq_nil_or_concat l with e | ⟨L, c, e⟩
    · exact absurd e hn
    · rw [List.concat_eq_append] at e
      subst e
      have hl : L.length = n := by simpa using h
      have dc := d c (List.mem_append_right _ (List.mem_singleton.mpr rfl))
      have dL : AllDigits L := fun x m => d x (List.mem_append_left _ m)
      by_cases e : L = []
      · subst e
        have v : digitsVal ([] ++ [c]) = c - 48 := by
          rw [val_app]
          show 0 * 10 + (c - 48) = c - 48
          omega
        rw [v]
        refine ⟨?_, fun z => ?_⟩
        · rw [TL.numL_lt (by omega)]
          show [48 + (c - 48)] = [c]
          congr 1
          omega
        · have : c ≠ 48 := fun y => z (by rw [y]; rfl)
          omega
      · have hh : L.head? ≠ some 48 := by
          intro z
          have z2 : (L ++ [c]).head? = some 48 := by
            rw [List.head?_append, z]
            rfl
          unfold canon at hc
          rw [z2] at hc
          have z3 : (L ++ [c] == [48]) = false := by
            apply Bool.eq_false_iff.mpr
            intro y
            have y2 := congrArg List.length (beq_iff_eq.mp y)
            have : 0 < L.length := List.length_pos_iff.mpr e
            simp only [List.length_append, List.length_cons, List.length_nil] at y2
            omega
          rw [z3] at hc
          cases hc
        have cL : canon L = true := by
          unfold canon
          rw [Bool.or_eq_true]
          right
          simpa using hh
        have ne48 : L ≠ [48] := fun z => hh (by rw [z]; rfl)
        obtain ⟨i1, i2⟩ := dec_num n L hl dL e cL
        have pos := i2 ne48
        have v := val_app L c
        have big : 10 ≤ digitsVal (L ++ [c]) := by
          rw [v]
          omega
        refine ⟨?_, fun _ => by omega⟩
        rw [TL.numL_step big, v]
        have q1 : (digitsVal L * 10 + (c - 48)) / 10 = digitsVal L := by omega
        have q2 : (digitsVal L * 10 + (c - 48)) % 10 = c - 48 := by omega
        rw [q1, q2, i1]
        congr 2
        omega
theorem num_head : ∀ n : Nat, 0 < n → (numL n).head? ≠ some 48 := by
  intro n
  induction n using Nat.strongRecOn with
  | _ n ih =>
    intro h0
    by_cases h : n < 10
    · rw [TL.numL_lt h]
      intro z
      injection z with z
      omega
    · rw [TL.numL_step (by omega), List.head?_append]
      have i := ih (n / 10) (by omega) (by omega)
      cases e : (numL (n / 10)).head? with
      | none =>
        have := List.head?_eq_none_iff.mp e
        exact absurd this (TL.numL_ne _)
      | some x =>
        rw [e] at i
        exact i
theorem num_dec (n : Nat) : decB (numL n) = true := by
  unfold decB
  rw [Bool.and_eq_true, Bool.and_eq_true]
  refine ⟨⟨?_, allDig_iff.mpr (TL.numL_digits n)⟩, ?_⟩
  · have := TL.numL_ne n
    simpa using this
  · unfold canon
    by_cases h : n = 0
    · subst h
      rw [TL.numL_lt (by decide)]
      rfl
    · have := num_head n (by omega)
      rw [Bool.or_eq_true]
      right
      simpa using this
theorem dec_of {l : List Nat} (h : decB l = true) : AllDigits l ∧ l ≠ [] ∧ canon l = true := by
  unfold decB at h
  rw [Bool.and_eq_true, Bool.and_eq_true] at h
  exact ⟨allDig_iff.mp h.1.2, by simpa using h.1.1, h.2⟩
/-! ### signed -/
def restL (l : List Nat) : List Nat := if l.take 1 = [45] then l.drop 1 else l
def toI (l : List Nat) : Int := if l.take 1 = [45] then -((digitsVal (l.drop 1) : Nat) : Int) else (digitsVal l : Nat)
def parseL (l : List Nat) : Option Int := if (decB (restL l) && !(l == [45, 48])) = true then some (toI l) else none
def textL (i : Int) : List Nat := if i < 0 then 45 :: numL i.natAbs else numL i.natAbs
theorem text_tl (i : Int) : tl (Str.ofString (toString i)) = textL i := by
  unfold textL
  by_cases h : i < 0
  · rw [if_pos h]
    obtain ⟨n, rfl⟩ : ∃ n : Nat, i = Int.negSucc n := by
      cases i with
      | ofNat n => exact absurd h (by simp)
      | negSucc n => exact ⟨n, rfl⟩
    have e : toString (Int.negSucc n) = "-" ++ toString ((n + 1 : Nat) : Int) := rfl
    rw [e, TL.tl_ofString, String.toList_append, List.map_append]
    have e2 := TL.tl_num (n + 1)
    rw [TL.tl_ofString] at e2
    rw [e2]
    rfl
  · rw [if_neg h]
    have e : i = ((i.natAbs : Nat) : Int) := by omega
    rw [e, TL.tl_num]
    congr 1
theorem num_no_minus (n : Nat) : (numL n).take 1 ≠ [45] := by
  intro h
  have := TL.numL_ne n
  cases e : numL n with
  | nil => exact this e
  | cons c r =>
    rw [e] at h
    have hc : c = 45 := by simpa using h
    have d := TL.numL_digits n c (by rw [e]; exact List.mem_cons_self)
    omega
theorem parse_text (i : Int) : parseL (textL i) = some i := by
  unfold textL parseL restL toI
  by_cases h : i < 0
  · rw [if_pos h]
    have t1 : (45 :: numL i.natAbs).take 1 = [45] := rfl
    have t2 : (45 :: numL i.natAbs).drop 1 = numL i.natAbs := rfl
    rw [if_pos t1, if_pos t1, t2, num_dec, TL.numL_val]
    have t3 : (45 :: numL i.natAbs == [45, 48]) = false := by
      apply Bool.eq_false_iff.mpr
      intro z
      have z2 := beq_iff_eq.mp z
      injection z2 with _ z2
      have := num_head i.natAbs (by omega)
      rw [z2] at this
      exact this rfl
    rw [t3]
    simp
    omega
  · rw [if_neg h, if_neg (num_no_minus _), if_neg (num_no_minus _), num_dec, TL.numL_val]
    have t3 : (numL i.natAbs == [45, 48]) = false := by
      apply Bool.eq_false_iff.mpr
      intro z
      have z2 := beq_iff_eq.mp z
      exact num_no_minus i.natAbs (by rw [z2]; rfl)
    rw [t3]
    simp
    omega
theorem text_parse {l : List Nat} {i : Int} (h : parseL l = some i) : textL i = l := by
  unfold parseL at h
  split at h
  · rename_i hd
    injection h with h
    subst h
    rw [Bool.and_eq_true] at hd
    obtain ⟨h1, h2⟩ := hd
    obtain ⟨a, b, c⟩ := dec_of h1
    obtain ⟨e, p⟩ := dec_num _ _ rfl a b c
    unfold toI
    by_cases m : l.take 1 = [45]
    · have r : restL l = l.drop 1 := if_pos m
      rw [r] at e p
      rw [if_pos m]
      have l2 : l = 45 :: l.drop 1 := by
        have := List.take_append_drop 1 l
        rw [m] at this
        exact this.symm
      have pos : 0 < digitsVal (l.drop 1) := p fun z => by
        rw [z] at l2
        rw [l2] at h2
        exact absurd h2 (by decide)
      unfold textL
      rw [if_pos (by omega)]
      have : (-((digitsVal (l.drop 1) : Nat) : Int)).natAbs = digitsVal (l.drop 1) := by omega
      rw [this, e]
      exact l2.symm
    · have r : restL l = l := if_neg m
      rw [r] at e
      rw [if_neg m]
      unfold textL
      rw [if_neg (by omega), Int.natAbs_natCast, e]
  · cases h
theorem toI_lt {l : List Nat} {i : Int} {n : Nat} (h : parseL l = some i) (hl : l.length ≤ n) : i.natAbs < 10 ^ n := by
  unfold parseL at h
  split at h
  · rename_i hd
    injection h with h
    subst h
    rw [Bool.and_eq_true] at hd
    obtain ⟨a, _, _⟩ := dec_of hd.1
    have v := val_lt _ _ rfl a
    have rl : (restL l).length ≤ n := by
      unfold restL
      split
      · rw [List.length_drop]
        omega
      · exact hl
    have v2 : digitsVal (restL l) < 10 ^ n := Nat.lt_of_lt_of_le v (Nat.pow_le_pow_right (by decide) rl)
    unfold toI
    unfold restL at v2
    split
    · rename_i m
      rw [if_pos m] at v2
      omega
    · rename_i m
      rw [if_neg m] at v2
      omega
  · cases h
/-- int(x) of such a text -/
theorem int_parse {x : Str} {i : Int} (h : parseL (tl x) = some i) (hl : x.length ≤ 4300) : intText? x = some i := by
  unfold parseL at h
  split at h
  · rename_i hd
    injection h with h
    subst h
    rw [Bool.and_eq_true] at hd
    obtain ⟨a, b, _⟩ := dec_of hd.1
    unfold toI
    unfold restL at a b
    split
    · rename_i m
      rw [if_pos m] at a b
      have l2 : tl x = 45 :: (tl x).drop 1 := by
        have := List.take_append_drop 1 (tl x)
        rw [m] at this
        exact this.symm
      exact PySem.intText_neg l2 a b hl
    · rename_i m
      rw [if_neg m] at a b
      exact PySem.intText_digits a b hl
  · cases h
theorem int_dec {x : Str} (h : decB (tl x) = true) (hl : x.length ≤ 4300) : intText? x = some ((digitsVal (tl x) : Nat) : Int) := by
  obtain ⟨a, b, _⟩ := dec_of h
  exact PySem.intText_digits a b hl
/-! ### whole texts -/
theorem spl_ne {k : Nat} : ∀ (l acc : List Nat), TL.spl [k] 0 acc l ≠ []
  | [], acc => by
    rw [TL.spl_nil]
    exact fun z => by cases z
  | c :: r, acc => by
    by_cases h : TL.pre [k] (c :: r) = true
    · rw [TL.spl_hit h]
      exact fun z => by cases z
    · rw [TL.spl_miss (by simpa using h)]
      exact spl_ne r _
theorem spl_back {k : Nat} : ∀ (l acc : List Nat), TL.joinL [k] (TL.spl [k] 0 acc l) = acc ++ l
  | [], acc => by
    rw [TL.spl_nil, List.append_nil]
    rfl
  | c :: r, acc => by
    by_cases h : c = k
    · subst h
      rw [TL.spl_hit (by simp [TL.pre])]
      have i := spl_back (k := c) r []
      rw [List.nil_append] at i
      have e : TL.spl [c] ([c].length - 1) [] r = TL.spl [c] 0 [] r := rfl
      cases hq : TL.spl [c] ([c].length - 1) [] r with
      | nil => exact absurd hq (spl_ne (k := c) r [])
      | cons q t =>
        show acc ++ ([c] ++ TL.joinL [c] (q :: t)) = _
        rw [← hq, e, i]
        rfl
    · rw [TL.spl_miss (by
        unfold TL.pre
        simp
        exact h)]
      rw [spl_back r (acc ++ [c]), List.append_assoc]
      rfl
abbrev slash : Str := "/"
theorem tl_slash : tl slash = [47] := by decide +kernel
theorem split_spl (x : Str) : (Txt.split x slash).map tl = TL.spl [47] 0 [] (tl x) := by
  rw [TL.split_spl x slash (by rw [tl_slash]; simp) (TL.kind_ok (by decide +kernel)), tl_slash]
theorem split_one {x a : Str} (h : Txt.split x slash = [a]) : tl x = tl a := by
  have e := split_spl x
  rw [h] at e
  have b := spl_back (k := 47) (tl x) []
  rw [← e] at b
  exact b.symm
theorem split_two {x a b : Str} (h : Txt.split x slash = [a, b]) : tl x = tl a ++ ([47] ++ tl b) := by
  have e := split_spl x
  rw [h] at e
  have b := spl_back (k := 47) (tl x) []
  rw [← e] at b
  exact b.symm
theorem split_ne (x : Str) : Txt.split x slash ≠ [] := by
  intro h
  have e := split_spl x
  rw [h] at e
  have b := spl_back (k := 47) (tl x) []
  rw [← e] at b
  have e2 : tl x = [] := b.symm
  rw [e2, TL.spl_nil] at e
  cases e
def writtenD : PyData → Str
  | .int i => Str.ofString (toString i)
  | .tuple [.int t, .int l] => Str.ofString (toString t) ++ slash ++ Str.ofString (toString l)
  | _ => ""
def parseW : List Str → Option PyData
  | [a] => (parseL (tl a)).map .int
  | [a, b] => (parseL (tl a)).bind fun t => if (decB (tl b) && isRatD (.tuple [.int t, .int ((digitsVal (tl b) : Nat) : Int)])) = true then some (.tuple [.int t, .int ((digitsVal (tl b) : Nat) : Int)]) else none
  | _ => none
def parseN (x : Str) : Option PyData := parseW (Txt.split x slash)
theorem no_slash (i : Int) : (47 : Nat) ∉ textL i := by
  unfold textL
  split
  · intro m
    rcases List.mem_cons.mp m with e | m
    · cases e
    · exact TL.numL_free (.inl (by decide)) m
  · exact fun m => TL.numL_free (.inl (by decide)) m
theorem text_nat {n : Int} (h : 0 ≤ n) : textL n = numL n.natAbs := by
  unfold textL
  rw [if_neg (by omega)]
theorem parse_written {d : PyData} (h : isRatD d = true) : parseN (writtenD d) = some d := by
  unfold parseN
  match d, h with
  | .int i, _ =>
    have e : Txt.split (writtenD (.int i)) slash = [Str.ofString (toString i)] := by
      apply TL.map_tl_inj
      rw [split_spl]
      show TL.spl [47] 0 [] (tl (Str.ofString (toString i))) = [tl (Str.ofString (toString i))]
      rw [text_tl, TL.spl_last1 (no_slash i)]
      rfl
    rw [e]
    show (parseL (tl (Str.ofString (toString i)))).map PyData.int = _
    rw [text_tl, parse_text]
    rfl
  | .tuple [.int t, .int l], h =>
    have h' : (decide (2 ≤ l) && decide (Int.gcd t l = 1)) = true := h
    have l2 : 2 ≤ l := by
      rw [Bool.and_eq_true] at h'
      exact of_decide_eq_true h'.1
    have e : Txt.split (writtenD (.tuple [.int t, .int l])) slash = [Str.ofString (toString t), Str.ofString (toString l)] := by
      apply TL.map_tl_inj
      rw [split_spl]
      show TL.spl [47] 0 [] (tl (Str.ofString (toString t) ++ slash ++ Str.ofString (toString l))) = [tl (Str.ofString (toString t)), tl (Str.ofString (toString l))]
      rw [TL.tl_append, TL.tl_append, text_tl, text_tl, tl_slash, List.append_assoc, TL.spl_part1 (no_slash t), TL.spl_last1 (no_slash l)]
      rfl
    rw [e]
    show (parseL (tl (Str.ofString (toString t)))).bind _ = _
    rw [text_tl, parse_text]
    show (if (decB (tl (Str.ofString (toString l))) && isRatD (.tuple [.int t, .int ((digitsVal (tl (Str.ofString (toString l))) : Nat) : Int)])) = true then some (PyData.tuple [.int t, .int ((digitsVal (tl (Str.ofString (toString l))) : Nat) : Int)]) else none) = _
    have e2 : ((digitsVal (numL l.natAbs) : Nat) : Int) = l := by
      rw [TL.numL_val]
      omega
    rw [text_tl, text_nat (by omega), num_dec, e2, h]
    rfl
theorem written_parse {x : Str} {d : PyData} (h : parseN x = some d) : writtenD d = x ∧ isRatD d = true := by
  unfold parseN at h
  match hs : Txt.split x slash, h with
  | [a], h =>
    have h' : (parseL (tl a)).map PyData.int = some d := h
    obtain ⟨i, h1, rfl⟩ := Option.map_eq_some_iff.mp h'
    refine ⟨?_, rfl⟩
    apply TL.ext_tl
    show tl (Str.ofString (toString i)) = tl x
    rw [text_tl, text_parse h1, split_one hs]
  | [a, b], h =>
    have h' : (parseL (tl a)).bind _ = some d := h
    obtain ⟨t, h1, h2⟩ := Option.bind_eq_some_iff.mp h'
    split at h2
    · rename_i hc
      injection h2 with h2
      subst h2
      rw [Bool.and_eq_true] at hc
      refine ⟨?_, hc.2⟩
      apply TL.ext_tl
      show tl (Str.ofString (toString t) ++ slash ++ Str.ofString (toString (((digitsVal (tl b) : Nat) : Int)))) = tl x
      obtain ⟨a1, b1, c1⟩ := dec_of hc.1
      have e := (dec_num _ _ rfl a1 b1 c1).1
      rw [TL.tl_append, TL.tl_append, text_tl, text_tl, tl_slash, text_parse h1, text_nat (by omega), Int.natAbs_natCast, e, List.append_assoc, split_two hs]
    · cases h2
  | _ :: _ :: _ :: _, h => cases h
end LK
set_option Elab.async false
set_option linter.all false
set_option maxRecDepth 100000
set_option maxHeartbeats 4000000
set_option exponentiation.threshold 2000
/-! LK49: decimal words, numbers' texts: promises, bounds (from k14) -/
namespace LK
open PySem PySem.Spec L2
open PyProof.Rows hiding St
open TL (tl numL)
open NumText (digitsVal AllDigits)
abbrev digs : Str := "0123456789"
theorem dig_in (c : Nat) : decide (c ∈ tl digs) = (decide (48 ≤ c) && decide (c ≤ 57)) := by
  have e : tl digs = [48, 49, 50, 51, 52, 53, 54, 55, 56, 57] := by decide +kernel
  rw [e, Bool.eq_iff_iff]
  simp
  omega
theorem all_digs (x : Str) : ((tl x).all fun c => decide (c ∈ tl digs)) = allDig (tl x) := by
  unfold allDig
  congr 1
  funext c
  exact dig_in c
theorem str_eq {x y : Str} : decide (x = y) = (tl x == tl y) := by
  rw [Bool.eq_iff_iff, decide_eq_true_eq, beq_iff_eq]
  exact ⟨fun h => by rw [h], TL.ext_tl⟩
/-- ints of a value, not too great -/
def intsB (n : Nat) : PyData → Prop
  | .int i => i.natAbs < 2 ^ n
  | .tuple [.int i, .int j] => i.natAbs < 2 ^ n ∧ j.natAbs < 2 ^ n
  | _ => True
section
variable {K : PySem.W.Frag} {a : Addr} {G : Hp}
def preSt (ds : List PyData) : Prop := ∃ x : Str, ds = [.str x] ∧ x.length ≤ 600
theorem preSt_len {ds : List PyData} (h : preSt ds) : ds.length = 1 := by
  obtain ⟨x, rfl, _⟩ := h
  rfl
def decD : PyData → PyData
  | .str x => .bool (decB (tl x))
  | _ => .none
def pintD : PyData → PyData
  | .str x => match parseL (tl x) with
    | some i => .int i
    | none => .none
  | _ => .none
theorem ev_callS {σ : L2.St} {te : TE} {x : Str} {fn : PyData → PyData} {E : XK} (h : Ev K a G te σ (· = .str x)) (hl : x.length ≤ 600) : Ev K a G (tCall (spG K preSt (post1 fn)) [] E (tCons te tNil)) σ (· = fn (.str x)) := by
  refine ev_callG (ea_eq h ea_nil) ?_ ?_
  · rintro _ rfl
    exact ⟨x, rfl, hl⟩
  · rintro _ r rfl ⟨d', e, rfl⟩
    injection e with e _
    rw [e]
abbrev FDc (P : Program) (w : World) (K : PySem.W.Frag) (mg : Str → Option Value) (base : Heap) : Prop := Df P w K mg base CX0 1 "is_decimal" ["word"] (spG K preSt (post1 decD))
theorem dash : ∀ x : Str, decide (x = ("-" : Str)) = (tl x == [45]) := fun x => by
  rw [str_eq]
  have e : tl ("-" : Str) = [45] := by decide +kernel
  rw [e]
theorem rest_tl (x : Str) : ∃ y : Str, (if (tl x).take 1 = [45] then y = cutS x (some 1) none else y = x) ∧ tl y = restL (tl x) ∧ y.length ≤ x.length := by
  by_cases h : (tl x).take 1 = [45]
  · refine ⟨cutS x (some 1) none, by rw [if_pos h], ?_, cutS_length _ _ _⟩
    unfold restL
    rw [if_pos h, tl_cutF1]
  · refine ⟨x, by rw [if_neg h], ?_, Nat.le_refl _⟩
    unfold restL
    rw [if_neg h]
/-- word[1:] if word[:1] == '-' else word -/
theorem ev_rest {σ : L2.St} {x y : Str} {i : Nat} (hi : σ[i]? = some (some (.str x))) (hx : x.length ≤ 600) (hy : if (tl x).take 1 = [45] then y = cutS x (some 1) none else y = x) :
    Ev K a G (tIf (tTest (tOp (rEqA K) (tSl rSlS (tVar i) tNoPart (tPart (tC (.int 1)))) (tC (.str "-")))) (tSl rSlS (tVar i) (tPart (tC (.int 1))) tNoPart) (tVar i)) σ (· = .str y) := by
  refine ev_if (B := (· = ((tl x).take 1 == [45]))) (et_test (Ev.imp (ev_eqS (ev_slT (C := (· = .str (cutS x none (some 1)))) (cI := (· = 1)) (ev_var hi (.str x)) (ev_isI ev_i rfl) (by omega) ?_) ev_s) ?_)) (fun h => ev_slF (cI := (· = 1)) (ev_var hi (.str x)) (ev_isI ev_i rfl) (by omega) ?_) (fun h => Ev.imp (ev_var hi (.str x)) ?_)
  · rintro _ rfl
    rfl
  · rintro _ rfl
    refine ⟨_, rfl, ?_⟩
    rw [dash, tl_cutT1]
  · rintro _ rfl
    rw [if_pos (beq_iff_eq.mp h.symm)] at hy
    rw [hy]
  · rintro _ rfl
    rw [if_neg (by simpa using h.symm)] at hy
    rw [hy]
abbrev FPi (P : Program) (w : World) (K : PySem.W.Frag) (mg : Str → Option Value) (base : Heap) : Prop := Df P w K mg base CX0 2 "parse_integer" ["word"] (spG K preSt (post1 pintD))
end
theorem pow_big : (10 : Nat) ^ 200 < 2 ^ 700 := by decide +kernel
theorem pow_big2 : (2 : Nat) ^ 1000 < 10 ^ 302 := by decide +kernel
theorem text_len {i : Int} (h : i.natAbs < 2 ^ 1000) : (Str.ofString (toString i)).length ≤ 303 := by
  rw [TL.len_tl, text_tl]
  have l := TL.numL_len (n := i.natAbs) (k := 302) (by decide) (Nat.lt_trans h pow_big2)
  unfold textL
  split
  · simp only [List.length_cons]
    omega
  · omega
theorem ints_up {n m : Nat} {d : PyData} (h : intsB n d) (hm : n ≤ m) : intsB m d := by
  have p : (2 : Nat) ^ n ≤ 2 ^ m := Nat.pow_le_pow_right (by decide) hm
  unfold intsB at h ⊢
  split at h
  · exact Nat.lt_of_lt_of_le h p
  · exact ⟨Nat.lt_of_lt_of_le h.1 p, Nat.lt_of_lt_of_le h.2 p⟩
  · trivial
theorem rat_cases {d : PyData} (h : isRatD d = true) : (∃ i, d = .int i) ∨ ∃ i j, d = .tuple [.int i, .int j] ∧ 2 ≤ j := by
  match d, h with
  | .int i, _ => exact .inl ⟨i, rfl⟩
  | .tuple [.int i, .int j], h =>
    refine .inr ⟨i, j, rfl, ?_⟩
    have h' : (decide (2 ≤ j) && decide (Int.gcd i j = 1)) = true := h
    rw [Bool.and_eq_true] at h'
    exact of_decide_eq_true h'.1
theorem sz_ints {d : PyData} (h : intsB 1000 d) (hr : isRatD d = true) : Sz 2 1 d := by
  match d, hr with
  | .int i, _ => exact Sz.up (n := 0) (k := 0) (sz_int h) (by decide) (by decide)
  | .tuple [.int i, .int j], _ =>
    have h' : i.natAbs < 2 ^ 1000 ∧ j.natAbs < 2 ^ 1000 := h
    refine Sz.up (n := 2 * 1) (k := 1) (Sz.tup (n := 0) (k := 0) (ds := [.int i, .int j]) fun z m => ?_) (by decide) (by decide)
    simp only [List.mem_cons, List.not_mem_nil, or_false] at m
    rcases m with rfl | rfl
    · exact sz_int h'.1
    · exact sz_int h'.2
theorem join_head (a : List Nat) (r : List (List Nat)) : a.length ≤ (TL.joinL [47] (a :: r)).length := by
  cases r with
  | nil => exact Nat.le_refl _
  | cons b r =>
    show a.length ≤ (a ++ ([47] ++ TL.joinL [47] (b :: r))).length
    rw [List.length_append]
    omega
theorem split_head {x a : Str} {r : List Str} (h : Txt.split x slash = a :: r) : a.length ≤ x.length := by
  have e := split_spl x
  rw [h] at e
  have b := spl_back (k := 47) (tl x) []
  rw [← e] at b
  have l := join_head (tl a) (r.map tl)
  rw [show TL.joinL [47] (tl a :: r.map tl) = tl x from b] at l
  rw [TL.len_tl, TL.len_tl]
  exact l
theorem split_snd {x a b : Str} (h : Txt.split x slash = [a, b]) : b.length ≤ x.length := by
  have e := split_two h
  rw [TL.len_tl, TL.len_tl, e, List.length_append, List.length_append]
  omega
theorem val_small {l : List Nat} (d : AllDigits l) (h : l.length ≤ 200) : digitsVal l < 2 ^ 700 :=
  Nat.lt_trans (Nat.lt_of_lt_of_le (val_lt _ _ rfl d) (Nat.pow_le_pow_right (by decide) h)) pow_big
theorem parse_small {l : List Nat} {i : Int} (h : parseL l = some i) (hl : l.length ≤ 200) : i.natAbs < 2 ^ 700 := Nat.lt_trans (toI_lt h hl) pow_big
theorem parse_bound {x : Str} {d : PyData} (h : parseN x = some d) (hl : x.length ≤ 200) : intsB 700 d := by
  unfold parseN at h
  match hs : Txt.split x slash, h with
  | [a], h =>
    have h' : (parseL (tl a)).map PyData.int = some d := h
    obtain ⟨i, h1, rfl⟩ := Option.map_eq_some_iff.mp h'
    have := split_head hs
    exact parse_small h1 (by rw [← TL.len_tl]; omega)
  | [a, b], h =>
    have h' : (parseL (tl a)).bind _ = some d := h
    obtain ⟨t, h1, h2⟩ := Option.bind_eq_some_iff.mp h'
    split at h2
    · rename_i hc
      injection h2 with h2
      subst h2
      rw [Bool.and_eq_true] at hc
      have la := split_head hs
      have lb := split_snd hs
      have v := val_small (dec_of hc.1).1 (by rw [← TL.len_tl]; omega)
      exact ⟨parse_small h1 (by rw [← TL.len_tl]; omega), by simpa using v⟩
    · cases h2
  | _ :: _ :: _ :: _, h => cases h
def resN : PyData → PyData ⊕ Int
  | .str x => match parseN x with
    | some r => .inl r
    | none => .inr 1
  | _ => .inr 0
theorem res_no {d : PyData} (h : isStrD d = false) : resN d = .inr 0 := by
  cases d <;> first | rfl | (simp [isStrD] at h; done)
theorem res_some {x : Str} {r : PyData} (h : parseN x = some r) : resN (.str x) = .inl r := by simp only [resN, h]
theorem res_none {x : Str} (h : parseN x = none) : resN (.str x) = .inr 1 := by simp only [resN, h]
theorem none_pint (x : Str) : noneD (pintD (.str x)) = (parseL (tl x)).isNone := by
  simp only [pintD]
  cases parseL (tl x) <;> rfl
theorem bool_true {b : Bool} (h : b ≠ false) : b = true := by
  cases b
  · exact absurd rfl h
  · rfl
theorem split_len (x : Str) : (Txt.split x slash).length ≤ x.length + 1 := by
  have e := congrArg List.length (split_spl x)
  rw [List.length_map] at e
  rw [e]
  have key : ∀ l acc : List Nat, (TL.spl [47] 0 acc l).length ≤ l.length + 1 := by
    intro l
    induction l with
    | nil =>
      intro acc
      rw [TL.spl_nil]
      exact Nat.le_refl _
    | cons c r ih =>
      intro acc
      by_cases h : TL.pre [47] (c :: r) = true
      · rw [TL.spl_hit h]
        have := ih []
        simp only [List.length_cons]
        exact Nat.succ_le_succ this
      · rw [TL.spl_miss (by simpa using h)]
        have := ih (acc ++ [c])
        simp only [List.length_cons]
        omega
  have := key (tl x) []
  rw [← TL.len_tl] at this
  exact this
section
variable {K : PySem.W.Frag} {a : Addr} {G : Hp}
def prePN (ds : List PyData) : Prop := ∃ d, ds = [d] ∧ ∀ x, d = .str x → x.length ≤ 200
def postPN (ds : List PyData) (r : PyData) : Prop := ∃ d, ds = [d] ∧ resN d = .inl r
def rpPN (ds : List PyData) (r : PyData) : Prop := ∃ d n, ds = [d] ∧ resN d = .inr n ∧ r = .int n
abbrev spPN (K : PySem.W.Frag) (C : Addr) : Sp := spX K C "line" prePN postPN rpPN
theorem ev_part {σ : L2.St} {i : Nat} {v : V} {parts : List Str} {k : Int} {x : Str} (h : σ[i]? = some (some v)) (m : D K G v (.list (parts.map .str))) (hk : atI (parts.map PyData.str) k = some (.str x)) {te : TE} (he : Ev K a G te σ (· = .int k)) : Ev K a G (tOp (rIx K) (tVar i) te) σ (· = .str x) :=
  ev_at (ds := parts.map .str) (i := k) (Ev.imp (ev_var h m) fun _ e => .inl e) he hk
end
end LK
set_option Elab.async false
set_option linter.all false
set_option maxRecDepth 100000
set_option maxHeartbeats 1000000
/-! LK50: == of lists of flat values; f-strings of texts and ints; one way out over a sheet; x = text.split(..) that will change -/
namespace LK
open PySem PySem.Spec L2
open PyProof.Rows hiding St
/-- two lists of the same flat values -/
def rSameF (K : PySem.W.Frag) (z : Bool) : R2 := fun x y H Q => ∃ (a b : Addr) (xs : List V), x = .ref a ∧ y = .ref b ∧ SqL K H a xs ∧ SqL K H b xs ∧ (∀ v ∈ xs, flatB v = true) ∧ Q (.bl z) H
theorem flatv_at : ∀ {xs : List V} {us : List Value} {j : Nat} (h : j < us.length), Vals xs us → ∃ x, xs[j]? = some x ∧ RelV x us[j]
  | _, _, 0, _, .cons (a := x) r _ => ⟨x, rfl, r⟩
  | _, _, j + 1, h, .cons _ rs => by
    obtain ⟨x, e, r⟩ := flatv_at (j := j) (by simpa using h) rs
    exact ⟨x, by simpa using e, r⟩
section
variable {X : Cx}
theorem same_at {A : Around} {s : Shared} {xs : List V} {us ws : List Value} (r1 : Vals xs us) (r2 : Vals xs ws) (hf : ∀ v ∈ xs, flatB v = true) (j : Nat) (h1 : j < us.length) (h2 : j < ws.length) : SeqAt.EqAt A s us[j] ws[j] true := by
  obtain ⟨x, e1, q1⟩ := flatv_at h1 r1
  obtain ⟨y, e2, q2⟩ := flatv_at h2 r2
  rw [e1] at e2
  injection e2 with e2
  subst e2
  exact eqAt_same q1 q2 (hf x (List.mem_of_getElem? e1))
theorem op_neF (hu : X.A.units + 64 < cLine) : OpR X (compareOp .NotEq) (rSameF X.K false) := by
  intro pins s σ H x y v u Q I rx ry h
  obtain ⟨a, b, xs, rfl, rfl, h1, h2, hf, q⟩ := h
  cases rx
  cases ry
  obtain ⟨i1, r1, p1, _⟩ := I.list h1
  obtain ⟨i2, r2, p2, _⟩ := I.list h2
  have e1 := r1.length
  have e2 := r2.length
  have := SeqAt.RcNeAt.lists (A := X.A) (e := fun _ => true) p1.isList p2.isList (by simp only [List.size_toArray]; omega) (by omega) (fun j j1 j2 => by
    simp only [List.getElem_toArray]
    exact same_at r1 r2 hf j (by simpa using j1) (by simpa using j2))
  have e : (!(List.range i1.toArray.size).all fun _ => true) = false := by simp
  rw [e] at this
  exact this _ _ _ _ ⟨.bl false, H, I, rfl, q⟩
theorem op_eqF (hu : X.A.units + 64 < cLine) : OpR X (compareOp .Eq) (rSameF X.K true) := by
  intro pins s σ H x y v u Q I rx ry h
  obtain ⟨a, b, xs, rfl, rfl, h1, h2, hf, q⟩ := h
  cases rx
  cases ry
  obtain ⟨i1, r1, p1, _⟩ := I.list h1
  obtain ⟨i2, r2, p2, _⟩ := I.list h2
  have e1 := r1.length
  have e2 := r2.length
  have := SeqAt.RcAt.lists (A := X.A) (e := fun _ => true) p1.isList p2.isList (by simp only [List.size_toArray]; omega) (by omega) (fun j j1 j2 => by
    simp only [List.getElem_toArray]
    exact same_at r1 r2 hf j (by simpa using j1) (by simpa using j2))
  have e : ((List.range i1.toArray.size).all fun _ => true) = true := by simp
  rw [e] at this
  exact this _ _ _ _ ⟨.bl true, H, I, rfl, q⟩
def rNeF (K : PySem.W.Frag) : R2 := fun x y H Q => rNeA K x y H Q ∨ rSameF K false x y H Q
def rEqF (K : PySem.W.Frag) : R2 := fun x y H Q => rEqA K x y H Q ∨ rSameF K true x y H Q
theorem kNeF {K : PySem.W.Frag} (hu : X.A.units + 64 < cLine) (e : X.K = K := by rfl) : OpR X (compareOp .NotEq) (rNeF K) := e ▸ (oNe hu).or (op_neF hu)
theorem kEqF {K : PySem.W.Frag} (hu : X.A.units + 64 < cLine) (e : X.K = K := by rfl) : OpR X (compareOp .Eq) (rEqF K) := e ▸ (oEq hu).or (op_eqF hu)
end
def flatD : PyData → Bool
  | .list _ => false
  | .tuple _ => false
  | .dict _ => false
  | _ => true
theorem flat_one {K : PySem.W.Frag} {H H' : Hp} {v w : V} {d : PyData} (m : D K H v d) (n : D K H' w d) (f : flatD d = true) : v = w ∧ flatB v = true := by
  cases m <;> cases n <;> first | exact ⟨rfl, rfl⟩ | cases f
theorem flat_all {K : PySem.W.Frag} {H H' : Hp} : ∀ {vs ws : List V} {ds : List PyData}, DA K H vs ds → DA K H' ws ds → (∀ d ∈ ds, flatD d = true) → vs = ws ∧ ∀ v ∈ vs, flatB v = true
  | _, _, _, .nil, .nil, _ => ⟨rfl, fun _ m => nomatch m⟩
  | _, _, _, .cons a as, .cons b bs, h => by
    obtain ⟨e1, f1⟩ := flat_one a b (h _ List.mem_cons_self)
    obtain ⟨e2, f2⟩ := flat_all as bs fun d m => h d (List.mem_cons_of_mem _ m)
    refine ⟨by rw [e1, e2], fun v m => ?_⟩
    rcases List.mem_cons.mp m with rfl | m
    · exact f1
    · exact f2 v m
section
variable {K : PySem.W.Frag} {a : Addr} {S : List Addr} {σ : L2.St} {G H : Hp} {ta tb te : TE} {tr : TA} {ds : List PyData} {Dn : Ends} {x y : Str}
theorem same_r2 {z : Bool} (hf : ∀ d ∈ ds, flatD d = true) : R2D K a (rSameF K z) (.list ds) (.list ds) (· = .bool z) := fun S H x y f m1 m2 Q q => by
  cases m1 with
  | lst h1 n1 =>
    cases m2 with
    | lst h2 n2 =>
      obtain ⟨e, hv⟩ := flat_all n1 n2 hf
      subst e
      exact ⟨_, _, _, rfl, rfl, SqL.of (off_le _ _ h1), SqL.of (off_le _ _ h2), hv, q _ _ H Ext.refl (.bl _) rfl⟩
theorem ev_neFl (ha : Ev K a G ta σ (· = .list ds)) (hb : Ev K a G tb σ (· = .list ds)) (hf : ∀ d ∈ ds, flatD d = true) : Ev K a G (tOp (rNeF K) ta tb) σ (· = .bool false) := by
  refine ev_op ha hb ?_
  rintro _ _ rfl rfl
  exact R2D.inr (same_r2 hf)
theorem ev_eqFl (ha : Ev K a G ta σ (· = .list ds)) (hb : Ev K a G tb σ (· = .list ds)) (hf : ∀ d ∈ ds, flatD d = true) : Ev K a G (tOp (rEqF K) ta tb) σ (· = .bool true) := by
  refine ev_op ha hb ?_
  rintro _ _ rfl rfl
  exact R2D.inr (same_r2 hf)
theorem ev_neFs {d e : PyData} (ha : Ev K a G ta σ (· = .str d.shown)) (hb : Ev K a G tb σ (· = .str e.shown)) (h : d = e) : Ev K a G (tOp (rNeF K) ta tb) σ (· = .bool false) := fun S H1 f s Q q =>
  ha S H1 f s _ fun v d' H2 x2 m e' => hb S H2 (f.ext x2) (f.same x2 s) _ fun w g H3 x3 n e'' => by
    subst e' e'' h
    cases m
    cases n
    refine .inl (.inl ⟨rfl, ?_⟩)
    have e : (!decide (V.str d.shown = V.str d.shown)) = false := by simp
    rw [e]
    exact q _ _ H3 (x2.trans x3) (.bl false) rfl
/-! ### f-strings -/
theorem ev_fmtI {i : Int} (h : Ev K a G te σ (· = .int i)) (hb : i.natAbs < 2 ^ 1900) : Ev K a G (tFmt te) σ (· = .str (Str.ofString (toString i))) := fun S H1 f s Q q => h S H1 f s _ fun v d H2 x2 m e => by
  subst e
  cases m
  exact .inr ⟨i, rfl, log_ok hb (by decide), q _ _ H2 x2 (.str _) rfl⟩
theorem ev_fmtS (h : Ev K a G te σ (· = .str x)) (hl : x.length ≤ 1000000) : Ev K a G (tFmt te) σ (· = .str x) := fun S H1 f s Q q => h S H1 f s _ fun v d H2 x2 m e => by
  subst e
  cases m
  exact .inl ⟨x, rfl, Nat.le_trans hl (by decide), q _ _ H2 x2 (.str _) rfl⟩
/-- the parts of an f-string, their texts -/
def EvJ (K : PySem.W.Frag) (a : Addr) (G : Hp) (σ : L2.St) : List TE → List Str → Prop
  | [], [] => True
  | t :: ts, y :: ys => Ev K a G t σ (· = .str y) ∧ EvJ K a G σ ts ys
  | _, _ => False
theorem len_app (x y : Str) : (x ++ y).length = x.length + y.length := by rw [TL.len_tl, TL.tl_append, List.length_append, ← TL.len_tl, ← TL.len_tl]
theorem rd_js {Q : Str → Hp → Prop} {H0 : Hp} : ∀ {ts : List TE} {ys : List Str} (acc : Str) {H : Hp}, EvJ K a G σ ts ys → acc.length + (ys.map (·.length)).sum ≤ 1000000 → Ext a H0 H → Fr a S H → Same G (off S H) → (∀ H', Ext a H0 H' → Q (ys.foldl (· ++ ·) acc) H') → tJs ts acc σ H Q
  | [], [], acc, H, _, _, x, _, _, q => q H x
  | t :: ts, y :: ys, acc, H, h, hl, x, f, s, q => h.1 S H f s _ fun v d H2 x2 m e => by
    subst e
    cases m
    simp only [List.map_cons, List.sum_cons] at hl
    refine ⟨y, rfl, ?_, rd_js (acc ++ y) h.2 (by rw [len_app]; omega) (x.trans x2) (f.ext x2) (f.same x2 s) q⟩
    rw [len_app]
    exact Nat.le_trans (by omega : acc.length + y.length ≤ 1000000) (by decide)
theorem ev_joined {ts : List TE} {ys : List Str} (h : EvJ K a G σ ts ys) (hl : (ys.map (·.length)).sum ≤ 1000000) : Ev K a G (fun σ H Q => tJs ts Str.empty σ H fun out H1 => Q (.str out) H1) σ (· = .str (ys.foldl (· ++ ·) Str.empty)) := fun S H1 f s Q q =>
  rd_js Str.empty h (by show 0 + _ ≤ _; omega) Ext.refl f s fun H' x => q _ _ H' x (.str _) rfl
/-! ### words that will change -/
theorem q_parSplit {i j : Nat} {z : Str} {C : PyData → Prop} (h : Ev K a G te σ (· = .str x)) (hz : (z.length == 0) = false) (hl : x.length ≤ 1000000) (hb : Ev K a G tb σ C) (f : Fr a S H) (s : Same G (off S H))
    (q : ∀ L v d H', Ext a H H' → Fr a S H' → H L = none → H' L = some (.lst ((Txt.split x z).map V.str)) → D K (off S H') v d → C d → Dn.nx ((σ.set i (some (.ref L))).set j (some v)) H') :
    tPar i j (tCons (tM1 (fun x xs H Q => ∃ a b, x = V.str a ∧ xs = [V.str b] ∧ (b.length == 0) = false ∧ a.length + 2 ≤ sizeLine ∧ rNewStrs (Txt.split a b) H Q) te (tC (.str z))) (tCons tb tNil)) Dn σ H :=
  h S H f s _ fun v d H2 x2 m c => by
    subst c
    cases m
    refine ⟨⟨x, rfl⟩, x, z, rfl, rfl, hz, Nat.le_trans (Nat.add_le_add_right hl 2) (by decide), fun p hp => ?_⟩
    have f2 := f.ext x2
    have x3 : Ext a H2 (upd H2 p (.lst ((Txt.split x z).map V.str))) := Ext.new hp
    have x23 := x2.trans x3
    exact hb S _ (f.ext x23) (f.same x23 s) _ fun w e H4 x4 m4 c4 => ⟨_, _, rfl, q p w e H4 (x23.trans x4) (f.ext (x23.trans x4)) (x2.fresh hp (f2.ne hp)) (x4.keep _ _ (f2.ne hp) upd_same) m4 c4⟩
/-- ['done', e]: e may raise -/
theorem rd_done {i : Nat} {z : Str} (h : te σ H fun v H1 => 2 ≤ sizeLine ∧ ∀ p, H1 p = none → Dn.nx (σ.set i (some (.ref p))) (upd H1 p (.lst [.str z, v]))) : tAsg (tLst (tCons (tC (.str z)) (tCons te tNil))) (gName i) Dn σ H := h
/-- a promise over a sheet and data, one way out -/
def spMX (K : PySem.W.Frag) (C C1 : Addr) (f1 : Str) (pre : List Str → List PyData → Prop) (post rp1 : List Str → List PyData → PyData → Prop) : Sp := fun vs H Q E => ∃ (a : Addr) (S : List Addr) (p : Addr) (ns : List Str) (ws : List V) (ds : List PyData),
  vs = .ref p :: ws ∧ Fr a S H ∧ ShAt C (off S H) p ns ∧ DA K (off S H) ws ds ∧ pre ns ds ∧ (∀ v d H', Ext a H H' → D K (off S H') v d → post ns ds d → Q v H') ∧
    ∀ v d dd H', Ext a H H' → D K (off S H') v d → rp1 ns ds d → H' dd = some (.xd [(f1, v)]) → dd ∉ S → E (.ref C1) (some dd) H'
theorem spMX_len {C C1 : Addr} {f1 : Str} {pre : List Str → List PyData → Prop} {post rp1 : List Str → List PyData → PyData → Prop} {n : Nat} (hp : ∀ ns ds, pre ns ds → ds.length = n) {vs : List V} {H : Hp} {Q : VK} {E : XK} (h : spMX K C C1 f1 pre post rp1 vs H Q E) : vs.length = n + 1 := by
  obtain ⟨a, S, p, ns, ws, ds, rfl, _, _, m, pr, _⟩ := h
  rw [List.length_cons, m.length, hp ns ds pr]
theorem callMX_ok {C C1 p : Addr} {ns : List Str} {f1 : Str} {pre : List Str → List PyData → Prop} {post rp1 : List Str → List PyData → PyData → Prop} {E : L2.St → XK} {Qc : VK} {i : Nat} (hi : σ[i]? = some (some (.ref p))) (sh : ShAt C G p ns) (h : EvA K a G tr σ (· = ds)) (fr : Fr a S H) (s : Same G (off S H)) (hp : pre ns ds)
    (q : ∀ v d H', Ext a H H' → Fr a S H' → D K (off S H') v d → post ns ds d → Qc v H')
    (e1 : ∀ v d dd H', Ext a H H' → Fr a S H' → D K (off S H') v d → rp1 ns ds d → H' dd = some (.xd [(f1, v)]) → dd ∉ S → E σ (.ref C1) (some dd) H') : tCallX (spMX K C C1 f1 pre post rp1) [] E (tCons (tVar i) tr) σ H Qc :=
  ⟨.ref p, hi, h S H fr s _ fun vs ds H1 x1 m c => by
    subst c
    show spMX K C C1 f1 pre post rp1 (V.ref p :: vs ++ []) H1 Qc (E σ)
    rw [List.append_nil]
    exact ⟨a, S, p, ns, vs, ds, rfl, fr.ext x1, (sh.mono s).mono (x1.off fr.mem), m, hp, fun v d H2 x2 m2 p => q v d H2 (x1.trans x2) ((fr.ext x1).ext x2) m2 p,
      fun v d dd H2 x2 m2 p hd hS => e1 v d dd H2 (x1.trans x2) ((fr.ext x1).ext x2) m2 p hd hS⟩⟩
end
end LK
set_option Elab.async false
set_option linter.all false
set_option maxRecDepth 100000
set_option maxHeartbeats 1000000
/-! LK51: texts of words; a number's text read in two ways -/
namespace LK
open PySem PySem.Spec L2
open PyProof.Rows hiding St
open TL (tl numL)
open NumText (digitsVal AllDigits)
abbrev gap : Str := " "
theorem tl_gap : tl gap = [32] := by decide +kernel
theorem split_gap (x : Str) : (Txt.split x gap).map tl = TL.spl [32] 0 [] (tl x) := by
  rw [TL.split_spl x gap (by rw [tl_gap]; simp) (TL.kind_ok (by decide +kernel)), tl_gap]
theorem split_join {ws : List Str} (hn : ws ≠ []) (h : ∀ w ∈ ws, (32 : Nat) ∉ tl w) : Txt.split (Txt.join gap ws) gap = ws := TL.split_join (s := 32) (S := []) tl_gap (by decide +kernel) hn h
theorem tl_joined (ws : List Str) : tl (Txt.join gap ws) = TL.joinL [32] (ws.map tl) := by
  rw [TL.join_eq, ← tl_gap]
  exact TL.tl_join gap ws
theorem join_split (x : Str) : Txt.join gap (Txt.split x gap) = x := by
  apply TL.ext_tl
  rw [tl_joined, split_gap, spl_back]
  rfl
theorem no_gap_num (i : Int) : (32 : Nat) ∉ textL i := by
  unfold textL
  split
  · intro m
    rcases List.mem_cons.mp m with e | m
    · cases e
    · exact TL.numL_free (.inl (by decide)) m
  · exact fun m => TL.numL_free (.inl (by decide)) m
theorem no_gap_int (i : Int) : (32 : Nat) ∉ tl (Str.ofString (toString i)) := by
  rw [text_tl]
  exact no_gap_num i
theorem no_gap_written {d : PyData} (h : isRatD d = true) : (32 : Nat) ∉ tl (writtenD d) := by
  match d, h with
  | .int i, _ => exact no_gap_int i
  | .tuple [.int t, .int l], _ =>
    show (32 : Nat) ∉ tl (Str.ofString (toString t) ++ slash ++ Str.ofString (toString l))
    rw [TL.tl_append, TL.tl_append, tl_slash]
    simp only [List.mem_append, not_or]
    exact ⟨⟨no_gap_int t, by decide⟩, no_gap_int l⟩
theorem no_gap_name {x : Str} (h : isNameD (.str x) = true) : (32 : Nat) ∉ tl x := fun m => by
  rw [isName_str, Bool.and_eq_true, List.all_eq_true] at h
  have := of_decide_eq_true (h.2 32 m)
  revert this
  decide +kernel
/-! ### a whole word that begins with its sign -/
theorem spl_acc {k : Nat} : ∀ (l acc : List Nat), ∃ h t, TL.spl [k] 0 [] l = h :: t ∧ TL.spl [k] 0 acc l = (acc ++ h) :: t
  | [], acc => ⟨[], [], by rw [TL.spl_nil], by rw [TL.spl_nil, List.append_nil]⟩
  | c :: r, acc => by
    by_cases hp : TL.pre [k] (c :: r) = true
    · exact ⟨[], _, TL.spl_hit hp, by rw [TL.spl_hit hp, List.append_nil]⟩
    · have hp : TL.pre [k] (c :: r) = false := by simpa using hp
      obtain ⟨h1, t1, a1, b1⟩ := spl_acc r [c]
      obtain ⟨h2, t2, a2, b2⟩ := spl_acc r (acc ++ [c])
      rw [a1] at a2
      injection a2 with e1 e2
      subst e1 e2
      refine ⟨[c] ++ h1, t1, by rw [TL.spl_miss hp]; exact b1, ?_⟩
      rw [TL.spl_miss hp, b2, List.append_assoc]
/-- the pieces of the rest of a word -/
theorem split_sign {x y : Str} (hs : (tl x).take 1 = [45]) (hy : tl y = (tl x).drop 1) : ∃ p q, (Txt.split y slash).map tl = p :: q ∧ (Txt.split x slash).map tl = (45 :: p) :: q := by
  rw [split_spl, split_spl]
  have e : tl x = 45 :: tl y := by
    have := List.take_append_drop 1 (tl x)
    rw [hs, ← hy] at this
    exact this.symm
  obtain ⟨h, t, a, b⟩ := spl_acc (k := 47) (tl y) [45]
  refine ⟨h, t, a, ?_⟩
  rw [e, TL.spl_miss (by simp [TL.pre])]
  exact b
/-- by the pieces: sign, pieces without it -/
def ratP (neg : Bool) : List (List Nat) → Option PyData
  | [p] => if decB p && !(neg && (p == [48])) then some (.int (if neg then -((digitsVal p : Nat) : Int) else (digitsVal p : Nat))) else none
  | [p, q] => if decB p && !(neg && (p == [48])) then (if decB q && isRatD (.tuple [.int (if neg then -((digitsVal p : Nat) : Int) else (digitsVal p : Nat)), .int ((digitsVal q : Nat) : Int)]) then some (.tuple [.int (if neg then -((digitsVal p : Nat) : Int) else (digitsVal p : Nat)), .int ((digitsVal q : Nat) : Int)]) else none) else none
  | _ => none
theorem parse_neg (p : List Nat) : parseL (45 :: p) = if decB p && !(p == [48]) then some (-((digitsVal p : Nat) : Int)) else none := by
  unfold parseL restL toI
  have e : (45 :: p : List Nat).take 1 = [45] := rfl
  rw [if_pos e, if_pos e]
  have e2 : ((45 :: p : List Nat) == [45, 48]) = (p == [48]) := by
    rw [Bool.eq_iff_iff, beq_iff_eq, beq_iff_eq]
    exact ⟨fun h => (by injection h), fun h => (by rw [h])⟩
  show (if (decB p && !((45 :: p : List Nat) == [45, 48])) = true then some (-((digitsVal p : Nat) : Int)) else none) = _
  rw [e2]
theorem parse_pos {p : List Nat} (h : p.take 1 ≠ [45]) : parseL p = if decB p then some ((digitsVal p : Nat) : Int) else none := by
  unfold parseL restL toI
  rw [if_neg h, if_neg h]
  have : decB p = true → (p == [45, 48]) = false := fun hd => by
    cases p with
    | nil => rfl
    | cons c r =>
      have : c ≠ 45 := fun z => h (by rw [z]; rfl)
      simp [this]
  cases hd : decB p with
  | false => simp
  | true => rw [this hd]; simp
/-- the number of a word, by its sign and its pieces -/
theorem parse_pieces {x y : Str} (hy : if (tl x).take 1 = [45] then tl y = (tl x).drop 1 else y = x) : parseN x = ratP ((tl x).take 1 == [45]) ((Txt.split y slash).map tl) := by
  unfold parseN
  by_cases hs : (tl x).take 1 = [45]
  · rw [if_pos hs] at hy
    obtain ⟨p, q, e1, e2⟩ := split_sign hs hy
    rw [hs, e1]
    show _ = ratP true (p :: q)
    match hw : Txt.split x slash with
    | [] => exact absurd hw (split_ne x)
    | [a] =>
      rw [hw] at e2
      injection e2 with e2 e3
      subst e3
      show (parseL (tl a)).map PyData.int = if decB p && !(p == [48]) then some (PyData.int (-((digitsVal p : Nat) : Int))) else none
      rw [e2, parse_neg]
      split <;> rfl
    | [a, b] =>
      rw [hw] at e2
      injection e2 with e2 e3
      subst e3
      show (parseL (tl a)).bind _ = if decB p && !(p == [48]) then (if decB (tl b) && isRatD (PyData.tuple [PyData.int (-((digitsVal p : Nat) : Int)), PyData.int ((digitsVal (tl b) : Nat) : Int)]) then some (PyData.tuple [PyData.int (-((digitsVal p : Nat) : Int)), PyData.int ((digitsVal (tl b) : Nat) : Int)]) else none) else none
      rw [e2, parse_neg]
      split
      · rfl
      · rfl
    | a :: b :: c :: r =>
      rw [hw] at e2
      injection e2 with e2 e3
      subst e3
      rfl
  · rw [if_neg hs] at hy
    subst hy
    have hb : ((tl y).take 1 == [45]) = false := by simpa using hs
    rw [hb]
    have hd : ∀ a r, Txt.split y slash = a :: r → (tl a).take 1 ≠ [45] := fun a r e z => by
      have e2 := split_spl y
      rw [e] at e2
      have b := spl_back (k := 47) (tl y) []
      rw [← e2] at b
      have hh : ∃ u, tl y = tl a ++ u := by
        cases r with
        | nil => exact ⟨[], by rw [List.append_nil]; exact b.symm⟩
        | cons c r => exact ⟨_, b.symm⟩
      obtain ⟨u, hu⟩ := hh
      apply hs
      rw [hu]
      cases ha : tl a with
      | nil =>
        rw [ha] at z
        cases z
      | cons c t =>
        rw [ha] at z
        exact z
    match hw : Txt.split y slash with
    | [] => exact absurd hw (split_ne y)
    | [a] =>
      show (parseL (tl a)).map PyData.int = if decB (tl a) && !(false && (tl a == [48])) then some (PyData.int ((digitsVal (tl a) : Nat) : Int)) else none
      rw [parse_pos (hd a [] hw), Bool.false_and, Bool.not_false, Bool.and_true]
      split <;> rfl
    | [a, b] =>
      show (parseL (tl a)).bind _ = if decB (tl a) && !(false && (tl a == [48])) then (if decB (tl b) && isRatD (PyData.tuple [PyData.int ((digitsVal (tl a) : Nat) : Int), PyData.int ((digitsVal (tl b) : Nat) : Int)]) then some (PyData.tuple [PyData.int ((digitsVal (tl a) : Nat) : Int), PyData.int ((digitsVal (tl b) : Nat) : Int)]) else none) else none
      rw [parse_pos (hd a _ hw), Bool.false_and, Bool.not_false, Bool.and_true]
      split
      · rfl
      · rfl
    | a :: b :: c :: r => rfl
end LK
set_option Elab.async false
set_option linter.all false
set_option maxRecDepth 100000
set_option maxHeartbeats 1000000
/-! LK52: a setting's text, written and read in two ways -/
namespace LK
open PySem PySem.Spec L2
open PyProof.Rows hiding St
open TL (tl numL)
open NumText (digitsVal AllDigits)
def countD (x : Str) : PyData := match parseN x with
  | some (.int i) => if 0 ≤ i then .int i else .none
  | _ => .none
def valueD (x : Str) : PyData := (parseN x).getD .none
def five (a b c d e : Str) : PyData := .tuple [countD a, countD b, .str c, .str d, valueD e]
def setOfD (ns : List Str) (x : Str) : Option PyData := match Txt.split x gap with
  | [a, b, c, d, e] => if isSettingD ns (five a b c d e) = true then some (five a b c d e) else none
  | _ => none
def valN (x : Str) : PyData := .int ((digitsVal (tl x) : Nat) : Int)
def rowInD (ns : List Str) (x : Str) : Option PyData := match Txt.split x gap with
  | [a, b, c, d, e] => if ((decide (a ∈ (["0", "1", "2"] : List Str)) && (decB (tl b) && !decide (b = "0"))) && (isNameD (.str c) && decide (d ∈ ns))) = true then (parseN e).map fun n => .tuple [valN a, valN b, .str c, .str d, n] else none
  | _ => none
theorem digit_free {l : List Nat} (h : AllDigits l) {c : Nat} (hc : c < 48 ∨ 57 < c) : c ∉ l := fun m => by
  have := h c m
  omega
theorem dec_parse {b : Str} (h : decB (tl b) = true) : parseN b = some (valN b) := by
  obtain ⟨d, hn, _⟩ := dec_of h
  have ht : (tl b).take 1 ≠ [45] := fun z => by
    cases hb : tl b with
    | nil => exact hn hb
    | cons c r =>
      rw [hb] at z
      injection z with z _
      have := digit_free d (c := 45) (by omega)
      rw [hb, z] at this
      exact this (by simp)
  rw [parse_pieces (y := b) (by rw [if_neg ht])]
  have hb : ((tl b).take 1 == [45]) = false := by simpa using ht
  have e : (Txt.split b slash).map tl = [tl b] := by
    rw [split_spl, TL.spl_last1 (digit_free d (by omega))]
    rfl
  rw [hb, e]
  show (if decB (tl b) && !(false && (tl b == [48])) then some (PyData.int ((digitsVal (tl b) : Nat) : Int)) else none) = _
  rw [h]
  rfl
theorem parse_dec {b : Str} {i : Int} (h : parseN b = some (.int i)) (h0 : 0 ≤ i) : decB (tl b) = true := by
  have e := (written_parse h).1
  have : tl b = numL i.natAbs := by
    rw [← e]
    show tl (Str.ofString (toString i)) = _
    rw [text_tl, text_nat h0]
  rw [this]
  exact num_dec _
theorem count_eq (b : Str) : countD b = if decB (tl b) = true then valN b else .none := by
  cases hd : decB (tl b) with
  | true =>
    unfold countD
    rw [dec_parse hd]
    show (if 0 ≤ (((digitsVal (tl b) : Nat) : Int)) then _ else _) = _
    rw [if_pos (by omega)]
    rfl
  | false =>
    unfold countD
    rw [if_neg (by decide)]
    split
    · rename_i i h
      by_cases h0 : 0 ≤ i
      · rw [parse_dec h h0] at hd
        cases hd
      · rw [if_neg h0]
    · rfl
theorem num_three : ∀ n : Nat, n ≤ 2 → ∃ x ∈ (["0", "1", "2"] : List Str), tl x = numL n
  | 0, _ => ⟨"0", by simp, by decide +kernel⟩
  | 1, _ => ⟨"1", by simp, by decide +kernel⟩
  | 2, _ => ⟨"2", by simp, by decide +kernel⟩
  | _ + 3, h => by omega
theorem level_eq (a : Str) : isLevelD (countD a) = decide (a ∈ (["0", "1", "2"] : List Str)) := by
  rw [count_eq]
  cases hd : decB (tl a) with
  | false =>
    refine (decide_eq_false fun m => ?_).symm
    have : ∀ x ∈ (["0", "1", "2"] : List Str), decB (tl x) = true := by decide +kernel
    rw [this a m] at hd
    cases hd
  | true =>
    rw [if_pos rfl]
    obtain ⟨d, hn, hc⟩ := dec_of hd
    have e := (dec_num _ _ rfl d hn hc).1
    show (decide (0 ≤ (((digitsVal (tl a) : Nat) : Int))) && decide ((((digitsVal (tl a) : Nat) : Int)) ≤ 2)) = _
    by_cases h2 : digitsVal (tl a) ≤ 2
    · obtain ⟨x, mx, ex⟩ := num_three _ h2
      have : a = x := TL.ext_tl (by rw [ex, e])
      rw [decide_eq_true (by omega), decide_eq_true (by omega), decide_eq_true (this ▸ mx)]
      rfl
    · rw [decide_eq_false (show ¬ (((digitsVal (tl a) : Nat) : Int)) ≤ 2 by omega), Bool.and_false]
      refine (decide_eq_false fun m => h2 ?_).symm
      have : ∀ x ∈ (["0", "1", "2"] : List Str), digitsVal (tl x) ≤ 2 := by decide +kernel
      exact this a m
theorem time_eq (b : Str) : (match countD b with | .int i => decide (1 ≤ i) | _ => false) = (decB (tl b) && !decide (b = "0")) := by
  rw [count_eq]
  cases hd : decB (tl b) with
  | false => rfl
  | true =>
    rw [if_pos rfl, Bool.true_and]
    obtain ⟨d, hn, hc⟩ := dec_of hd
    show decide (1 ≤ (((digitsVal (tl b) : Nat) : Int))) = _
    by_cases h0 : b = "0"
    · subst h0
      decide +kernel
    · have hz : tl b ≠ [48] := fun z => h0 (TL.ext_tl (by rw [z]; decide +kernel))
      have := (dec_num _ _ rfl d hn hc).2 hz
      rw [decide_eq_false h0, decide_eq_true (by omega)]
      rfl
theorem value_eq (e : Str) : isRatD (valueD e) = (parseN e).isSome := by
  unfold valueD
  cases h : parseN e with
  | none => rfl
  | some d => exact (written_parse h).2
theorem five_setting (ns : List Str) (a b c d e : Str) : isSettingD ns (five a b c d e) = ((decide (a ∈ (["0", "1", "2"] : List Str)) && (decB (tl b) && !decide (b = "0"))) && (isNameD (.str c) && decide (d ∈ ns)) && (parseN e).isSome) := by
  show (isLevelD (countD a) && ((match countD b with | .int i => decide (1 ≤ i) | _ => false) && (isNameD (.str c) && (hasD ns (.str d) && isRatD (valueD e))))) = _
  rw [level_eq, time_eq, value_eq]
  simp only [Bool.and_assoc]
  rfl
theorem row_set (ns : List Str) (x : Str) : rowInD ns x = setOfD ns x := by
  unfold rowInD setOfD
  split
  · rename_i a b c d e hs
    rw [five_setting]
    cases h1 : ((decide (a ∈ (["0", "1", "2"] : List Str)) && (decB (tl b) && !decide (b = "0"))) && (isNameD (.str c) && decide (d ∈ ns))) with
    | false => rfl
    | true =>
      rw [if_pos rfl, Bool.true_and]
      cases hp : parseN e with
      | none => rfl
      | some n =>
        rw [if_pos (by rfl)]
        have q : decide (a ∈ (["0", "1", "2"] : List Str)) = true ∧ decB (tl b) = true := by
          simp only [Bool.and_eq_true] at h1
          exact ⟨h1.1.1, h1.1.2.1⟩
        have da : decB (tl a) = true := by
          have : ∀ x ∈ (["0", "1", "2"] : List Str), decB (tl x) = true := by decide +kernel
          exact this a (of_decide_eq_true q.1)
        show some (PyData.tuple [valN a, valN b, .str c, .str d, n]) = some (five a b c d e)
        rw [five, count_eq, count_eq, if_pos da, if_pos q.2, valueD, hp]
        rfl
  · rfl
/-! ### written -/
def noteWs (r : Row) : List Str := [Str.ofString (toString r.l), Str.ofString (toString r.t), r.w, r.f, writtenD r.n]
def noteR (r : Row) : Str := Txt.join gap (noteWs r)
def timeB : PyData → Bool
  | .int i => decide (1 ≤ i)
  | _ => false
theorem setting5 (ns : List Str) (l t w f n : PyData) : isSettingD ns (.tuple [l, t, w, f, n]) = (isLevelD l && (timeB t && (isNameD w && (hasD ns f && isRatD n)))) := rfl
theorem set_row {ns : List Str} {d : PyData} (h : isSettingD ns d = true) : ∃ r : Row, d = r.d ∧ 0 ≤ r.l ∧ r.l ≤ 2 ∧ 1 ≤ r.t ∧ isNameD (.str r.w) = true ∧ r.f ∈ ns ∧ isRatD r.n = true := by
  obtain ⟨l, t, w, f, n, rfl⟩ : ∃ l t w f n, d = .tuple [l, t, w, f, n] := by
    match d, h with
    | .tuple [l, t, w, f, n], _ => exact ⟨l, t, w, f, n, rfl⟩
  have h' := h
  rw [setting5, Bool.and_eq_true, Bool.and_eq_true, Bool.and_eq_true, Bool.and_eq_true] at h'
  obtain ⟨h1, h2, h3, h4, h5⟩ := h'
  obtain ⟨l, rfl⟩ : ∃ i, l = .int i := by cases l <;> first | exact ⟨_, rfl⟩ | cases h1
  obtain ⟨t, rfl⟩ : ∃ i, t = .int i := by cases t <;> first | exact ⟨_, rfl⟩ | cases h2
  obtain ⟨w, rfl⟩ : ∃ i, w = .str i := by cases w <;> first | exact ⟨_, rfl⟩ | cases h3
  obtain ⟨f, rfl⟩ : ∃ i, f = .str i := by cases f <;> first | exact ⟨_, rfl⟩ | cases h4
  have h1' : (decide (0 ≤ l) && decide (l ≤ 2)) = true := h1
  rw [Bool.and_eq_true] at h1'
  exact ⟨⟨l, t, w, f, n⟩, rfl, of_decide_eq_true h1'.1, of_decide_eq_true h1'.2, of_decide_eq_true h2, h3, of_decide_eq_true h4, h5⟩
theorem split_note {r : Row} (hw : (32 : Nat) ∉ tl r.w) (hf : (32 : Nat) ∉ tl r.f) (hn : isRatD r.n = true) : Txt.split (noteR r) gap = noteWs r := by
  refine split_join (by simp [noteWs]) fun w m => ?_
  simp only [noteWs, List.mem_cons, List.not_mem_nil, or_false] at m
  rcases m with rfl | rfl | rfl | rfl | rfl
  · exact no_gap_int _
  · exact no_gap_int _
  · exact hw
  · exact hf
  · exact no_gap_written hn
theorem set_note {ns : List Str} {r : Row} (h : isSettingD ns r.d = true) (hf : (32 : Nat) ∉ tl r.f) : setOfD ns (noteR r) = some r.d := by
  obtain ⟨r', e, h0, h2, h1, hw, hm, hn⟩ := set_row h
  have := Row.d_inj e
  subst this
  unfold setOfD
  rw [split_note (no_gap_name hw) hf hn]
  have c1 : countD (Str.ofString (toString r.l)) = .int r.l := by
    unfold countD
    rw [show parseN (Str.ofString (toString r.l)) = some (.int r.l) from parse_written (d := .int r.l) rfl]
    exact if_pos h0
  have c2 : countD (Str.ofString (toString r.t)) = .int r.t := by
    unfold countD
    rw [show parseN (Str.ofString (toString r.t)) = some (.int r.t) from parse_written (d := .int r.t) rfl]
    exact if_pos (by omega)
  have c3 : valueD (writtenD r.n) = r.n := by
    unfold valueD
    rw [parse_written hn]
    rfl
  have e5 : five (Str.ofString (toString r.l)) (Str.ofString (toString r.t)) r.w r.f (writtenD r.n) = r.d := by
    unfold five
    rw [c1, c2, c3]
    rfl
  show (if isSettingD ns (five (Str.ofString (toString r.l)) (Str.ofString (toString r.t)) r.w r.f (writtenD r.n)) = true then some (five (Str.ofString (toString r.l)) (Str.ofString (toString r.t)) r.w r.f (writtenD r.n)) else none) = _
  rw [e5, if_pos h]
/-- the f-string's text -/
theorem note_joined (r : Row) : ([Str.ofString (toString r.l), gap, Str.ofString (toString r.t), gap, r.w, gap, r.f, gap, writtenD r.n] : List Str).foldl (· ++ ·) Str.empty = noteR r := by
  apply TL.ext_tl
  rw [noteR, tl_joined]
  simp only [List.foldl, noteWs, List.map, TL.joinL, TL.tl_append, tl_gap]
  have e : tl Str.empty = [] := rfl
  rw [e]
  simp only [List.nil_append, List.append_assoc]
end LK
set_option Elab.async false
set_option linter.all false
set_option maxRecDepth 100000
set_option maxHeartbeats 1000000
set_option exponentiation.threshold 2000
/-! LK53: texts of settings: sizes, promises -/
namespace LK
open PySem PySem.Spec L2
open PyProof.Rows hiding St
open TL (tl numL)
open NumText (digitsVal AllDigits)
def Small (x : Str) : Prop := ∀ c ∈ tl x, c < 16 ^ 8
structure TextOk (n : Nat) (x : Str) : Prop where
  len : x.length ≤ n
  small : Small x
theorem str_szS {x : Str} (h : Small x) : Sz x.length 0 (.str x) := by
  refine ⟨by simp [PyData.showable], ?_, ?_, by simp [PyData.depth]⟩
  · simp only [PyData.leavesShort, List.all_eq_true, decide_eq_true_eq]
    exact h
  · simp only [PyData.bulk]
    exact Nat.le_refl _
theorem textI_len {i : Int} {k : Nat} (h0 : 0 < k) (h : i.natAbs < 10 ^ k) : (Str.ofString (toString i)).length ≤ k + 1 := by
  rw [TL.len_tl, text_tl]
  have l := TL.numL_len (n := i.natAbs) (k := k) h0 h
  unfold textL
  split
  · simp only [List.length_cons]
    omega
  · omega
theorem pow_300 : (2 : Nat) ^ 300 < 10 ^ 91 := by decide +kernel
theorem pow_100 : (2 : Nat) ^ 100 < 10 ^ 31 := by decide +kernel
theorem digit_small {n : Nat} : ∀ c ∈ numL n, c < 16 ^ 8 := fun c m => by
  by_cases h : c < 48 ∨ 57 < c
  · exact absurd m (TL.numL_free h)
  · have : c ≤ 57 := by omega
    exact Nat.lt_of_le_of_lt this (by decide)
theorem textI_small (i : Int) : Small (Str.ofString (toString i)) := fun c m => by
  rw [text_tl] at m
  unfold textL at m
  split at m
  · rcases List.mem_cons.mp m with rfl | m
    · decide
    · exact digit_small c m
  · exact digit_small c m
theorem small_app {x y : Str} (hx : Small x) (hy : Small y) : Small (x ++ y) := fun c m => by
  rw [TL.tl_append] at m
  rcases List.mem_append.mp m with m | m
  · exact hx c m
  · exact hy c m
theorem written_text {d : PyData} {k : Nat} (h0 : 0 < k) (hr : isRatD d = true) (h1 : (pairD d).1.natAbs < 10 ^ k) (h2 : (pairD d).2.natAbs < 10 ^ k) : TextOk (2 * k + 3) (writtenD d) := by
  match d, hr with
  | .int i, _ => exact ⟨by have := textI_len h0 (i := i) h1; show (Str.ofString (toString i)).length ≤ _; omega, textI_small i⟩
  | .tuple [.int t, .int l], _ =>
    refine ⟨?_, small_app (small_app (textI_small t) (by intro c m; rw [tl_slash] at m; rw [List.mem_singleton.mp m]; decide)) (textI_small l)⟩
    show (Str.ofString (toString t) ++ slash ++ Str.ofString (toString l)).length ≤ _
    rw [len_app, len_app]
    have a := textI_len h0 (i := t) h1
    have b := textI_len h0 (i := l) h2
    have c : slash.length = 1 := by decide +kernel
    omega
theorem name_small {x : Str} (h : isNameD (.str x) = true) : Small x := fun c m => by
  rw [isName_str, Bool.and_eq_true, List.all_eq_true] at h
  have k : ∀ c ∈ abc.cps.toList, c < 16 ^ 8 := by decide +kernel
  exact k c (of_decide_eq_true (h.2 c m))
theorem joinL_mem {S : List Nat} {c : Nat} : ∀ {ps : List (List Nat)}, c ∈ TL.joinL S ps → c ∈ S ∨ ∃ p ∈ ps, c ∈ p
  | [], m => by simp [TL.joinL] at m
  | [p], m => .inr ⟨p, by simp, m⟩
  | p :: q :: r, m => by
    have m : c ∈ p ++ (S ++ TL.joinL S (q :: r)) := m
    rcases List.mem_append.mp m with m | m
    · exact .inr ⟨p, by simp, m⟩
    · rcases List.mem_append.mp m with m | m
      · exact .inl m
      · rcases joinL_mem m with h | ⟨z, mz, hz⟩
        · exact .inl h
        · exact .inr ⟨z, List.mem_cons_of_mem _ mz, hz⟩
theorem mem_joinL {S : List Nat} {c : Nat} : ∀ {ps : List (List Nat)} {p : List Nat}, p ∈ ps → c ∈ p → c ∈ TL.joinL S ps
  | [q], p, m, h => by
    rw [List.mem_singleton.mp m] at h
    exact h
  | q :: q2 :: r, p, m, h => by
    show c ∈ q ++ (S ++ TL.joinL S (q2 :: r))
    rcases List.mem_cons.mp m with rfl | m
    · exact List.mem_append_left _ h
    · exact List.mem_append_right _ (List.mem_append_right _ (mem_joinL m h))
theorem small_join {ws : List Str} (h : ∀ w ∈ ws, Small w) : Small (Txt.join gap ws) := fun c m => by
  rw [tl_joined] at m
  rcases joinL_mem m with m | ⟨p, mp, hp⟩
  · rw [List.mem_singleton.mp m]
    decide
  · obtain ⟨w, mw, rfl⟩ := List.mem_map.mp mp
    exact h w mw c hp
theorem small_split {x : Str} (h : Small x) : ∀ w ∈ Txt.split x gap, Small w := fun w m c mc => by
  have e := join_split x
  refine h c ?_
  rw [← e, tl_joined]
  exact mem_joinL (List.mem_map.mpr ⟨w, m, rfl⟩) mc
theorem joinL_len {S : List Nat} : ∀ {ps : List (List Nat)}, ps ≠ [] → (TL.joinL S ps).length + S.length = (ps.map (·.length)).sum + ps.length * S.length
  | [p], _ => by simp [TL.joinL]
  | p :: q :: r, _ => by
    show (p ++ (S ++ TL.joinL S (q :: r))).length + S.length = _
    have := joinL_len (S := S) (ps := q :: r) (by simp)
    simp only [List.length_append, List.map_cons, List.sum_cons, List.length_cons, Nat.add_mul, Nat.one_mul] at this ⊢
    omega
theorem join_len {ws : List Str} (h : ws ≠ []) : (Txt.join gap ws).length + 1 = (ws.map (·.length)).sum + ws.length := by
  have := joinL_len (S := [32]) (ps := ws.map tl) (fun z => h (List.map_eq_nil_iff.mp z))
  rw [← tl_joined, ← TL.len_tl, List.map_map, List.length_map] at this
  have e : (fun (x : List Nat) => x.length) ∘ tl = fun x : Str => x.length := by
    funext x
    exact (TL.len_tl x).symm
  rw [e] at this
  simpa using this
theorem split_ne2 (x : Str) : Txt.split x gap ≠ [] := fun h => by
  have e := split_gap x
  rw [h] at e
  exact spl_ne _ _ e.symm
theorem split_sum (x : Str) : x.length + 1 = ((Txt.split x gap).map (·.length)).sum + (Txt.split x gap).length := by
  have := join_len (split_ne2 x)
  rw [join_split] at this
  exact this
theorem sum_le {l : List Nat} {n : Nat} (h : n ∈ l) : n ≤ l.sum := by
  induction l with
  | nil => cases h
  | cons m l ih =>
    rw [List.sum_cons]
    rcases List.mem_cons.mp h with rfl | h
    · omega
    · have := ih h
      omega
theorem split_word {x w : Str} (h : w ∈ Txt.split x gap) : w.length ≤ x.length := by
  have a := split_sum x
  have b := sum_le (List.mem_map.mpr ⟨w, h, rfl⟩ : w.length ∈ (Txt.split x gap).map (·.length))
  have c : 1 ≤ (Txt.split x gap).length := List.length_pos_of_mem h
  omega
theorem TextOk.word {n : Nat} {x w : Str} (h : TextOk n x) (m : w ∈ Txt.split x gap) : TextOk n w := ⟨Nat.le_trans (split_word m) h.len, small_split h.small w m⟩
theorem note_text {r : Row} (h0 : 0 ≤ r.l) (h2 : r.l ≤ 2) (ht : r.t.natAbs < 10 ^ 40) (hw : TextOk 8 r.w) (hf : TextOk 8 r.f) (hr : isRatD r.n = true) (h1 : (pairD r.n).1.natAbs < 10 ^ 31) (h3 : (pairD r.n).2.natAbs < 10 ^ 31) : TextOk 130 (noteR r) := by
  have a := textI_len (k := 1) (i := r.l) (by decide) (by show _ < 10; omega)
  have b := textI_len (k := 40) (i := r.t) (by decide) ht
  have c := written_text (k := 31) (by decide) hr h1 h3
  have l := join_len (ws := noteWs r) (by simp [noteWs])
  refine ⟨?_, small_join fun w m => ?_⟩
  · simp only [noteWs, List.map_cons, List.map_nil, List.sum_cons, List.sum_nil, List.length_cons, List.length_nil] at l
    have e : noteR r = Txt.join gap (noteWs r) := rfl
    rw [e]
    have := hw.len
    have := hf.len
    have := c.len
    unfold noteWs
    omega
  · simp only [noteWs, List.mem_cons, List.not_mem_nil, or_false] at m
    rcases m with rfl | rfl | rfl | rfl | rfl
    · exact textI_small _
    · exact textI_small _
    · exact hw.small
    · exact hf.small
    · exact c.small
/-! promises -/
def nonnegB : PyData → Bool
  | .int i => decide (0 ≤ i)
  | _ => false
def preNx (ds : List PyData) : Prop := ∃ d, ds = [d] ∧ Num 300 d
def preSx (ns : List Str) (ds : List PyData) : Prop := ∃ d, ds = [d] ∧ Tame d ∧ ∀ r : Row, d = r.d → isSettingD ns d = true → r.t.natAbs < 2 ^ 300 ∧ Num 300 r.n ∧ r.f.length ≤ 8
def postSx (ns : List Str) (ds : List PyData) (z : PyData) : Prop := ∃ r : Row, ds = [r.d] ∧ isSettingD ns r.d = true ∧ z = .str (noteR r)
def rpSx (ns : List Str) (ds : List PyData) (z : PyData) : Prop := ∃ d, ds = [d] ∧ isSettingD ns d = false ∧ z = d
def preW1 (ds : List PyData) : Prop := ∃ x : Str, ds = [.str x] ∧ x.length ≤ 200
def postCo (ds : List PyData) (z : PyData) : Prop := ∃ x : Str, ds = [.str x] ∧ z = countD x
def postVa (ds : List PyData) (z : PyData) : Prop := ∃ x : Str, ds = [.str x] ∧ z = valueD x
def optD : Option PyData → PyData
  | some d => d
  | none => .none
def preSo1 (_ : List Str) (ds : List PyData) : Prop := ∃ x : Str, ds = [.str x] ∧ TextOk 200 x
def postSo1 (ns : List Str) (ds : List PyData) (z : PyData) : Prop := ∃ x : Str, ds = [.str x] ∧ z = optD (setOfD ns x)
def prePs (_ : List Str) (ds : List PyData) : Prop := ∃ d, ds = [d] ∧ ∀ x, d = .str x → TextOk 200 x
def postPs (ns : List Str) (ds : List PyData) (z : PyData) : Prop := ∃ x, ds = [.str x] ∧ setOfD ns x = some z
def rpPs (ns : List Str) (ds : List PyData) (z : PyData) : Prop := (∃ d, ds = [d] ∧ isStrD d = false ∧ z = .int 0) ∨ ∃ x, ds = [.str x] ∧ setOfD ns x = none ∧ z = .int 1
theorem count_sz {x : Str} (h : x.length ≤ 200) : Sz 0 0 (countD x) := by
  unfold countD
  split
  · rename_i i hp
    have b := parse_bound hp h
    split
    · exact sz_int (Nat.lt_trans b (Nat.pow_lt_pow_right (by decide) (by decide)))
    · exact Sz.of (by decide +kernel)
  · exact Sz.of (by decide +kernel)
theorem value_sz {x : Str} (h : x.length ≤ 200) : Sz 2 1 (valueD x) := by
  unfold valueD
  cases hp : parseN x with
  | none => exact Sz.of (by decide +kernel)
  | some d =>
    have b := parse_bound hp h
    rcases rat_cases (written_parse hp).2 with ⟨i, rfl⟩ | ⟨i, j, rfl, _⟩
    · exact (sz_int (Nat.lt_trans b (Nat.pow_lt_pow_right (by decide) (by decide)))).up (by decide) (by decide)
    · have b : i.natAbs < 2 ^ 700 ∧ j.natAbs < 2 ^ 700 := b
      refine (sz_tup (n := 0) (m := 2) (k := 0) (fun z m => ?_) (by show 2 * 1 ≤ 2; decide)).up (by decide) (by decide)
      simp only [List.mem_cons, List.not_mem_nil, or_false] at m
      rcases m with rfl | rfl
      · exact sz_int (Nat.lt_trans b.1 (Nat.pow_lt_pow_right (by decide) (by decide)))
      · exact sz_int (Nat.lt_trans b.2 (Nat.pow_lt_pow_right (by decide) (by decide)))
theorem five_sz {a b c d e : Str} (ha : a.length ≤ 200) (hb : b.length ≤ 200) (hc : TextOk 200 c) (hd : TextOk 200 d) (he : e.length ≤ 200) : Sz 1100 2 (five a b c d e) := by
  refine sz_tup (n := 200) (k := 1) (fun z m => ?_) (by show 5 * 201 ≤ 1100; decide)
  simp only [List.mem_cons, List.not_mem_nil, or_false] at m
  rcases m with rfl | rfl | rfl | rfl | rfl
  · exact (count_sz ha).up (by decide) (by decide)
  · exact (count_sz hb).up (by decide) (by decide)
  · exact (str_szS hc.small).up hc.len (by decide)
  · exact (str_szS hd.small).up hd.len (by decide)
  · exact (value_sz he).up (by decide) (by decide)
theorem set_tup {ns : List Str} {x : Str} {d : PyData} (h : setOfD ns x = some d) : isSettingD ns d = true := by
  unfold setOfD at h
  split at h
  · split at h
    · rename_i z
      injection h with h
      rw [← h]
      exact z
    · cases h
  · cases h
theorem opt_none {ns : List Str} {x : Str} (h : noneD (optD (setOfD ns x)) = true) : setOfD ns x = none := by
  cases e : setOfD ns x with
  | none => rfl
  | some d =>
    rw [e] at h
    have := set_tup e
    obtain ⟨r, rfl, _⟩ := set_row this
    cases h
theorem opt_some {ns : List Str} {x : Str} (h : noneD (optD (setOfD ns x)) = false) : setOfD ns x = some (optD (setOfD ns x)) := by
  cases e : setOfD ns x with
  | none =>
    rw [e] at h
    cases h
  | some d => rfl
end LK
set_option Elab.async false
set_option linter.all false
set_option maxRecDepth 100000
set_option maxHeartbeats 1000000
/-! LK54: texts cut; a number's text in pieces -/
namespace LK
open PySem PySem.Spec L2
open PyProof.Rows hiding St
open TL (tl numL)
open NumText (digitsVal AllDigits)
theorem cut_from (x : Str) (k : Nat) : (cutS x (some (k : Int)) none).length = x.length - k := by
  rw [TL.len_tl]
  show ((x.cps.toList.drop (HT.sIx x.length 0 (some (k : Int)))).take (HT.sIx x.length x.length none - HT.sIx x.length 0 (some (k : Int)))).length = _
  rw [HT.sIx_nat, HT.sIx_none, List.length_take, List.length_drop]
  have hl : x.cps.toList.length = x.length := (TL.len_tl x).symm
  rw [hl]
  omega
theorem tl_cutT (x : Str) (k : Nat) : tl (cutS x none (some (k : Int))) = (tl x).take k := by
  show (x.cps.toList.drop (HT.sIx x.length 0 none)).take (HT.sIx x.length x.length (some (k : Int)) - HT.sIx x.length 0 none) = x.cps.toList.take k
  rw [HT.sIx_nat, HT.sIx_none, List.drop_zero, Nat.sub_zero]
  have hl : x.cps.toList.length = x.length := (TL.len_tl x).symm
  by_cases h : k ≤ x.length
  · rw [Nat.min_eq_left h]
  · rw [Nat.min_eq_right (by omega), List.take_of_length_le (by omega), List.take_of_length_le (by omega)]
theorem cut_to (x : Str) (k : Nat) : (cutS x none (some (k : Int))).length = min k x.length := by
  rw [TL.len_tl, tl_cutT, List.length_take, ← TL.len_tl]
theorem small_cut {x : Str} (h : Small x) (lo hi : Option Int) : Small (cutS x lo hi) := fun c m => by
  refine h c ?_
  have m : c ∈ (x.cps.toList.drop (HT.sIx x.length 0 lo)).take (HT.sIx x.length x.length hi - HT.sIx x.length 0 lo) := m
  exact List.mem_of_mem_drop (List.mem_of_mem_take m)
/-- what the pieces of a word say of the sign -/
theorem zero_sign {x y : Str} {p : List Nat} {q : List (List Nat)} (hs : (tl x).take 1 = [45]) (hy : tl y = (tl x).drop 1) (hp : (Txt.split y slash).map tl = p :: q) (hd : decB p = true) : ((tl x).take 2 == [45, 48]) = (p == [48]) := by
  obtain ⟨d, hn, hc⟩ := dec_of hd
  have e : tl x = 45 :: tl y := by
    have := List.take_append_drop 1 (tl x)
    rw [hs, ← hy] at this
    exact this.symm
  have b := spl_back (k := 47) (tl y) []
  rw [← split_spl, hp] at b
  obtain ⟨c, r, rfl⟩ : ∃ c r, p = c :: r := by
    cases p with
    | nil => exact absurd rfl hn
    | cons c r => exact ⟨c, r, rfl⟩
  have hh : ∃ u, tl y = (c :: r) ++ u := by
    cases q with
    | nil => exact ⟨[], by rw [List.append_nil]; exact b.symm⟩
    | cons z q => exact ⟨_, b.symm⟩
  obtain ⟨u, hu⟩ := hh
  rw [e, hu]
  show ([45, c] == [45, 48]) = (c :: r == [48])
  rw [Bool.eq_iff_iff, beq_iff_eq, beq_iff_eq]
  constructor
  · intro h
    injection h with _ h
    injection h with h _
    subst h
    unfold canon at hc
    simp at hc
    rw [hc]
  · intro h
    injection h with h1 h2
    rw [h1]
theorem ratP_bad {neg : Bool} {ps : List (List Nat)} (h : ps.all decB = false) : ratP neg ps = none := by
  match ps with
  | [] => rfl
  | [p] =>
    have : decB p = false := by simpa using h
    show (if decB p && _ then _ else none) = none
    rw [this]
    rfl
  | [p, q] =>
    show (if decB p && _ then (if decB q && _ then _ else none) else none) = none
    cases hp : decB p with
    | false => rfl
    | true =>
      have : decB q = false := by simpa [hp] using h
      rw [this]
      simp
  | _ :: _ :: _ :: _ => rfl
theorem ratP_many {neg : Bool} {ps : List (List Nat)} (h : 2 < ps.length) : ratP neg ps = none := by
  match ps, h with
  | _ :: _ :: _ :: _, _ => rfl
def preRi (ds : List PyData) : Prop := ∃ x : Str, ds = [.str x] ∧ x.length ≤ 200
def postRi (ds : List PyData) (z : PyData) : Prop := ∃ x : Str, ds = [.str x] ∧ z = optD (parseN x)
def preIw (ds : List PyData) : Prop := ∃ x : Str, ds = [.str x] ∧ x.length ≤ 300
def postIw (ds : List PyData) (z : PyData) : Prop := ∃ x : Str, ds = [.str x] ∧ z = .bool (isNameD (.str x))
structure RowB (r : Row) : Prop where
  l : r.l.natAbs < 2 ^ 300
  t : r.t.natAbs < 2 ^ 300
  n : Num 300 r.n
  w : r.w.length ≤ 100
  f : r.f.length ≤ 100
def preRn (ds : List PyData) : Prop := ∃ r : Row, ds = [r.d] ∧ RowB r
def postRn (ds : List PyData) (z : PyData) : Prop := ∃ r : Row, ds = [r.d] ∧ z = .str (noteR r)
def preRo (ds : List PyData) : Prop := ∃ (x : Str) (ns : List Str), ds = [.str x, .list (ns.map .str)] ∧ TextOk 200 x ∧ ns.length ≤ 100
def postRo (ds : List PyData) (z : PyData) : Prop := ∃ (x : Str) (ns : List Str), ds = [.str x, .list (ns.map .str)] ∧ z = optD (setOfD ns x)
def preTx (n : Nat) (ds : List PyData) : Prop := ∃ x : Str, ds = [.str x] ∧ TextOk n x
def postBe (ds : List PyData) (z : PyData) : Prop := ∃ x y : Str, ds = [.str x] ∧ z = .str y ∧ y.length ≤ x.length + 1 ∧ (Small x → Small y)
def RowSm (ls : List Str) (d : PyData) : Prop := ∃ r : Row, d = r.d ∧ r.Ok1 ls ∧ r.t ≤ 8
def postTl3 (ds : List PyData) (r : PyData) : Prop := ∃ (ls : List Str) (x y : PyData) (es : List PyData), ds = [.list (ls.map .str), x, y] ∧ r = .list es ∧ es.length ≤ 40 ∧ ∀ e ∈ es, RowSm ls e
end LK
set_option Elab.async false
set_option linter.all false
set_option maxRecDepth 100000
set_option maxHeartbeats 1000000
/-! LK55: what a call over a setting's text is told; words exchanged; odd settings -/
namespace LK
open PySem PySem.Spec L2
open PyProof.Rows hiding St
open TL (tl numL)
open NumText (digitsVal AllDigits)
def noteD : PyData → Str
  | .tuple [.int l, .int t, .str w, .str f, n] => noteR ⟨l, t, w, f, n⟩
  | _ => ""
def metD (ns : List Str) (d : PyData) : Bool → PyData
  | true => match d with
    | .str x => match setOfD ns x with
      | some z => .list [.str "done", z]
      | none => .list [.str "line", .int 1]
    | _ => .list [.str "line", .int 0]
  | false => if isSettingD ns d = true then .list [.str "done", .str (noteD d)] else .list [.str "row", .str d.shown]
def preMe (ns : List Str) (ds : List PyData) : Prop := ∃ (d : PyData) (b : Bool), ds = [d, .bool b] ∧ Tame d ∧ (∀ x, d = .str x → TextOk 200 x) ∧ ∀ r : Row, d = r.d → isSettingD ns d = true → r.t.natAbs < 2 ^ 300 ∧ Num 300 r.n ∧ r.f.length ≤ 8
def postMe (ns : List Str) (ds : List PyData) (z : PyData) : Prop := ∃ (d : PyData) (b : Bool), ds = [d, .bool b] ∧ z = metD ns d b
theorem met_line0 {ns : List Str} {d : PyData} (h : isStrD d = false) : metD ns d true = .list [.str "line", .int 0] := by
  cases d <;> first | rfl | cases h
theorem met_line1 {ns : List Str} {x : Str} (h : setOfD ns x = none) : metD ns (.str x) true = .list [.str "line", .int 1] := by
  show (match setOfD ns x with | some z => PyData.list [.str "done", z] | none => .list [.str "line", .int 1]) = _
  rw [h]
theorem met_done {ns : List Str} {x : Str} {z : PyData} (h : setOfD ns x = some z) : metD ns (.str x) true = .list [.str "done", z] := by
  show (match setOfD ns x with | some z => PyData.list [.str "done", z] | none => .list [.str "line", .int 1]) = _
  rw [h]
/-! ### two items exchanged -/
section
variable {K : PySem.W.Frag} {a : Addr} {S : List Addr} {σ : L2.St} {G H : Hp} {Dn : Ends} {L : Addr}
theorem q_swap {i j l : Nat} {acc : List V} {p q : Nat} {x y : V} (hi : σ[i]? = some (some (.ref L))) (hj : σ[j]? = some (some (.int p))) (hl : σ[l]? = some (some (.int q))) (hL : H L = some (.lst acc)) (hp : acc[p]? = some y) (hq : acc[q]? = some x) (hz : acc.length ≤ 100000)
    (n : ∀ t, H t = none → Dn.nx σ (upd (upd (upd H t (.tup [x, y])) L (.lst (acc.set p x))) L (.lst ((acc.set p x).set q y)))) :
    tAsg (tTup (tCons (tOp (rIx K) (tVar i) (tVar l)) (tCons (tOp (rIx K) (tVar i) (tVar j)) tNil))) (gTup K 2 (gCons (gSub (tVar i) (tVar j) rSetL) (gCons (gSub (tVar i) (tVar l) rSetL) gNil))) Dn σ H := by
  have lp := (List.getElem?_eq_some_iff.mp hp).1
  have lq := (List.getElem?_eq_some_iff.mp hq).1
  refine ⟨.ref L, hi, .int q, hl, .inl ⟨L, acc, q, x, rfl, rfl, SqL.of hL, atI_nat hq, .ref L, hi, .int p, hj, .inl ⟨L, acc, p, y, rfl, rfl, SqL.of hL, atI_nat hp, by show 2 ≤ sizeLine; decide, fun t ht => ?_⟩⟩⟩
  have nt : L ≠ t := ne_of_none hL ht
  have hL2 : upd H t (.tup [x, y]) L = some (.lst acc) := by rw [upd_ne nt]; exact hL
  have ix : ∀ {n k : Nat}, k < n → ixN n (k : Int) = some k := fun {n k} h => by
    unfold ixN
    rw [if_pos (by omega), if_pos (by omega)]
    rfl
  refine ⟨t, _, rfl, SqT.of upd_same, rfl, _, _, rfl, ⟨.ref L, hi, .int p, hj, L, acc, p, p, rfl, rfl, hL2, ix lp, _, _, rfl, ⟨.ref L, hi, .int q, hl, L, acc.set p x, q, q, rfl, rfl, upd_same, ix (by rw [List.length_set]; exact lq), rfl, n t ht⟩⟩⟩
end
section
variable {a : Addr} {S : List Addr} {G H : Hp}
theorem tif_ok {σ : L2.St} {t : TT} {b : Bool} {ta tb : TE} {Q : VK} (h : EvT a G t σ (· = b)) (f : Fr a S H) (s : Same G (off S H)) (q1 : ∀ H', Ext a H H' → Fr a S H' → b = true → ta σ H' Q) (q2 : ∀ H', Ext a H H' → Fr a S H' → b = false → tb σ H' Q) : tIf t ta tb σ H Q :=
  h S H f s _ fun b' H2 x e => by
    subst e
    cases b' with
    | true => exact q1 H2 x (f.ext x) rfl
    | false => exact q2 H2 x (f.ext x) rfl
end
/-! ### words put together again -/
theorem join_le (ys : List Str) : (Txt.join gap ys).length ≤ (ys.map (·.length)).sum + ys.length := by
  cases ys with
  | nil =>
    rw [TL.join_eq]
    exact Nat.le_refl _
  | cons y ys =>
    have := join_len (ws := y :: ys) (by simp)
    omega
theorem sum_app (xs ys : List Str) : ((xs ++ ys).map (·.length)).sum = (xs.map (·.length)).sum + (ys.map (·.length)).sum := by rw [List.map_append, List.sum_append]
theorem sum_split (xs : List Str) (n : Nat) : (xs.map (·.length)).sum = ((xs.take n).map (·.length)).sum + ((xs.drop n).map (·.length)).sum := by
  rw [← sum_app, List.take_append_drop]
theorem cut_drop {α : Type} {xs : List α} {n : Nat} (h : n ≤ xs.length) : cutD xs (some (n : Int)) none = xs.drop n := by
  unfold cutD
  have e1 : HT.sIx xs.length 0 (some (n : Int)) = n := by
    rw [HT.sIx_nat, Nat.min_eq_left h]
  have e2 : HT.sIx xs.length xs.length none = xs.length := rfl
  rw [e1, e2, List.take_of_length_le (by rw [List.length_drop]; exact Nat.le_refl _)]
def preSp1 (ds : List PyData) : Prop := ∃ x : Str, ds = [.str x] ∧ TextOk 130 x ∧ ∀ w ∈ Txt.split x gap, w.length ≤ 66
def postSp1 (_ : List PyData) (z : PyData) : Prop := ∃ y : Str, z = .str y ∧ TextOk 200 y
/-- a text of words, by the words' sizes -/
theorem joined_ok {ys : List Str} (hs : ∀ y ∈ ys, Small y) (h : (ys.map (·.length)).sum + ys.length ≤ 200) : TextOk 200 (Txt.join gap ys) := ⟨Nat.le_trans (join_le ys) h, small_join hs⟩
theorem set_sum {ws : List Str} {p q : Nat} {x y : Str} (hp : ws[p]? = some y) (hq : ws[q]? = some x) : (((ws.set p x).set q y).map (·.length)).sum = (ws.map (·.length)).sum := by
  have perm : ((ws.set p x).set q y).Perm ws := by
    obtain ⟨lp, ep⟩ := List.getElem?_eq_some_iff.mp hp
    obtain ⟨lq, eq⟩ := List.getElem?_eq_some_iff.mp hq
    have := List.set_set_perm (as := ws) lp lq
    rw [ep, eq] at this
    first | exact this | exact this.trans (List.Perm.refl _)
  exact (perm.map _).sum_nat
/-- what spoils a setting -/
def sixD : List PyData := [.none, .bool true, .str "A", .int (-1), .tuple [.int 2, .int 4], .tuple []]
def fiveD (r : Row) : List PyData := [.int r.l, .int r.t, .str r.w, .str r.f, r.n]
def thingsD (r : Row) (n : Nat) (z : PyData) : List PyData := [.tuple (((fiveD r).take n ++ [z]) ++ (fiveD r).drop (n + 1)), .list (fiveD r), .tuple ((fiveD r).take 4), .tuple (fiveD r ++ [.int 1]), .none, .str (noteR r), .int 0]
def preOr (ds : List PyData) : Prop := ∃ (d : PyData) (r : Row), ds = [d, r.d] ∧ RowB r
def postOr (ds : List PyData) (z : PyData) : Prop := ∃ (d : PyData) (r : Row) (n : Nat) (y : PyData), ds = [d, r.d] ∧ n < 5 ∧ y ∈ sixD ∧ z = .list (thingsD r n y)
/-- what the law takes for a setting, the field left out -/
def isRowB : PyData → Bool
  | .tuple [l, t, w, f, n] => (isIntD l && isIntD t) && ((isLevelD l && timeB t) && (isStrD w && isStrD f)) && isRatD n
  | _ => false
def ParOk (n : PyData) : Prop := ∀ x y, n = .tuple [x, y] → ∃ i j : Int, x = .int i ∧ y = .int j ∧ small2 i j
def preIr (ds : List PyData) : Prop := ∃ d e : PyData, ds = [d, e] ∧ Tame d ∧ ∀ l t w f n, d = .tuple [l, t, w, f, n] → ParOk n
def postIr (ds : List PyData) (z : PyData) : Prop := ∃ d e : PyData, ds = [d, e] ∧ z = .bool (isRowB d)
end LK
namespace LK
open PySem PySem.Spec L2
theorem eqv_tup {r : PyData} {i j : Int} (hr : isRatD r = true) (h : PyData.eqv r (.tuple [.int i, .int j]) = true) : r = .tuple [.int i, .int j] := by
  rcases rat_cases hr with ⟨n, rfl⟩ | ⟨n, m, rfl, _⟩
  · simp [PyData.eqv] at h
  · simp only [PyData.eqv, PyData.eqvAll, Bool.and_eq_true, beq_iff_eq, and_true] at h
    rw [h.1, h.2]
theorem ratio_eqv {i j : Int} (h : j ≠ 0) : PyData.eqv (ratioD i j) (.tuple [.int i, .int j]) = isRatD (.tuple [.int i, .int j]) := by
  have hr := ratio_rat (n := i) h
  cases hd : isRatD (.tuple [.int i, .int j]) with
  | true =>
    have e : ratioD i j = .tuple [.int i, .int j] := val_inj hr hd (by rw [val_ratio h]; rfl)
    rw [e, rat_eqv hd hd]
    exact decide_eq_true rfl
  | false =>
    cases hz : PyData.eqv (ratioD i j) (.tuple [.int i, .int j]) with
    | false => rfl
    | true =>
      rw [eqv_tup hr hz, hd] at hr
      cases hr
end LK
set_option Elab.async false
set_option linter.all false
set_option maxRecDepth 100000
set_option maxHeartbeats 1000000
/-! LK56: a promise over the pot and a sheet; odd settings judged -/
namespace LK
open PySem PySem.Spec L2
open PyProof.Rows hiding St
open TL (tl numL)
open NumText (digitsVal AllDigits)
def spPM (K : PySem.W.Frag) (C : Addr) (pre : List Str → List PyData → Prop) (post : List Str → List PyData → PyData → Prop) : Sp := fun vs H Q _ => ∃ (a : Addr) (S : List Addr) (p : Addr) (ns : List Str) (ws : List V) (ds : List PyData),
  vs = .ref a :: .ref p :: ws ∧ Fr a S H ∧ ShAt C (off S H) p ns ∧ DA K (off S H) ws ds ∧ pre ns ds ∧ ∀ v d H', Ext a H H' → D K (off S H') v d → post ns ds d → Q v H'
theorem spPM_len {K : PySem.W.Frag} {C : Addr} {pre : List Str → List PyData → Prop} {post : List Str → List PyData → PyData → Prop} {n : Nat} (hp : ∀ ns ds, pre ns ds → ds.length = n) {vs : List V} {H : Hp} {Q : VK} {E : XK} (h : spPM K C pre post vs H Q E) : vs.length = n + 2 := by
  obtain ⟨a, S, p, ns, ws, ds, rfl, _, _, m, pr, _⟩ := h
  rw [List.length_cons, List.length_cons, m.length, hp ns ds pr]
section
variable {K : PySem.W.Frag} {a : Addr} {S : List Addr} {σ : L2.St} {G H : Hp} {ta tb te : TE} {tr : TA} {C p : Addr} {ns : List Str} {d : PyData} {Cd : PyData → Prop} {A1 : List PyData → Prop} {Cn : List Str → Prop} {Dn : Ends}
theorem ev_callPM {pre : List Str → List PyData → Prop} {post : List Str → List PyData → PyData → Prop} {E : XK} {i j : Nat} (hi : σ[i]? = some (some (.ref a))) (hj : σ[j]? = some (some (.ref p))) (h : ShAt C G p ns) (hr : EvA K a G tr σ A1) (hp : ∀ ds, A1 ds → pre ns ds) (hc : ∀ ds r, A1 ds → post ns ds r → Cd r) :
    Ev K a G (tCall (spPM K C pre post) [] E (tCons (tVar i) (tCons (tVar j) tr))) σ Cd := fun S H1 f s Q q => ⟨.ref a, hi, .ref p, hj, hr S H1 f s _ fun vs ds H2 x2 mv cv => by
  show spPM K C pre post (V.ref a :: V.ref p :: vs ++ []) H2 Q E
  rw [List.append_nil]
  exact ⟨a, S, p, ns, vs, ds, rfl, f.ext x2, h.mono (f.same x2 s), mv, hp ds cv, fun v d H3 x3 m3 p3 => q v d H3 (x2.trans x3) m3 (hc ds d cv p3)⟩⟩
theorem q_parSC {i j : Nat} (ha : EvS C a G ta σ Cn) (hb : Ev K a G tb σ Cd) (f : Fr a S H) (s : Same G (off S H))
    (q : ∀ p ns v d H', Ext a H H' → Fr a S H' → ShAt C (off S H') p ns → Cn ns → D K (off S H') v d → Cd d → Dn.nx ((σ.set i (some (.ref p))).set j (some v)) H') : tPar i j (tCons ta (tCons tb tNil)) Dn σ H :=
  ha S H f s _ fun p ns H2 x2 sh c => hb S H2 (f.ext x2) (f.same x2 s) _ fun v d' H3 x3 m e => ⟨_, _, rfl, q p ns v d' H3 (x2.trans x3) (f.ext (x2.trans x3)) (sh.mono (x3.off f.mem)) c m e⟩
theorem ev_notN (h : Ev K a G te σ (· = d)) : Ev K a G (tOp (fun x y H Q => y = V.non ∧ Q (.bl (!decide (x = .non))) H) te (tC .non)) σ (· = .bool (!noneD d)) := fun S H1 f s Q q => h S H1 f s _ fun v d' H2 x2 m e => by
  subst e
  refine ⟨rfl, ?_⟩
  have e : (!decide (v = V.non)) = !noneD d' := by
    cases m <;> simp [noneD]
  rw [e]
  exact q _ _ H2 x2 (.bl _) rfl
end
/-! a good setting -/
structure RowG (ns : List Str) (r : Row) : Prop where
  set : isSettingD ns r.d = true
  t : r.t.natAbs < 10 ^ 40
  n : Num 100 r.n
  w : isNameD (.str r.w) = true
  f : isNameD (.str r.f) = true
  l0 : 0 ≤ r.l
  l2 : r.l ≤ 2
theorem pow_40 : (10 : Nat) ^ 40 < 2 ^ 300 := by decide +kernel
theorem name_text {x : Str} (h : isNameD (.str x) = true) : TextOk 8 x := ⟨(name_len h).2, name_small h⟩
theorem RowG.rowB {ns : List Str} {r : Row} (h : RowG ns r) : RowB r := ⟨Nat.lt_of_le_of_lt (show r.l.natAbs ≤ 2 by have := h.l0; have := h.l2; omega) (by decide +kernel), Nat.lt_trans h.t pow_40, h.n.up (by decide), by have := (name_len h.w).2; omega, by have := (name_len h.f).2; omega⟩
theorem RowG.text {ns : List Str} {r : Row} (h : RowG ns r) : TextOk 130 (noteR r) := note_text h.l0 h.l2 h.t (name_text h.w) (name_text h.f) h.n.rat (Nat.lt_trans h.n.top pow_100) (Nat.lt_trans h.n.low pow_100)
theorem RowG.words {ns : List Str} {r : Row} (h : RowG ns r) : ∀ w ∈ Txt.split (noteR r) gap, w.length ≤ 66 := by
  rw [split_note (no_gap_name h.w) (no_gap_name h.f) h.n.rat]
  intro w m
  have h0 := h.l0
  have h2 := h.l2
  have a := textI_len (k := 1) (i := r.l) (by decide) (by show _ < 10; omega)
  have b := textI_len (k := 40) (i := r.t) (by decide) h.t
  have c := (written_text (k := 31) (by decide) h.n.rat (Nat.lt_trans h.n.top pow_100) (Nat.lt_trans h.n.low pow_100)).len
  have d := (name_len h.w).2
  have e := (name_len h.f).2
  simp only [noteWs, List.mem_cons, List.not_mem_nil, or_false] at m
  rcases m with rfl | rfl | rfl | rfl | rfl <;> omega
theorem RowG.sz {ns : List Str} {r : Row} (h : RowG ns r) : Sz 60 2 r.d := by
  have hb := h.rowB
  refine sz_tup (n := 10) (k := 1) (fun d m => ?_) (by show 5 * 11 ≤ 60; decide)
  simp only [List.mem_cons, List.not_mem_nil, or_false] at m
  rcases m with rfl | rfl | rfl | rfl | rfl
  · exact (sz_int (Nat.lt_trans hb.l (Nat.pow_lt_pow_right (by decide) (by decide)))).up (by decide) (by decide)
  · exact (sz_int (Nat.lt_trans hb.t (Nat.pow_lt_pow_right (by decide) (by decide)))).up (by decide) (by decide)
  · exact (name_sz h.w).up (by decide) (by decide)
  · exact (name_sz h.f).up (by decide) (by decide)
  · exact (h.n.up (by decide)).sz
theorem six_ok : ∀ z ∈ sixD, Sz 20 1 z ∧ ParOk z ∧ (∀ i, z = .int i → i = -1) ∧ (∀ x, z = .str x → x = "A") ∧ (isRatD z = true → z = .int (-1)) := by
  intro z m
  simp only [sixD, List.mem_cons, List.not_mem_nil, or_false] at m
  rcases m with rfl | rfl | rfl | rfl | rfl | rfl
  · exact ⟨Sz.of (by decide +kernel), fun _ _ e => (by cases e), fun _ e => (by cases e), fun _ e => (by cases e), fun e => by cases e⟩
  · exact ⟨Sz.of (by decide +kernel), fun _ _ e => (by cases e), fun _ e => (by cases e), fun _ e => (by cases e), fun e => by cases e⟩
  · exact ⟨Sz.of (by decide +kernel), fun _ _ e => (by cases e), fun _ e => (by cases e), fun _ e => (by injection e with e; exact e.symm), fun e => by cases e⟩
  · exact ⟨Sz.of (by decide +kernel), fun _ _ e => (by cases e), fun _ e => (by injection e with e; exact e.symm), fun _ e => (by cases e), fun e => rfl⟩
  · refine ⟨Sz.of (by decide +kernel), fun x y e => ?_, fun _ e => (by cases e), fun _ e => (by cases e), fun e => ?_⟩
    rotate_left
    · have q : isRatD (.tuple [.int 2, .int 4]) = false := by decide +kernel
      rw [q] at e
      cases e
    injection e with e
    injection e with e1 e
    injection e with e2 _
    exact ⟨2, 4, e1.symm, e2.symm, by decide, by decide +kernel, by decide +kernel⟩
  · exact ⟨Sz.of (by decide +kernel), fun _ _ e => (by injection e with e; cases e), fun _ e => (by cases e), fun _ e => (by cases e), fun e => by cases e⟩
theorem num_par {n : PyData} (h : Num 100 n) : ParOk n := by
  rintro x y rfl
  rcases rat_cases h.rat with ⟨i, e⟩ | ⟨i, j, e, j2⟩
  · cases e
  · injection e with e
    injection e with e1 e
    injection e with e2 _
    subst e1 e2
    have a : i.natAbs < 2 ^ 100 := h.top
    have b : j.natAbs < 2 ^ 100 := h.low
    exact ⟨i, j, rfl, rfl, by omega, Nat.lt_trans a (Nat.pow_lt_pow_right (by decide) (by decide)), Nat.lt_trans b (Nat.pow_lt_pow_right (by decide) (by decide))⟩
/-- the things that are no settings, or are -/
structure ThG (d : PyData) : Prop where
  tm : Tame d
  tx : ∀ x, d = .str x → TextOk 200 x
  par : ∀ l t w f n, d = .tuple [l, t, w, f, n] → ParOk n
  row : ∀ r : Row, d = r.d → isRowB d = true → RowB r ∧ TextOk 200 (noteR r) ∧ r.f.length ≤ 8
theorem tame_items {ds : List PyData} {m : Nat} (h : ∀ z ∈ ds, Sz 20 1 z) (hl : ds.length ≤ 20) : Tame (.tuple ds) := (sz_tup (n := 20) (m := 420) (k := 1) h (by omega)).tame
theorem row_parts {ns : List Str} {r : Row} (h : RowG ns r) : ∀ z ∈ fiveD r, Sz 20 1 z := by
  intro d m
  have hb := h.rowB
  simp only [fiveD, List.mem_cons, List.not_mem_nil, or_false] at m
  rcases m with rfl | rfl | rfl | rfl | rfl
  · exact (sz_int (Nat.lt_trans hb.l (Nat.pow_lt_pow_right (by decide) (by decide)))).up (by decide) (by decide)
  · exact (sz_int (Nat.lt_trans hb.t (Nat.pow_lt_pow_right (by decide) (by decide)))).up (by decide) (by decide)
  · exact (name_sz h.w).up (by decide) (by decide)
  · exact (name_sz h.f).up (by decide) (by decide)
  · exact (h.n.up (by decide)).sz.up (by decide) (by decide)
theorem text_A : TextOk 8 "A" := ⟨by decide +kernel, by
  have q : ∀ c ∈ ("A" : Str).cps.toList, c < 16 ^ 8 := by decide +kernel
  exact q⟩
theorem neg_num : Num 100 (.int (-1)) := ⟨rfl, by decide +kernel, by decide +kernel⟩
/-- a setting with one part exchanged -/
theorem swap_row {ns : List Str} {r q : Row} {n : Nat} {z : PyData} (h : RowG ns r) (hz : z ∈ sixD) (hn : n < 5) (e : fiveD q = ((fiveD r).take n ++ [z]) ++ (fiveD r).drop (n + 1)) (hb : isRowB q.d = true) : RowB q ∧ TextOk 200 (noteR q) ∧ q.f.length ≤ 8 := by
  obtain ⟨_, _, zi, zs, zr⟩ := six_ok z hz
  have hb' : ((true && true) && (((isLevelD (.int q.l)) && timeB (.int q.t)) && (true && true)) && isRatD q.n) = true := hb
  simp only [Bool.and_self, Bool.true_and, Bool.and_true, Bool.and_eq_true] at hb'
  obtain ⟨⟨lv, tb⟩, qn⟩ := hb'
  have lv : (decide (0 ≤ q.l) && decide (q.l ≤ 2)) = true := lv
  rw [Bool.and_eq_true] at lv
  have l0 := of_decide_eq_true lv.1
  have l2 := of_decide_eq_true lv.2
  have key : (q.t.natAbs < 10 ^ 40) ∧ TextOk 8 q.w ∧ TextOk 8 q.f ∧ Num 100 q.n := by
    have A := h.t
    have B := name_text h.w
    have C := name_text h.f
    have D := h.n
    have m1 : (1 : Nat) < 10 ^ 40 := by decide +kernel
    match n, hn with
    | 0, _ =>
      injection e with e1 e
      injection e with e2 e
      injection e with e3 e
      injection e with e4 e
      injection e with e5 _
      injection e2 with e2
      injection e3 with e3
      injection e4 with e4
      rw [e2, e3, e4, e5]
      exact ⟨A, B, C, D⟩
    | 1, _ =>
      injection e with e1 e
      injection e with e2 e
      injection e with e3 e
      injection e with e4 e
      injection e with e5 _
      injection e3 with e3
      injection e4 with e4
      have := zi _ e2.symm
      rw [this, e3, e4, e5]
      exact ⟨m1, B, C, D⟩
    | 2, _ =>
      injection e with e1 e
      injection e with e2 e
      injection e with e3 e
      injection e with e4 e
      injection e with e5 _
      injection e2 with e2
      injection e4 with e4
      have := zs _ e3.symm
      rw [this, e2, e4, e5]
      exact ⟨A, text_A, C, D⟩
    | 3, _ =>
      injection e with e1 e
      injection e with e2 e
      injection e with e3 e
      injection e with e4 e
      injection e with e5 _
      injection e2 with e2
      injection e3 with e3
      have := zs _ e4.symm
      rw [this, e2, e3, e5]
      exact ⟨A, B, text_A, D⟩
    | 4, _ =>
      injection e with e1 e
      injection e with e2 e
      injection e with e3 e
      injection e with e4 e
      injection e with e5 _
      injection e2 with e2
      injection e3 with e3
      injection e4 with e4
      have e5' : q.n = z := e5
      have := zr (e5' ▸ qn)
      rw [e2, e3, e4, e5', this]
      exact ⟨A, B, C, neg_num⟩
  obtain ⟨kt, kw, kf, kn⟩ := key
  have tx := note_text l0 l2 kt kw kf kn.rat (Nat.lt_trans kn.top pow_100) (Nat.lt_trans kn.low pow_100)
  exact ⟨⟨Nat.lt_of_le_of_lt (show q.l.natAbs ≤ 2 by omega) (by decide +kernel), Nat.lt_trans kt pow_40, kn.up (by decide), by have := kw.len; omega, by have := kf.len; omega⟩, ⟨by have := tx.len; omega, tx.small⟩, kf.len⟩
theorem five_len {q : Row} {L : List PyData} (h : PyData.tuple L = q.d) : L = fiveD q := by
  injection h
theorem things_ok {ns : List Str} {r : Row} {n : Nat} {z : PyData} (h : RowG ns r) (hz : z ∈ sixD) (hn : n < 5) : ∀ d ∈ thingsD r n z, ThG d := by
  have hp := row_parts h
  obtain ⟨z1, z2, _⟩ := six_ok z hz
  intro d m
  simp only [thingsD, List.mem_cons, List.not_mem_nil, or_false] at m
  rcases m with rfl | rfl | rfl | rfl | rfl | rfl | rfl
  · refine ⟨tame_items (m := 0) (fun y my => ?_) (by rw [List.length_append, List.length_append, List.length_take, List.length_drop]; show min n 5 + 1 + (5 - (n + 1)) ≤ 20; omega), fun x e => (by cases e), fun l t w f q e => ?_, fun q e hb => ?_⟩
    · rcases List.mem_append.mp my with my | my
      · rcases List.mem_append.mp my with my | my
        · exact hp y (List.mem_of_mem_take my)
        · rw [List.mem_singleton.mp my]
          exact z1
      · exact hp y (List.mem_of_mem_drop my)
    · injection e with e
      match n, hn with
      | 0, _ => injection e with _ e; injection e with _ e; injection e with _ e; injection e with _ e; injection e with e _; exact e ▸ num_par h.n
      | 1, _ => injection e with _ e; injection e with _ e; injection e with _ e; injection e with _ e; injection e with e _; exact e ▸ num_par h.n
      | 2, _ => injection e with _ e; injection e with _ e; injection e with _ e; injection e with _ e; injection e with e _; exact e ▸ num_par h.n
      | 3, _ => injection e with _ e; injection e with _ e; injection e with _ e; injection e with _ e; injection e with e _; exact e ▸ num_par h.n
      | 4, _ => injection e with _ e; injection e with _ e; injection e with _ e; injection e with _ e; injection e with e _; exact e ▸ z2
    · refine swap_row h hz hn (five_len e).symm (e ▸ hb)
  · exact ⟨(sz_list (n := 20) (m := 420) (k := 1) hp (by show 5 * 21 ≤ 420; decide)).tame, fun x e => (by cases e), fun _ _ _ _ _ e => (by cases e), fun q e => by cases e⟩
  · refine ⟨tame_items (m := 0) (fun y my => hp y (List.mem_of_mem_take my)) (by show 4 ≤ 20; decide), fun x e => (by cases e), fun _ _ _ _ _ e => ?_, fun q e => ?_⟩
    · injection e with e
      have := congrArg List.length e
      cases this
    · have := congrArg List.length (five_len e)
      cases this
  · refine ⟨tame_items (m := 0) (fun y my => ?_) (by show 6 ≤ 20; decide), fun x e => (by cases e), fun _ _ _ _ _ e => ?_, fun q e => ?_⟩
    · rcases List.mem_append.mp my with my | my
      · exact hp y my
      · rw [List.mem_singleton.mp my]
        exact Sz.of (by decide +kernel)
    · injection e with e
      have := congrArg List.length e
      cases this
    · have := congrArg List.length (five_len e)
      cases this
  · exact ⟨(Sz.of (n := 0) (k := 0) (by decide +kernel)).tame, fun x e => (by cases e), fun _ _ _ _ _ e => (by cases e), fun q e => by cases e⟩
  · have t := h.text
    refine ⟨((str_szS t.small).up (m := 200) (Nat.le_trans t.len (by decide)) (Nat.le_refl _)).tame, fun x e => ?_, fun _ _ _ _ _ e => (by cases e), fun q e => by cases e⟩
    injection e with e
    subst e
    exact ⟨by have := t.len; omega, t.small⟩
  · exact ⟨(Sz.of (n := 0) (k := 0) (by decide +kernel)).tame, fun x e => (by cases e), fun _ _ _ _ _ e => (by cases e), fun q e => by cases e⟩
/-- what is right is good -/
theorem set_rowB {ns : List Str} {d : PyData} (h : isSettingD ns d = true) : isRowB d = true := by
  obtain ⟨r, rfl, h0, h2, h1, hw, hf, hn⟩ := set_row h
  show ((true && true) && ((((decide (0 ≤ r.l) && decide (r.l ≤ 2))) && decide (1 ≤ r.t)) && (true && true)) && isRatD r.n) = true
  rw [decide_eq_true h0, decide_eq_true h2, decide_eq_true h1, hn]
  rfl
theorem rowB_row {d : PyData} (h : isRowB d = true) : ∃ r : Row, d = r.d := by
  match d, h with
  | .tuple [l, t, w, f, n], h =>
    simp only [isRowB, Bool.and_eq_true] at h
    obtain ⟨⟨⟨h1, h2⟩, ⟨_, _⟩, h5, h6⟩, _⟩ := h
    obtain ⟨l, rfl⟩ : ∃ i, l = .int i := by cases l <;> first | exact ⟨_, rfl⟩ | cases h1
    obtain ⟨t, rfl⟩ : ∃ i, t = .int i := by cases t <;> first | exact ⟨_, rfl⟩ | cases h2
    obtain ⟨w, rfl⟩ : ∃ i, w = .str i := by cases w <;> first | exact ⟨_, rfl⟩ | cases h5
    obtain ⟨f, rfl⟩ : ∃ i, f = .str i := by cases f <;> first | exact ⟨_, rfl⟩ | cases h6
    exact ⟨⟨l, t, w, f, n⟩, rfl⟩
theorem set_sz {ns : List Str} {x : Str} {z : PyData} (h : setOfD ns x = some z) (hx : TextOk 200 x) : Sz 1100 2 z := by
  unfold setOfD at h
  split at h
  · rename_i a b c d e hs
    have hw : ∀ w ∈ [a, b, c, d, e], TextOk 200 w := fun w mw => hx.word (by rw [hs]; exact mw)
    split at h
    · injection h with h
      rw [← h]
      exact five_sz (hw a (by simp)).len (hw b (by simp)).len (hw c (by simp)) (hw d (by simp)) (hw e (by simp)).len
    · cases h
  · cases h
end LK
set_option Elab.async false
set_option linter.all false
set_option maxRecDepth 100000
set_option maxHeartbeats 1000000
/-! LK57: for k in range(..): pot = pot(script, k); .. -/
namespace LK
open PySem PySem.Spec L2
open PyProof.Rows hiding St
/-- the law's loop: slot 0 the script, slot 1 the number, slot 2 the pot -/
theorem rd_lawFor {K : PySem.W.Frag} {E2 : XK} {s : Addr} {ns : List Int} {H : Hp} {tr : TA} {tb : TS} {Dn : Ends} {σ : L2.St} {hi : σ.length = m} (hm : 3 ≤ m) (hs : SqL K H s (ns.map V.int)) (h0 : σ[0]? = some (some (.ref s)))
    (hz : ∀ R : List V → Hp → Prop, (∀ z : Int, 1 ≤ z → z ≤ 63 → R [.int z] H) → tr σ H R)
    (body : ∀ (Dn' : Ends) (p : Addr) (H0 H' : Hp) (σ' : L2.St), Same H H' → H p = none → PotAt H' p → σ'.length = m → σ'[0]? = some (some (.ref s)) → σ'[2]? = some (some (.ref p)) → (∀ σ'' H'', σ''.length = m → σ''[0]? = some (some (.ref s)) → Ext p H' H'' → Dn'.nx σ'' H'') → tb Dn' σ' H')
    (fin : ∀ σ' H', Dn.nx σ' H') : tFor (iRng1 tr) (gName 1) (tSeq (tAsg (tCall (spPot K) [] E2 (tCons (tVar 0) (tCons (tVar 1) tNil))) (gName 2)) tb) Dn σ H := by
  refine hz _ fun z z1 z63 => ⟨z, rfl, by omega, by omega, ?_⟩
  refine for_range (lo := 0) (n := z.toNat) (fun i σ' H' => σ'.length = m ∧ σ'[0]? = some (some (.ref s)) ∧ Same H H') ⟨hi, h0, Same.refl H⟩ ?_ ?_
  · rintro i σ' H1 hi ⟨hl, e0, s1⟩
    have e1 : (σ'.set 1 (some (.int (0 + (i : Nat)))))[1]? = some (some (.int (0 + (i : Nat)))) := by rw [List.getElem?_set_self (by omega)]
    have e0' : (σ'.set 1 (some (.int (0 + (i : Nat)))))[0]? = some (some (.ref s)) := by rw [List.getElem?_set_ne (by decide)]; exact e0
    refine ⟨.ref s, e0', _, e1, s, ns, i, by rw [List.append_nil, Int.zero_add], s1.seq hs, by omega, fun p H2 s2 hp pot => ?_⟩
    have s02 := s1.trans s2
    have hp0 : H p = none := s1.free hp
    refine body _ p H1 H2 _ s02 hp0 pot (by rw [List.length_set, List.length_set]; exact hl) (by rw [List.getElem?_set_ne (by decide)]; exact e0') (by rw [List.getElem?_set_self (by rw [List.length_set]; omega)]) fun σ'' H'' l'' e'' x'' => ⟨l'', e'', Ext.same_of hp0 s02 x''⟩
  · rintro σ' H1 _
    exact fin σ' H1
end LK
set_option Elab.async false
set_option linter.all false
set_option maxRecDepth 100000
set_option maxHeartbeats 4000000
namespace K91
open PySem PySem.Spec L2 LK
open PyProof.Rows hiding St
def topS (i : Nat) : Stmt := PySem.Challenge.pw_lastheld_k91_texts_of_settings.main.body.getD i (.Pass ⟨0, 0, 0, 0⟩)
abbrev s_InvalidNumber___init__ : Stmt := inClass (topS 4) 0
theorem sc_InvalidNumber___init__ : FnScope ["self", "value"] ["self", "value"] (defScope s_InvalidNumber___init__) := ⟨rfl, rfl, rfl, by decide +kernel, rfl, by decide +kernel, by decide +kernel⟩
abbrev s_InvalidLevel___init__ : Stmt := inClass (topS 5) 0
theorem sc_InvalidLevel___init__ : FnScope ["self", "value"] ["self", "value"] (defScope s_InvalidLevel___init__) := ⟨rfl, rfl, rfl, by decide +kernel, rfl, by decide +kernel, by decide +kernel⟩
abbrev s_InvalidFields___init__ : Stmt := inClass (topS 6) 0
theorem sc_InvalidFields___init__ : FnScope ["self", "index"] ["self", "index"] (defScope s_InvalidFields___init__) := ⟨rfl, rfl, rfl, by decide +kernel, rfl, by decide +kernel, by decide +kernel⟩
abbrev s_InvalidSetting___init__ : Stmt := inClass (topS 7) 0
theorem sc_InvalidSetting___init__ : FnScope ["self", "value"] ["self", "value"] (defScope s_InvalidSetting___init__) := ⟨rfl, rfl, rfl, by decide +kernel, rfl, by decide +kernel, by decide +kernel⟩
abbrev s_InvalidText___init__ : Stmt := inClass (topS 8) 0
theorem sc_InvalidText___init__ : FnScope ["self", "line"] ["self", "line"] (defScope s_InvalidText___init__) := ⟨rfl, rfl, rfl, by decide +kernel, rfl, by decide +kernel, by decide +kernel⟩
abbrev s_InvalidCommand___init__ : Stmt := inClass (topS 9) 0
theorem sc_InvalidCommand___init__ : FnScope ["self", "command"] ["self", "command"] (defScope s_InvalidCommand___init__) := ⟨rfl, rfl, rfl, by decide +kernel, rfl, by decide +kernel, by decide +kernel⟩
abbrev s_UnknownField___init__ : Stmt := inClass (topS 10) 0
theorem sc_UnknownField___init__ : FnScope ["self", "value"] ["self", "value"] (defScope s_UnknownField___init__) := ⟨rfl, rfl, rfl, by decide +kernel, rfl, by decide +kernel, by decide +kernel⟩
abbrev s_is_name : Stmt := topS 14
theorem sc_is_name : FnScope ["value", "letter"] ["value"] (defScope s_is_name) := ⟨rfl, rfl, rfl, by decide +kernel, rfl, by decide +kernel, by decide +kernel⟩
abbrev s_is_integer : Stmt := topS 15
theorem sc_is_integer : FnScope ["value"] ["value"] (defScope s_is_integer) := ⟨rfl, rfl, rfl, by decide +kernel, rfl, by decide +kernel, by decide +kernel⟩
abbrev s_common_divisor : Stmt := topS 18
theorem sc_common_divisor : FnScope ["one", "other", "first", "second"] ["one", "other"] (defScope s_common_divisor) := ⟨rfl, rfl, rfl, by decide +kernel, rfl, by decide +kernel, by decide +kernel⟩
abbrev s_is_number : Stmt := topS 19
theorem sc_is_number : FnScope ["value"] ["value"] (defScope s_is_number) := ⟨rfl, rfl, rfl, by decide +kernel, rfl, by decide +kernel, by decide +kernel⟩
abbrev s_check_numbers : Stmt := topS 20
theorem sc_check_numbers : FnScope ["values", "value"] ["values"] (defScope s_check_numbers) := ⟨rfl, rfl, rfl, by decide +kernel, rfl, by decide +kernel, by decide +kernel⟩
abbrev s_top_and_low : Stmt := topS 21
theorem sc_top_and_low : FnScope ["value"] ["value"] (defScope s_top_and_low) := ⟨rfl, rfl, rfl, by decide +kernel, rfl, by decide +kernel, by decide +kernel⟩
abbrev s_number_text : Stmt := topS 22
theorem sc_number_text : FnScope ["value", "top", "low"] ["value"] (defScope s_number_text) := ⟨rfl, rfl, rfl, by decide +kernel, rfl, by decide +kernel, by decide +kernel⟩
abbrev s_is_decimal : Stmt := topS 23
theorem sc_is_decimal : FnScope ["word", "sign"] ["word"] (defScope s_is_decimal) := ⟨rfl, rfl, rfl, by decide +kernel, rfl, by decide +kernel, by decide +kernel⟩
abbrev s_parse_integer : Stmt := topS 24
theorem sc_parse_integer : FnScope ["word", "rest"] ["word"] (defScope s_parse_integer) := ⟨rfl, rfl, rfl, by decide +kernel, rfl, by decide +kernel, by decide +kernel⟩
abbrev s_parse_number : Stmt := topS 25
theorem sc_parse_number : FnScope ["text", "words", "top"] ["text"] (defScope s_parse_number) := ⟨rfl, rfl, rfl, by decide +kernel, rfl, by decide +kernel, by decide +kernel⟩
abbrev s_is_level : Stmt := topS 29
theorem sc_is_level : FnScope ["value"] ["value"] (defScope s_is_level) := ⟨rfl, rfl, rfl, by decide +kernel, rfl, by decide +kernel, by decide +kernel⟩
abbrev s_is_setting : Stmt := topS 30
theorem sc_is_setting : FnScope ["sheet", "value", "level", "time", "replica", "field", "worth"] ["sheet", "value"] (defScope s_is_setting) := ⟨rfl, rfl, rfl, by decide +kernel, rfl, by decide +kernel, by decide +kernel⟩
abbrev s_check_fields : Stmt := topS 32
theorem sc_check_fields : FnScope ["fields", "index", "field"] ["fields"] (defScope s_check_fields) := ⟨rfl, rfl, rfl, by decide +kernel, rfl, by decide +kernel, by decide +kernel⟩
abbrev s_Sheet___init__ : Stmt := inClass (topS 33) 1
theorem sc_Sheet___init__ : FnScope ["self", "fields", "place", "field"] ["self", "fields"] (defScope s_Sheet___init__) := ⟨rfl, rfl, rfl, by decide +kernel, rfl, by decide +kernel, by decide +kernel⟩
abbrev s_Sheet_has_field : Stmt := inClass (topS 33) 5
theorem sc_Sheet_has_field : FnScope ["self", "value"] ["self", "value"] (defScope s_Sheet_has_field) := ⟨rfl, rfl, rfl, by decide +kernel, rfl, by decide +kernel, by decide +kernel⟩
abbrev s_setting_text : Stmt := topS 36
theorem sc_setting_text : FnScope ["sheet", "setting", "level", "time", "replica", "field", "value"] ["sheet", "setting"] (defScope s_setting_text) := ⟨rfl, rfl, rfl, by decide +kernel, rfl, by decide +kernel, by decide +kernel⟩
abbrev s_count_of : Stmt := topS 37
theorem sc_count_of : FnScope ["word", "found"] ["word"] (defScope s_count_of) := ⟨rfl, rfl, rfl, by decide +kernel, rfl, by decide +kernel, by decide +kernel⟩
abbrev s_value_of : Stmt := topS 38
theorem sc_value_of : FnScope ["word"] ["word"] (defScope s_value_of) := ⟨rfl, rfl, rfl, by decide +kernel, rfl, by decide +kernel, by decide +kernel⟩
abbrev s_setting_of : Stmt := topS 39
theorem sc_setting_of : FnScope ["sheet", "text", "words", "found"] ["sheet", "text"] (defScope s_setting_of) := ⟨rfl, rfl, rfl, by decide +kernel, rfl, by decide +kernel, by decide +kernel⟩
abbrev s_parse_setting : Stmt := topS 40
theorem sc_parse_setting : FnScope ["sheet", "text", "found"] ["sheet", "text"] (defScope s_parse_setting) := ⟨rfl, rfl, rfl, by decide +kernel, rfl, by decide +kernel, by decide +kernel⟩
abbrev s_l_pot : Stmt := topS 42
theorem sc_l_pot : FnScope ["_law_script", "_law_k", "_law_digits"] ["_law_script", "_law_k"] (defScope s_l_pot) := ⟨rfl, rfl, rfl, by decide +kernel, rfl, by decide +kernel, by decide +kernel⟩
abbrev s_l_draw : Stmt := topS 43
theorem sc_l_draw : FnScope ["_law_pot_here", "_law_many", "_law_digit"] ["_law_pot_here", "_law_many"] (defScope s_l_draw) := ⟨rfl, rfl, rfl, by decide +kernel, rfl, by decide +kernel, by decide +kernel⟩
abbrev s_l_word : Stmt := topS 44
theorem sc_l_word : FnScope ["_law_pot_here", "_law_taken", "_law_letters", "_law_k", "_law_word_here", "_law_letter"] ["_law_pot_here", "_law_taken"] (defScope s_l_word) := ⟨rfl, rfl, rfl, by decide +kernel, rfl, by decide +kernel, by decide +kernel⟩
abbrev s_l_words : Stmt := topS 45
theorem sc_l_words : FnScope ["_law_pot_here", "_law_many", "_law_found", "_law_k"] ["_law_pot_here", "_law_many"] (defScope s_l_words) := ⟨rfl, rfl, rfl, by decide +kernel, rfl, by decide +kernel, by decide +kernel⟩
abbrev s_l_common : Stmt := topS 46
theorem sc_l_common : FnScope ["_law_a", "_law_b"] ["_law_a", "_law_b"] (defScope s_l_common) := ⟨rfl, rfl, rfl, by decide +kernel, rfl, by decide +kernel, by decide +kernel⟩
abbrev s_l_ratio : Stmt := topS 47
theorem sc_l_ratio : FnScope ["_law_top", "_law_low", "_law_part"] ["_law_top", "_law_low"] (defScope s_l_ratio) := ⟨rfl, rfl, rfl, by decide +kernel, rfl, by decide +kernel, by decide +kernel⟩
abbrev s_l_worth : Stmt := topS 48
theorem sc_l_worth : FnScope ["_law_pot_here", "_law_way", "_law_top"] ["_law_pot_here"] (defScope s_l_worth) := ⟨rfl, rfl, rfl, by decide +kernel, rfl, by decide +kernel, by decide +kernel⟩
abbrev s_l_told : Stmt := topS 49
theorem sc_l_told : FnScope ["_law_pot_here", "_law_labels", "_law_folk", "_law_many", "_law_found", "_law_k", "_law_level", "_law_time", "_law_who", "_law_field"] ["_law_pot_here", "_law_labels", "_law_folk", "_law_many"] (defScope s_l_told) := ⟨rfl, rfl, rfl, by decide +kernel, rfl, by decide +kernel, by decide +kernel⟩
abbrev s_l_is_digits : Stmt := topS 50
theorem sc_l_is_digits : FnScope ["_law_word_here", "_law_sign"] ["_law_word_here"] (defScope s_l_is_digits) := ⟨rfl, rfl, rfl, by decide +kernel, rfl, by decide +kernel, by decide +kernel⟩
abbrev s_l_ratio_note : Stmt := topS 51
theorem sc_l_ratio_note : FnScope ["_law_ratio_here"] ["_law_ratio_here"] (defScope s_l_ratio_note) := ⟨rfl, rfl, rfl, by decide +kernel, rfl, by decide +kernel, by decide +kernel⟩
abbrev s_l_ratio_in : Stmt := topS 52
theorem sc_l_ratio_in : FnScope ["_law_word_here", "_law_pieces", "_law_part", "_law_top", "_law_low"] ["_law_word_here"] (defScope s_l_ratio_in) := ⟨rfl, rfl, rfl, by decide +kernel, rfl, by decide +kernel, by decide +kernel⟩
abbrev s_l_is_word : Stmt := topS 53
theorem sc_l_is_word : FnScope ["_law_word_here", "_law_letter"] ["_law_word_here"] (defScope s_l_is_word) := ⟨rfl, rfl, rfl, by decide +kernel, rfl, by decide +kernel, by decide +kernel⟩
abbrev s_l_row_note : Stmt := topS 54
theorem sc_l_row_note : FnScope ["_law_row"] ["_law_row"] (defScope s_l_row_note) := ⟨rfl, rfl, rfl, by decide +kernel, rfl, by decide +kernel, by decide +kernel⟩
abbrev s_l_row_in : Stmt := topS 55
theorem sc_l_row_in : FnScope ["_law_note", "_law_labels", "_law_words_here", "_law_worth_here"] ["_law_note", "_law_labels"] (defScope s_l_row_in) := ⟨rfl, rfl, rfl, by decide +kernel, rfl, by decide +kernel, by decide +kernel⟩
abbrev s_l_is_short : Stmt := topS 56
theorem sc_l_is_short : FnScope ["_law_note", "_law_many", "_law_sign"] ["_law_note"] (defScope s_l_is_short) := ⟨rfl, rfl, rfl, by decide +kernel, rfl, by decide +kernel, by decide +kernel⟩
abbrev s_l_bent : Stmt := topS 57
theorem sc_l_bent : FnScope ["_law_pot_here", "_law_note", "_law_at", "_law_way", "_law_sign"] ["_law_pot_here", "_law_note"] (defScope s_l_bent) := ⟨rfl, rfl, rfl, by decide +kernel, rfl, by decide +kernel, by decide +kernel⟩
abbrev s_l_met : Stmt := topS 58
theorem sc_l_met : FnScope ["_law_home", "_law_thing", "_law_is_note", "_law_told_here", "e", "_law_others"] ["_law_home", "_law_thing", "_law_is_note"] (defScope s_l_met) := ⟨rfl, rfl, rfl, by decide +kernel, rfl, by decide +kernel, by decide +kernel⟩
abbrev s_l_spoilt : Stmt := topS 59
theorem sc_l_spoilt : FnScope ["_law_pot_here", "_law_note", "_law_words_here", "_law_way", "_law_at", "_law_to", "_law_odd", "_law_fresh"] ["_law_pot_here", "_law_note"] (defScope s_l_spoilt) := ⟨rfl, rfl, rfl, by decide +kernel, rfl, by decide +kernel, by decide +kernel⟩
abbrev s_l_odd_rows : Stmt := topS 60
theorem sc_l_odd_rows : FnScope ["_law_pot_here", "_law_labels", "_law_row", "_law_at", "_law_spoilt_here"] ["_law_pot_here", "_law_labels", "_law_row"] (defScope s_l_odd_rows) := ⟨rfl, rfl, rfl, by decide +kernel, rfl, by decide +kernel, by decide +kernel⟩
abbrev s_l_is_row : Stmt := topS 61
theorem sc_l_is_row : FnScope ["_law_thing", "_law_labels", "_law_part"] ["_law_thing", "_law_labels"] (defScope s_l_is_row) := ⟨rfl, rfl, rfl, by decide +kernel, rfl, by decide +kernel, by decide +kernel⟩
abbrev s_l_one_right : Stmt := topS 62
theorem sc_l_one_right : FnScope ["_law_pot_here", "_law_home", "_law_labels", "_law_row", "_law_note", "_law_turn", "_law_bent_here", "_law_found", "_law_due", "_law_thing", "_law_is_good"] ["_law_pot_here", "_law_home", "_law_labels", "_law_row"] (defScope s_l_one_right) := ⟨rfl, rfl, rfl, by decide +kernel, rfl, by decide +kernel, by decide +kernel⟩
abbrev s_law : Stmt := topS 63
theorem sc_law : FnScope ["_law_script", "_law_k", "_law_pot_here", "_law_wide", "_law_labels", "_law_home", "_law_folk", "_law_row", "_law_far"] ["_law_script"] (defScope s_law) := ⟨rfl, rfl, rfl, by decide +kernel, rfl, by decide +kernel, by decide +kernel⟩
structure Cls where
  LastheldError : Addr
  InvalidNumber : Addr
  InvalidLevel : Addr
  InvalidFields : Addr
  InvalidSetting : Addr
  InvalidText : Addr
  InvalidCommand : Addr
  Sheet : Addr
structure Txt (K : PySem.W.Frag) (mg : Str → Option Value) (c : Cls) : Prop where
  triv : True
  b_abs : mg "abs" = none
  b_all : mg "all" = none
  b_bool : mg "bool" = none
  b_divmod : mg "divmod" = none
  b_enumerate : mg "enumerate" = none
  b_int : mg "int" = none
  b_isinstance : mg "isinstance" = none
  b_len : mg "len" = none
  b_list : mg "list" = none
  b_max : mg "max" = none
  b_min : mg "min" = none
  b_range : mg "range" = none
  b_repr : mg "repr" = none
  b_str : mg "str" = none
  b_tuple : mg "tuple" = none
  g_LastheldError : mg "LastheldError" = some (.ref c.LastheldError)
  g_InvalidNumber : mg "InvalidNumber" = some (.ref c.InvalidNumber)
  g_InvalidLevel : mg "InvalidLevel" = some (.ref c.InvalidLevel)
  g_InvalidFields : mg "InvalidFields" = some (.ref c.InvalidFields)
  g_InvalidSetting : mg "InvalidSetting" = some (.ref c.InvalidSetting)
  g_InvalidText : mg "InvalidText" = some (.ref c.InvalidText)
  g_InvalidCommand : mg "InvalidCommand" = some (.ref c.InvalidCommand)
  g_Sheet : mg "Sheet" = some (.ref c.Sheet)
  cl_Sheet : ClsIs K c.Sheet
  cr_Sheet : ClX.CRead K c.Sheet (.type "type")
  kp_Sheet : PySem.W.keepIn K (.ref c.Sheet) = true
  cv_Sheet_MAX_FIELDS : ∃ u, ClX.CVal K c.Sheet (.type "type") "MAX_FIELDS" (.int 12) u
  na_Sheet_own_fields : NoAttr K c.Sheet "own_fields"
  na_Sheet_own_places : NoAttr K c.Sheet "own_places"
  mk_Sheet : ∃ (f : Addr) (fd : FuncData), Mk K c.Sheet f ∧ Fun K "__init__" "Sheet.__init__" s_Sheet___init__ f fd
  me_Sheet_has_field : ∃ (f : Addr) (fd : FuncData), Meth K c.Sheet "has_field" f ∧ Fun K "has_field" "Sheet.has_field" s_Sheet_has_field f fd
  xb_LastheldError : XB K mg "LastheldError" c.LastheldError
  xc_InvalidNumber : XC K mg "InvalidNumber" c.InvalidNumber
  nf_InvalidNumber : PySem.W.findIn K (.ref c.InvalidNumber) "value" = some none
  in_InvalidNumber : ∃ (fI : Addr) (fd : FuncData), PySem.W.findIn K (.ref c.InvalidNumber) "__init__" = some (some (.ref fI)) ∧ PySem.W.typeIn K (.ref fI) = some (.type "function") ∧ Fun K "__init__" "InvalidNumber.__init__" s_InvalidNumber___init__ fI fd
  k_InvalidNumber_InvalidCommand : PySem.W.kitOne K (.ref c.InvalidNumber) (.ref c.InvalidCommand) = some false
  k_InvalidNumber_InvalidNumber : PySem.W.kitOne K (.ref c.InvalidNumber) (.ref c.InvalidNumber) = some true
  k_InvalidNumber_InvalidLevel : PySem.W.kitOne K (.ref c.InvalidNumber) (.ref c.InvalidLevel) = some false
  k_InvalidNumber_InvalidSetting : PySem.W.kitOne K (.ref c.InvalidNumber) (.ref c.InvalidSetting) = some false
  k_InvalidNumber_InvalidText : PySem.W.kitOne K (.ref c.InvalidNumber) (.ref c.InvalidText) = some false
  k_InvalidNumber_LastheldError : PySem.W.kitOne K (.ref c.InvalidNumber) (.ref c.LastheldError) = some true
  xc_InvalidText : XC K mg "InvalidText" c.InvalidText
  nf_InvalidText : PySem.W.findIn K (.ref c.InvalidText) "line" = some none
  in_InvalidText : ∃ (fI : Addr) (fd : FuncData), PySem.W.findIn K (.ref c.InvalidText) "__init__" = some (some (.ref fI)) ∧ PySem.W.typeIn K (.ref fI) = some (.type "function") ∧ Fun K "__init__" "InvalidText.__init__" s_InvalidText___init__ fI fd
  k_InvalidText_InvalidCommand : PySem.W.kitOne K (.ref c.InvalidText) (.ref c.InvalidCommand) = some false
  k_InvalidText_InvalidNumber : PySem.W.kitOne K (.ref c.InvalidText) (.ref c.InvalidNumber) = some false
  k_InvalidText_InvalidLevel : PySem.W.kitOne K (.ref c.InvalidText) (.ref c.InvalidLevel) = some false
  k_InvalidText_InvalidSetting : PySem.W.kitOne K (.ref c.InvalidText) (.ref c.InvalidSetting) = some false
  k_InvalidText_InvalidText : PySem.W.kitOne K (.ref c.InvalidText) (.ref c.InvalidText) = some true
  k_InvalidText_LastheldError : PySem.W.kitOne K (.ref c.InvalidText) (.ref c.LastheldError) = some true
  xc_InvalidFields : XC K mg "InvalidFields" c.InvalidFields
  nf_InvalidFields : PySem.W.findIn K (.ref c.InvalidFields) "index" = some none
  in_InvalidFields : ∃ (fI : Addr) (fd : FuncData), PySem.W.findIn K (.ref c.InvalidFields) "__init__" = some (some (.ref fI)) ∧ PySem.W.typeIn K (.ref fI) = some (.type "function") ∧ Fun K "__init__" "InvalidFields.__init__" s_InvalidFields___init__ fI fd
  k_InvalidFields_InvalidCommand : PySem.W.kitOne K (.ref c.InvalidFields) (.ref c.InvalidCommand) = some false
  k_InvalidFields_InvalidNumber : PySem.W.kitOne K (.ref c.InvalidFields) (.ref c.InvalidNumber) = some false
  k_InvalidFields_InvalidLevel : PySem.W.kitOne K (.ref c.InvalidFields) (.ref c.InvalidLevel) = some false
  k_InvalidFields_InvalidSetting : PySem.W.kitOne K (.ref c.InvalidFields) (.ref c.InvalidSetting) = some false
  k_InvalidFields_InvalidText : PySem.W.kitOne K (.ref c.InvalidFields) (.ref c.InvalidText) = some false
  k_InvalidFields_LastheldError : PySem.W.kitOne K (.ref c.InvalidFields) (.ref c.LastheldError) = some true
  xc_InvalidSetting : XC K mg "InvalidSetting" c.InvalidSetting
  nf_InvalidSetting : PySem.W.findIn K (.ref c.InvalidSetting) "value" = some none
  in_InvalidSetting : ∃ (fI : Addr) (fd : FuncData), PySem.W.findIn K (.ref c.InvalidSetting) "__init__" = some (some (.ref fI)) ∧ PySem.W.typeIn K (.ref fI) = some (.type "function") ∧ Fun K "__init__" "InvalidSetting.__init__" s_InvalidSetting___init__ fI fd
  k_InvalidSetting_InvalidCommand : PySem.W.kitOne K (.ref c.InvalidSetting) (.ref c.InvalidCommand) = some false
  k_InvalidSetting_InvalidNumber : PySem.W.kitOne K (.ref c.InvalidSetting) (.ref c.InvalidNumber) = some false
  k_InvalidSetting_InvalidLevel : PySem.W.kitOne K (.ref c.InvalidSetting) (.ref c.InvalidLevel) = some false
  k_InvalidSetting_InvalidSetting : PySem.W.kitOne K (.ref c.InvalidSetting) (.ref c.InvalidSetting) = some true
  k_InvalidSetting_InvalidText : PySem.W.kitOne K (.ref c.InvalidSetting) (.ref c.InvalidText) = some false
  k_InvalidSetting_LastheldError : PySem.W.kitOne K (.ref c.InvalidSetting) (.ref c.LastheldError) = some true
  e_InvalidNumber_InvalidText : PySem.W.exmOne K (.ref c.InvalidNumber) (.ref c.InvalidText) = some false
  e_InvalidNumber_InvalidSetting : PySem.W.exmOne K (.ref c.InvalidNumber) (.ref c.InvalidSetting) = some false
  e_InvalidText_InvalidSetting : PySem.W.exmOne K (.ref c.InvalidText) (.ref c.InvalidSetting) = some false
  e_InvalidFields_InvalidText : PySem.W.exmOne K (.ref c.InvalidFields) (.ref c.InvalidText) = some false
  e_InvalidFields_InvalidSetting : PySem.W.exmOne K (.ref c.InvalidFields) (.ref c.InvalidSetting) = some false
  e_InvalidSetting_InvalidText : PySem.W.exmOne K (.ref c.InvalidSetting) (.ref c.InvalidText) = some false
  g_LETTERS : ∃ t, mg "LETTERS" = some (.str "abcdefghijklmnopqrstuvwxyz" t)
  g_MOST_LETTERS : ∃ t, mg "MOST_LETTERS" = some (.int 8 t)
  g_DIGITS : ∃ t, mg "DIGITS" = some (.str "0123456789" t)
  g_PARTS : ∃ t, mg "PARTS" = some (.int 5 t)
  g_MOST_LEVEL : ∃ t, mg "MOST_LEVEL" = some (.int 2 t)
  g_WORDS_OF_SETTING : ∃ t, mg "WORDS_OF_SETTING" = some (.int 5 t)
theorem ok_InvalidNumber___init__ {P : Program} {w : World} {K : PySem.W.Frag} {mg : Str → Option Value} {base : Heap} {c : Cls} (T : Txt K mg c) : XR P w K mg base "InvalidNumber" c.InvalidNumber "value" := by
  obtain ⟨fI, fd, h1, h2, F⟩ := T.in_InvalidNumber
  refine ⟨T.xc_InvalidNumber, fI, fd, ["self", "value"], h1, h2, F.ok sc_InvalidNumber___init__ (fun vs H Q E h => ?_) (fun cdv A outer s H vs Q E hr h => ⟨_, ?_, rd_init (z := "the value is not a number") T.xc_InvalidNumber.ox T.nf_InvalidNumber h⟩), F.binds fun _ _ _ _ _ _ us hl => match us, hl with | [_, _], _ => rfl⟩
  · obtain ⟨a, v, rfl, _⟩ := h
    rfl
  · have B_LastheldError := T.xb_LastheldError
    exact (pss_cons (ps_expr (pe_bi B_LastheldError (by rfl) (pa_cons (pv 0) (pa_cons pe_str pa_nil))))
    (pss_one (ps_ost (pv 0) (pv 1))))
theorem ok_InvalidText___init__ {P : Program} {w : World} {K : PySem.W.Frag} {mg : Str → Option Value} {base : Heap} {c : Cls} (T : Txt K mg c) : XR P w K mg base "InvalidText" c.InvalidText "line" := by
  obtain ⟨fI, fd, h1, h2, F⟩ := T.in_InvalidText
  refine ⟨T.xc_InvalidText, fI, fd, ["self", "line"], h1, h2, F.ok sc_InvalidText___init__ (fun vs H Q E h => ?_) (fun cdv A outer s H vs Q E hr h => ⟨_, ?_, rd_init (z := "the value is not a text that can be read") T.xc_InvalidText.ox T.nf_InvalidText h⟩), F.binds fun _ _ _ _ _ _ us hl => match us, hl with | [_, _], _ => rfl⟩
  · obtain ⟨a, v, rfl, _⟩ := h
    rfl
  · have B_LastheldError := T.xb_LastheldError
    exact (pss_cons (ps_expr (pe_bi B_LastheldError (by rfl) (pa_cons (pv 0) (pa_cons pe_str pa_nil))))
    (pss_one (ps_ost (pv 0) (pv 1))))
theorem ok_InvalidFields___init__ {P : Program} {w : World} {K : PySem.W.Frag} {mg : Str → Option Value} {base : Heap} {c : Cls} (T : Txt K mg c) : XR P w K mg base "InvalidFields" c.InvalidFields "index" := by
  obtain ⟨fI, fd, h1, h2, F⟩ := T.in_InvalidFields
  refine ⟨T.xc_InvalidFields, fI, fd, ["self", "index"], h1, h2, F.ok sc_InvalidFields___init__ (fun vs H Q E h => ?_) (fun cdv A outer s H vs Q E hr h => ⟨_, ?_, rd_init (z := "the value is not a list of fields") T.xc_InvalidFields.ox T.nf_InvalidFields h⟩), F.binds fun _ _ _ _ _ _ us hl => match us, hl with | [_, _], _ => rfl⟩
  · obtain ⟨a, v, rfl, _⟩ := h
    rfl
  · have B_LastheldError := T.xb_LastheldError
    exact (pss_cons (ps_expr (pe_bi B_LastheldError (by rfl) (pa_cons (pv 0) (pa_cons pe_str pa_nil))))
    (pss_one (ps_ost (pv 0) (pv 1))))
theorem ok_InvalidSetting___init__ {P : Program} {w : World} {K : PySem.W.Frag} {mg : Str → Option Value} {base : Heap} {c : Cls} (T : Txt K mg c) : XR P w K mg base "InvalidSetting" c.InvalidSetting "value" := by
  obtain ⟨fI, fd, h1, h2, F⟩ := T.in_InvalidSetting
  refine ⟨T.xc_InvalidSetting, fI, fd, ["self", "value"], h1, h2, F.ok sc_InvalidSetting___init__ (fun vs H Q E h => ?_) (fun cdv A outer s H vs Q E hr h => ⟨_, ?_, rd_init (z := "the value is not a setting") T.xc_InvalidSetting.ox T.nf_InvalidSetting h⟩), F.binds fun _ _ _ _ _ _ us hl => match us, hl with | [_, _], _ => rfl⟩
  · obtain ⟨a, v, rfl, _⟩ := h
    rfl
  · have B_LastheldError := T.xb_LastheldError
    exact (pss_cons (ps_expr (pe_bi B_LastheldError (by rfl) (pa_cons (pv 0) (pa_cons pe_str pa_nil))))
    (pss_one (ps_ost (pv 0) (pv 1))))
end K91
set_option Elab.async false
set_option linter.all false
set_option maxRecDepth 100000
set_option maxHeartbeats 1000000
namespace K91
open PySem PySem.Spec L2 LK
open PyProof.Rows hiding St
local macro_rules | `(tactic| walk_at "ext") => `(tactic| first | exact Ext.refl | assumption | (refine Ext.trans ?_ (by assumption); walk_at "ext"))
local macro_rules | `(tactic| walk_at "sm") => `(tactic| first | exact Same.refl _ | assumption | (refine Ext.off ?_ (Fr.mem (by assumption)); walk_at "ext"))
local macro_rules | `(tactic| walk_at "dm") => `(tactic| first | assumption | exact .int _ | exact .bl _ | exact .str _ | exact .non | (refine D.mono (by assumption) ?_; walk_at "sm"))
local macro_rules | `(tactic| walk_at "sd") => `(tactic| first | assumption | rfl | decide | omega | (show _ ≤ 1000; decide))
local macro_rules | `(tactic| walk_at "ea") => `(tactic| first | exact ea_nil | (refine ea_eq ?_ ?_; (walk_at "ev"); (walk_at "ea")))
local macro_rules | `(tactic| walk_at "et") => `(tactic| first
  | (refine et_valE ?_; walk_at "ev") | (refine et_testE ?_; walk_at "ev") | (refine et_notE ?_; walk_at "et")
  | (refine et_andE ?_ (fun _ => ?_); (walk_at "et"); (walk_at "et")) | (refine et_orE ?_ (fun _ => ?_); (walk_at "et"); (walk_at "et")))
local macro_rules | `(tactic| walk_at "ev") => `(tactic| first
  | exact ev_i | exact ev_s | exact ev_b | exact ev_n | exact ev_dnew
  | (refine ev_var rfl ?_; walk_at "dm")
  | (refine ev_tupE ?_ ?_; (walk_at "ea"); (walk_at "sd")) | (refine ev_lstE ?_ ?_; (walk_at "ea"); (walk_at "sd"))
  | (refine ev_negE ?_; walk_at "ev")
  | (refine ev_isiE ?_ ?_; (walk_at "ev"); (walk_at "sd"))
  | (refine ev_lenE ?_ ?_ ?_; (walk_at "ev"); (walk_at "sd"); (walk_at "sd"))
  | (refine ev_atL ?_ ?_ ?_; (walk_at "ev"); (walk_at "ev"); (walk_at "sd")) | (refine ev_atT ?_ ?_ ?_; (walk_at "ev"); (walk_at "ev"); (walk_at "sd"))
  | (refine ev_addE ?_ ?_; (walk_at "ev"); (walk_at "ev")) | (refine ev_cmpE ?_ ?_; (walk_at "ev"); (walk_at "ev")) | (refine ev_i0E ?_ ?_; (walk_at "ev"); (walk_at "ev"))
  | (refine ev_mulE ?_ ?_ ?_; (walk_at "ev"); (walk_at "ev"); (walk_at "sd"))
  | (refine ev_eqIE ?_ ?_; (walk_at "ev"); (walk_at "ev")) | (refine ev_neIE ?_ ?_; (walk_at "ev"); (walk_at "ev"))
  | (refine ev_andE ?_ (fun _ => ?_); (walk_at "ev"); (walk_at "ev")) | (refine ev_orE ?_ (fun _ => ?_); (walk_at "ev"); (walk_at "ev")) | (refine ev_notE ?_; walk_at "ev")
  | (refine ev_fn ?_ ?_; (walk_at "ea"); (walk_at "sd")))
local macro_rules | `(tactic| walk_at "lit") => `(tactic| first | exact ev_i | exact ev_s | exact ev_b | exact ev_n | exact ev_dnew | (refine ev_negE ?_; walk_at "lit") | (refine ev_tupE ?_ (by decide); walk_at "lits") | (refine ev_lstE ?_ (by decide); walk_at "lits") | (refine ev_powE ?_ ?_ ⟨by decide, by decide, by decide⟩ <;> walk_at "lit"))
local macro_rules | `(tactic| walk_at "lits") => `(tactic| first | exact ea_nil | (refine ea_eq ?_ ?_; (walk_at "lit"); (walk_at "lits")))
section
open TL (tl numL)
open NumText (digitsVal AllDigits)
variable {P : Program} {w : World} {K : PySem.W.Frag} {mg : Str → Option Value} {c : Cls} {base : Heap} {a : Addr} {G : Hp} {S : List Addr} {H : Hp}
theorem ok_is_integer {f : Addr} {fd : FuncData} (F : Fun K "is_integer" "is_integer" s_is_integer f fd) (T : Txt K mg c) : FnG P w K mg base CX0 1 f fd ["value"] (spG K pre1 (post1 fun d => .bool (isIntD d))) := by
  refine fun_okG F sc_is_integer (fun vs H Q E h => spG_len (fun _ => pre1_len) h) (fun cdv A outer s H vs Q E hg hr h => ?_)
  obtain ⟨a, S, ds, f, m, ⟨d, rfl⟩, k⟩ := h
  obtain ⟨v, rfl, mv⟩ := DA.one m
  refine ⟨_, (pss_one (ps_ret (pe_and (pe_callB (kIsi (K := K)) (by rfl) T.b_isinstance (by decide +kernel) (pa_cons (pv 0) (pa_cons (pe_bltn (v := .ty "int") (by rfl) T.b_int (by decide +kernel) rfl) pa_nil))) (pe_one (pe_not (pe_callB (kIsi (K := K)) (by rfl) T.b_isinstance (by decide +kernel) (pa_cons (pv 0) (pa_cons (pe_bltn (v := .ty "bool") (by rfl) T.b_bool (by decide +kernel) rfl) pa_nil)))))))), ?_⟩
  refine q_ret (ev_isInteger (d := d) (ev_var rfl mv)) f (Same.refl _) ?_
  rintro v2 _ H' x m2 rfl
  exact k _ _ H' x m2 ⟨d, rfl, rfl⟩
theorem ok_common_divisor {f : Addr} {fd : FuncData} (F : Fun K "common_divisor" "common_divisor" s_common_divisor f fd) (T : Txt K mg c) : FnG P w K mg base CX0 1 f fd ["one", "other"] (spG K (preI fun _ _ => True) (postI gcdP)) := by
  refine fun_okG F sc_common_divisor (fun vs H Q E h => spG_len (fun _ => preI_len) h) (fun cdv A outer s H vs Q E hg hr h => ?_)
  obtain ⟨a, S, ds, f, m, ⟨x, y, rfl, _⟩, k⟩ := h
  obtain ⟨v1, v2, rfl, m1, m2⟩ := DA.two m
  cases m1
  cases m2
  refine ⟨_, (pss_cons (ps_par (i := 2) (j := 3) (by rfl) sc_common_divisor.nd rfl rfl (by decide) rfl rfl (pa_cons (pe_callB call_abs (by rfl) T.b_abs (by decide +kernel) (pa_cons (pv 0) pa_nil)) (pa_cons (pe_callB call_abs (by rfl) T.b_abs (by decide +kernel) (pa_cons (pv 1) pa_nil)) pa_nil)) (by rfl))
    (pss_cons (ps_while PassesOwn.never (pt_cmpR (kNe (K := K) hr.units) (pv 3) pe_int (nomark _))
    (pss_one (ps_par (i := 2) (j := 3) (by rfl) sc_common_divisor.nd rfl rfl (by decide) rfl rfl (pa_cons (pv 3) (pa_cons (pe_op op_mod (pv 2) (pv 3)) pa_nil)) (by rfl))))
    (pss_one (ps_ret (pv 2))))), ?_⟩
  refine q_par (K := K) (σ := [some (.int x), some (.int y), none, none]) (ev_abs (ev_var rfl (.int x))) (ev_abs (ev_var rfl (.int y))) f (Same.refl _) ?_
  rintro v w _ _ H1 x1 f1 mv mw rfl rfl
  cases mv
  cases mw
  refine rd_gcd (σ := fun f s => [some (.int x), some (.int y), some (.int f), some (.int s)]) (fun _ _ => rfl) (fun _ _ => rfl) (fun _ _ _ _ => rfl) (Int.natCast_nonneg _) ?_
  intro g e h0
  have h0' := h0 (Int.natCast_nonneg _)
  have e2 : g = (Int.gcd x y : Nat) := by
    have e3 : Int.gcd (x.natAbs : Int) (y.natAbs : Int) = Int.gcd x y := by simp [Int.gcd_eq_natAbs_gcd_natAbs]
    rw [e3] at e
    omega
  subst e2
  exact ⟨_, rfl, k _ _ H1 x1 (.int _) ⟨x, y, rfl, rfl⟩⟩
theorem ok_is_number {f : Addr} {fd : FuncData} (F : Fun K "is_number" "is_number" s_is_number f fd) (T : Txt K mg c) (F_is_integer : FIs P w K mg base) (F_common_divisor : FCd P w K mg base) :
    FnG P w K mg base CX0 2 f fd ["value"] (spG K (fun ds => ∃ d, ds = [d] ∧ Tame d) (post1 fun d => .bool (isRatD d))) := by
  refine fun_okG F sc_is_number (fun vs H Q E h => spG_len (n := 1) (fun ds ⟨d, e, _⟩ => by rw [e]; rfl) h) (fun cdv A outer s H vs Q E hg hr h => ?_)
  obtain ⟨a, S, ds, f, m, ⟨d, rfl, tm⟩, k⟩ := h
  obtain ⟨v, rfl, mv⟩ := DA.one m
  refine ⟨_, (pss_cons (ps_if (pt_val (pe_fn F_is_integer hg (hr.mono (by decide)) (by rfl) pass0 (pa_cons (pv 0) pa_nil)))
    (pss_one (ps_ret pe_bl))
    pss_nil)
    (pss_cons (ps_if (PW.pt (pw_or (pt_not (pt_val (pe_callB (kIsi (K := K)) (by rfl) T.b_isinstance (by decide +kernel) (pa_cons (pv 0) (pa_cons (pe_bltn (v := .ty "tuple") (by rfl) T.b_tuple (by decide +kernel) rfl) pa_nil))))) (pw_or (pt_cmpR (kNe (K := K) hr.units) (pe_callB (kLen (K := K)) (by rfl) T.b_len (by decide +kernel) (pa_cons (pv 0) pa_nil)) pe_int (nomark _)) (pw_or (pt_not (pt_val (pe_fn F_is_integer hg (hr.mono (by decide)) (by rfl) pass0 (pa_cons (pe_ix (kIx (K := K)) (pv 0) pe_int (fun _ _ => rfl)) pa_nil)))) (pw_or1 (pt_not (pt_val (pe_fn F_is_integer hg (hr.mono (by decide)) (by rfl) pass0 (pa_cons (pe_ix (kIx (K := K)) (pv 0) pe_int (fun _ _ => rfl)) pa_nil)))))))))
    (pss_one (ps_ret pe_bl))
    pss_nil)
    (pss_one (ps_ret (pe_and (pe_cmpR op_ge (pe_ix (kIx (K := K)) (pv 0) pe_int (fun _ _ => rfl)) pe_int (nomark _)) (pe_one (pe_cmpR (kEq (K := K) hr.units) (pe_fn F_common_divisor hg (hr.mono (by decide)) (by rfl) pass0 (pa_cons (pe_ix (kIx (K := K)) (pv 0) pe_int (fun _ _ => rfl)) (pa_cons (pe_ix (kIx (K := K)) (pv 0) pe_int (fun _ _ => rfl)) pa_nil))) pe_int (nomark _)))))))), ?_⟩
  have fin : ∀ {b : Bool} {H' : Hp}, Ext a H H' → b = isRatD d → Q (.bl b) H' := fun {b H'} x e => by
    subst e
    exact k _ _ H' x (.bl _) ⟨d, rfl, rfl⟩
  refine q_if (σ := [some v]) (B := (· = isIntD d)) (et_val (Ev.imp (ev_call1 (ev_var rfl mv)) ?_)) f (Same.refl _) (fun H1 x1 f1 e1 => ?_) (fun H1 x1 f1 e1 => ?_)
  · rintro _ rfl
    exact ⟨_, rfl, rfl⟩
  · refine fin x1 ?_
    cases d <;> first | rfl | cases e1
  have mv1 := mv.mono (x1.off f.mem)
  by_cases ht : ∃ es, d = .tuple es
  · obtain ⟨es, rfl⟩ := ht
    have hlen : es.length ≤ 8000 := by
      have h1 := tm.bk
      simp only [PyData.bulk] at h1
      have h2 : ∀ l : List PyData, l.length ≤ PyData.bulkAll l := by
        intro l
        induction l with
        | nil => simp
        | cons z l ih =>
          simp only [PyData.bulkAll, List.length_cons]
          omega
      exact Nat.le_trans (h2 es) h1
    by_cases hl : es.length = 2
    · match es, hl with
      | [x, y], hl2 =>
        have e0 : ∀ σ : L2.St, σ[0]? = some (some v) → Ev K a (off S H1) (tVar 0) σ (· = .tuple [x, y]) := fun σ h => ev_var h mv1
        have ex : Ev K a (off S H1) (tOp (rIx K) (tVar 0) (tC (.int 0))) [some v] (· = x) := ev_at (i := 0) (ds := [x, y]) ((e0 _ rfl).imp fun _ h => .inr h) ev_i rfl
        have ey : Ev K a (off S H1) (tOp (rIx K) (tVar 0) (tC (.int 1))) [some v] (· = y) := ev_at (i := 1) (ds := [x, y]) ((e0 _ rfl).imp fun _ h => .inr h) ev_i rfl
        refine q_if (σ := [some v]) (B := (· = !(isIntD x && isIntD y))) (et_or (B1 := (· = false)) (et_not (B1 := (· = true)) (et_val (ev_isi (e0 _ rfl) ?_)) ?_) (fun _ => et_or (B1 := (· = false)) (et_test (ev_neI (cI := (· = 2)) (cJ := (· = 2)) (ev_len (e0 _ rfl) ?_) (ev_isI ev_i rfl) ?_)) (fun _ =>
          et_or (B1 := (· = !isIntD x)) (et_not (B1 := (· = isIntD x)) (et_val (Ev.imp (ev_call1 ex) ?_)) ?_) (fun hx => et_not (B1 := (· = isIntD y)) (et_val (Ev.imp (ev_call1 ey) ?_)) ?_) ?_) ?_) ?_) f1 (Same.refl _) (fun H2 x2 f2 e2 => ?_) (fun H2 x2 f2 e2 => ?_)
        · rintro _ rfl
          exact ⟨_, kit_tup _, rfl⟩
        · rintro _ rfl
          rfl
        · rintro _ rfl
          exact ⟨2, rfl, by decide, rfl⟩
        · rintro _ _ rfl rfl
          rfl
        · rintro _ rfl
          exact ⟨_, rfl, rfl⟩
        · rintro _ rfl
          rfl
        · rintro _ rfl
          exact ⟨_, rfl, rfl⟩
        · rintro _ rfl
          have hx' : isIntD x = true := by
            cases h : isIntD x
            · rw [h] at hx
              cases hx
            · rfl
          rw [hx', Bool.true_and]
        · intro hx
          have hx' : isIntD x = false := by
            cases h : isIntD x
            · rfl
            · rw [h] at hx
              cases hx
          rw [hx']
          rfl
        · intro h
          cases h
        · intro h
          cases h
        · refine fin (x1.trans x2) ?_
          refine (isRat_tup fun h => ?_).symm
          rw [h] at e2
          cases e2
        · have hxy : (isIntD x && isIntD y) = true := by
            cases h : (isIntD x && isIntD y)
            · rw [h] at e2
              cases e2
            · rfl
          rw [Bool.and_eq_true] at hxy
          obtain ⟨hx, hy⟩ := hxy
          cases x <;> first | cases hx | skip
          cases y <;> first | cases hy | skip
          rename_i x y
          have ex2 := ex.at (x2.off f1.mem)
          have ey2 := ey.at (x2.off f1.mem)
          refine q_ret (K := K) (σ := [some v]) (C := (· = .bool (isRatD (.tuple [.int x, .int y])))) (ev_andV (B := (· = decide (2 ≤ y))) (ev_cmpI (g := fun i j => decide (j ≤ i)) (cI := (· = y)) (cJ := (· = 2)) (ev_isI ey2 rfl) (ev_isI ev_i rfl) ?_)
            (fun h => Ev.imp (ev_eqI (cB := (· = decide (Int.gcd x y = 1))) (cI := (· = (Int.gcd x y : Nat))) (cJ := (· = 1)) (Ev.imp (ev_callI (g := gcdP) ex2 ey2 True.intro) ?_) (ev_isI ev_i rfl) ?_) ?_) ?_) f2 (Same.refl _) ?_
          · rintro _ _ rfl rfl
            rfl
          · rintro _ rfl
            exact ⟨_, rfl, rfl⟩
          · rintro _ _ rfl rfl
            show decide ((Int.gcd x y : Int) = 1) = _
            congr 1
            apply propext
            omega
          · rintro _ ⟨b, rfl, rfl⟩
            show PyData.bool _ = PyData.bool (decide (2 ≤ y) && decide (Int.gcd x y = 1))
            rw [← h, Bool.true_and]
          · intro h
            show PyData.bool _ = PyData.bool (decide (2 ≤ y) && decide (Int.gcd x y = 1))
            rw [← h, Bool.false_and]
          · rintro v2 _ H3 x3 m3 rfl
            cases m3
            exact fin ((x1.trans x2).trans x3) rfl
    · refine q_if (σ := [some v]) (B := (· = true)) (et_or (B1 := (· = false)) (et_not (B1 := (· = true)) (et_val (ev_isi (ev_var rfl mv1) ?_)) ?_) (fun _ => et_or (B1 := (· = true)) (et_test (ev_neI (cI := (· = (es.length : Nat))) (cJ := (· = 2)) (ev_len (ev_var rfl mv1) ?_) (ev_isI ev_i rfl) ?_)) ?_ ?_) ?_) f1 (Same.refl _) (fun H2 x2 f2 e2 => ?_) (fun H2 x2 f2 e2 => ?_)
      · rintro _ rfl
        exact ⟨_, kit_tup _, rfl⟩
      · rintro _ rfl
        rfl
      · rintro _ rfl
        exact ⟨es.length, rfl, by omega, rfl⟩
      · rintro _ _ rfl rfl
        have : ¬ ((es.length : Int) = 2) := by omega
        rw [decide_eq_false this]
        rfl
      · intro h
        cases h
      · intro _
        rfl
      · intro h
        cases h
      · exact fin (x1.trans x2) (isRat_len hl).symm
      · cases e2
  · have hn : tupD d = false := by
      cases d <;> first | rfl | exact absurd ⟨_, rfl⟩ ht
    refine q_if (σ := [some v]) (B := (· = true)) (et_or (B1 := (· = true)) (et_not (B1 := (· = false)) (et_val (ev_isi (ev_var rfl mv1) ?_)) ?_) ?_ fun _ => rfl) f1 (Same.refl _) (fun H2 x2 f2 e2 => ?_) (fun H2 x2 f2 e2 => ?_)
    · rintro _ rfl
      exact ⟨_, kit_tup _, hn⟩
    · rintro _ rfl
      rfl
    · intro h
      cases h
    · refine fin (x1.trans x2) ?_
      cases d <;> first | rfl | (exact absurd ⟨_, rfl⟩ ht) | cases e1
    · cases e2
theorem ok_is_name {f : Addr} {fd : FuncData} (F : Fun K "is_name" "is_name" s_is_name f fd) (T : Txt K mg c) : FnG P w K mg base CX0 1 f fd ["value"] (spG K preT (post1 fun d => .bool (isNameD d))) := by
  refine fun_okG F sc_is_name (fun vs H Q E h => spG_len (n := 1) (fun ds ⟨d, e, _⟩ => by rw [e]; rfl) h) (fun cdv A outer s H vs Q E hg hr h => ?_)
  obtain ⟨a, S, ds, f, m, ⟨d, rfl, tm⟩, k⟩ := h
  obtain ⟨v, rfl, mv⟩ := DA.one m
  refine ⟨_, (pss_cons (ps_if (PW.pt (pw_or (pt_not (pt_val (pe_callB (kIsi (K := K)) (by rfl) T.b_isinstance (by decide +kernel) (pa_cons (pv 0) (pa_cons (pe_bltn (v := .ty "str") (by rfl) T.b_str (by decide +kernel) rfl) pa_nil))))) (pw_or1 (pt_not (pt_chain op_le op_le pe_int (pe_callB (kLen (K := K)) (by rfl) T.b_len (by decide +kernel) (pa_cons (pv 0) pa_nil)) (pe_gI rfl T.g_MOST_LETTERS))))))
    (pss_one (ps_ret pe_bl))
    pss_nil)
    (pss_one (ps_ret (pe_callB (kAll (K := K) rfl) (by rfl) T.b_all (by decide +kernel) (pa_cons (pe_lc (own := [("letter", 1)]) rfl sc_is_name.nd (pi_str (pv 0)) (blkOk_by (N := ["value", "letter"]) (sc := defScope s_is_name) (by decide +kernel)) (fun _ _ _ _ _ => (pg_name (i := 1) sc_is_name.nd rfl (by first | exact Or.inl rfl | exact Or.inr rfl))) (fun _ _ _ _ _ => pts_nil) (fun _ _ _ _ _ => (pe_cmpR (kIn (K := K)) (pv 1) (pe_gS rfl T.g_LETTERS) (by rfl)))) pa_nil))))), ?_⟩
  exact rd_is_name f mv tm fun H' x => k _ _ H' x (.bl _) ⟨d, rfl, rfl⟩
theorem ok_is_level {f : Addr} {fd : FuncData} (F : Fun K "is_level" "is_level" s_is_level f fd) (T : Txt K mg c) (F_is_integer : FIs P w K mg base) : FnG P w K mg base CX0 2 f fd ["value"] (spG K pre1 (post1 fun d => .bool (isLevelD d))) := by
  refine fun_okG F sc_is_level (fun vs H Q E h => spG_len (fun _ => pre1_len) h) (fun cdv A outer s H vs Q E hg hr h => ?_)
  obtain ⟨a, S, ds, f, m, ⟨d, rfl⟩, k⟩ := h
  obtain ⟨v, rfl, mv⟩ := DA.one m
  refine ⟨_, (pss_one (ps_ret (pe_and (pe_fn F_is_integer hg (hr.mono (by decide)) (by rfl) pass0 (pa_cons (pv 0) pa_nil)) (pe_one (pe_chain op_le op_le pe_int (pv 0) (pe_gI rfl T.g_MOST_LEVEL)))))), ?_⟩
  refine q_retE (K := K) (σ := [some v]) (d := .bool (isLevelD d)) ?_ f (Same.refl _) fun v2 H' x m2 => k _ _ H' x m2 ⟨d, rfl, rfl⟩
  by_cases hi : ∃ i, d = .int i
  · obtain ⟨i, rfl⟩ := hi
    exact ev_andE (b := true) (ev_call1 (ev_var rfl mv)) fun _ => ev_chainE ev_i (ev_var rfl mv) ev_i
  · have e : isIntD d = false := by cases d <;> first | rfl | exact absurd ⟨_, rfl⟩ hi
    have e2 : isLevelD d = false := by cases d <;> first | rfl | exact absurd ⟨_, rfl⟩ hi
    rw [e2]
    exact ev_andE (b := false) (c := false) ((ev_call1 (ev_var rfl mv)).imp fun _ z => by rw [z, e]) fun h => nomatch h
theorem ok_Sheet_has_field {f : Addr} {fd : FuncData} (F : Fun K "has_field" "Sheet.has_field" s_Sheet_has_field f fd) (T : Txt K mg c) : FnG P w K mg base CX0 1 f fd ["self", "value"] (spM K c.Sheet (fun _ ds => pre1 ds) fun ns => post1 fun d => .bool (hasD ns d)) := by
  refine fun_okG F sc_Sheet_has_field (fun vs H Q E h => spM_len (n := 1) (fun _ _ => pre1_len) h) (fun cdv A outer s H vs Q E hg hr h => ?_)
  obtain ⟨a, S, p, ns, ws, ds, rfl, f, sh, m, ⟨d, rfl⟩, k⟩ := h
  obtain ⟨v, rfl, mv⟩ := DA.one m
  refine ⟨_, (pss_one (ps_ret (pe_and (pe_callB (kIsi (K := K)) (by rfl) T.b_isinstance (by decide +kernel) (pa_cons (pv 1) (pa_cons (pe_bltn (v := .ty "str") (by rfl) T.b_str (by decide +kernel) rfl) pa_nil))) (pe_one (pe_cmp (pc_din (lt1 hr.units) (pv 1) (pe_fldK (K := K) rfl (pv 0)))))))), ?_⟩
  refine q_retE (K := K) (σ := [some (.ref p), some v]) (d := .bool (hasD ns d)) ?_ f (Same.refl _) fun v2 H' x m2 => k _ _ H' x m2 ⟨d, rfl, rfl⟩
  by_cases hi : ∃ x, d = .str x
  · obtain ⟨x, rfl⟩ := hi
    exact ev_andE (b := true) (ev_isStrE (ev_var rfl mv)) fun _ => ev_inP (ev_var rfl mv) rfl T.cl_Sheet.cl T.na_Sheet_own_places sh
  · have e : isStrD d = false := by cases d <;> first | rfl | exact absurd ⟨_, rfl⟩ hi
    have e2 : hasD ns d = false := by cases d <;> first | rfl | exact absurd ⟨_, rfl⟩ hi
    rw [e2]
    exact ev_andE (b := false) (c := false) ((ev_isStrE (ev_var rfl mv)).imp fun _ z => by rw [z, e]) fun h => nomatch h
theorem ok_check_fields {f : Addr} {fd : FuncData} (F : Fun K "check_fields" "check_fields" s_check_fields f fd) (T : Txt K mg c) (F_is_name : FNm P w K mg base) (R_InvalidFields : XR P w K mg base "InvalidFields" c.InvalidFields "index") :
    FnG P w K mg base CX0 3 f fd ["fields"] (spG K preFl fun _ r => r = .none) := by
  refine fun_okG F sc_check_fields (fun vs H Q E h => spG_len (n := 1) (fun ds ⟨ns, e, _⟩ => by rw [e]; rfl) h) (fun cdv A outer s H vs Q E hg hr h => ?_)
  obtain ⟨a, S, ds, f, m, ⟨ns, rfl, ok⟩, k⟩ := h
  obtain ⟨v, rfl, mv⟩ := DA.one m
  refine ⟨_, (pss_cons (ps_if (PW.pt (pw_or (pt_not (pt_val (pe_callB (kIsiT (K := K)) (by rfl) T.b_isinstance (by decide +kernel) (pa_cons (pv 0) (pa_cons (pe_tup (pa_cons (pe_bltn (v := .ty "list") (by rfl) T.b_list (by decide +kernel) rfl) (pa_cons (pe_bltn (v := .ty "tuple") (by rfl) T.b_tuple (by decide +kernel) rfl) pa_nil))) pa_nil))))) (pw_or1 (pt_not (pt_chain op_le op_le pe_int (pe_callB (kLen (K := K)) (by rfl) T.b_len (by decide +kernel) (pa_cons (pv 0) pa_nil)) (pe_cvalK (K := K) rfl (pe_glob (v := .ref c.Sheet) (by rfl) T.g_Sheet rfl)))))))
    (pss_one (ps_rse (by rfl) takes0 R_InvalidFields (hr.mono (by decide)) (by rfl) (pe_un un_neg pe_int)))
    pss_nil)
    (pss_one (ps_for PassesOwn.never rfl (pi_enumK (K := K) rfl (by rfl) T.b_enumerate (pa_cons (pv 0) pa_nil)) (pg_tupK (K := K) (n := 2) (by rfl) (by rfl) (pgs_cons (pg_name (i := 1) sc_check_fields.nd rfl (by first | exact Or.inl rfl | exact Or.inr rfl)) (pgs_cons (pg_name (i := 2) sc_check_fields.nd rfl (by first | exact Or.inl rfl | exact Or.inr rfl)) pgs_nil)))
    (pss_one (ps_if (PW.pt (pw_or (pt_not (pt_val (pe_fn F_is_name hg (hr.mono (by decide)) (by rfl) pass0 (pa_cons (pv 2) pa_nil)))) (pw_or1 (pt_cmpR (kIn (K := K)) (pv 2) (pe_slice (kSlL (K := K)) (pv 0) po_none (po_some (pv 1))) (by rfl)))))
    (pss_one (ps_rse (by rfl) takes0 R_InvalidFields (hr.mono (by decide)) (by rfl) (pv 1)))
    pss_nil))))), ?_⟩
  have hn := ok.most
  have h1 := ok.pos
  have e0 : Ev K a (off S H) (tVar 0) [some v, none, none] (· = .list (ns.map .str)) := ev_var rfl mv
  refine q_ifE (b := (!true) || !(decide ((1 : Int) ≤ (ns.length : Nat)) && decide (((ns.length : Nat) : Int) ≤ 12))) (et_orE (et_notE (et_valE (K := K) (ev_isiT (ts := ["list", "tuple"]) (bs := [true, false]) e0 (by show [kitB "list" "list", kitB "list" "tuple"] = _; decide +kernel)))) (fun _ => et_notE (et_chainE (K := K) ev_i (ev_lenE e0 (by simp [lenD]) (by omega)) (ev_cval T.cr_Sheet T.cv_Sheet_MAX_FIELDS (.int _))))) f (Same.refl _) (fun H1 x1 f1 e1 => ?_) (fun H1 x1 f1 _ => ?_)
  · rw [decide_eq_true (by omega), decide_eq_true (by omega)] at e1
    cases e1
  refine q_forW (K := K) (σ := [some v, none, none]) (walks_enum (e0.at (x1.off f.mem))) f1 (Same.refl _) S fun H2 x2 f2 => ⟨fun i σ' H' => ∃ y z, σ' = [some v, y, z] ∧ Ext a H2 H' ∧ Fr a S H', ⟨_, _, rfl, Ext.refl, f2⟩, ?_, ?_, ?_⟩
  · rintro i σ' H' ⟨y, z, _, x', f'⟩
    exact ⟨f', x'.off f.mem⟩
  · rintro i x d σ' H' H'' hi ⟨y, z, rfl, x', f'⟩ x'' _ md ⟨e, he, rfl⟩
    rw [List.length_map] at hi
    have f'' := f'.ext x''
    have en : ns[i]? = some ns[i] := List.getElem?_eq_getElem hi
    have ee : e = .str ns[i] := by
      rw [List.getElem?_map, en] at he
      injection he with he
      exact he.symm
    subst ee
    cases md with
    | @tup TT ys _ ht my =>
      obtain ⟨v1, v2, rfl, m1, m2⟩ := DA.two my
      cases m1
      cases m2
      refine ⟨TT, _, rfl, sqT_same off_le ht, rfl, _, _, rfl, _, _, rfl, rfl, ?_⟩
      have nm : isNameD (.str ns[i]) = true := ok.ok _ (List.getElem_mem hi)
      have e1 := e0.at (((x1.trans x2).trans (x'.trans x'')).off f.mem)
      have e2 : Ev K a (off S H'') (tVar 0) [some v, some (.int (i : Nat)), some (.str ns[i])] (· = .list (ns.map .str)) := ev_var rfl (mv.mono (((x1.trans x2).trans (x'.trans x'')).off f.mem))
      refine q_ifE (b := (!true) || decide (ns[i] ∈ ns.take i)) (et_orE (et_notE (et_valE (K := K) ((ev_callT (ev_var rfl (.str _)) ((name_sz nm).tame)).imp fun _ z => by rw [z, nm]))) (fun _ => et_testE (ev_inS (ev_var rfl (.str _)) ((ev_slLD e2 eo_no (eo_at (K := K) (ev_var rfl (.int (i : Nat))))).imp fun _ z => by
        rw [z, cutD_take _ (by rw [List.length_map]; omega), List.map_take])))) f'' (Same.refl _) (fun H3 x3 f3 e => ?_) (fun H3 x3 f3 _ => ?_)
      · have : ns[i] ∉ ns.take i := fun m => by
          obtain ⟨k, hk, e⟩ := List.getElem_of_mem m
          rw [List.getElem_take] at e
          rw [List.length_take] at hk
          have := (List.getElem_inj (h₀ := by omega) (h₁ := hi) ok.nd).mp e
          omega
        rw [decide_eq_false this] at e
        cases e
      · exact ⟨_, _, rfl, (x'.trans x'').trans x3, f3⟩
  · rintro σ' H' ⟨y, z, rfl, x', f'⟩
    exact k _ _ H' ((x1.trans x2).trans x') .non rfl
theorem ok_Sheet___init__ {f : Addr} {fd : FuncData} (F : Fun K "__init__" "Sheet.__init__" s_Sheet___init__ f fd) (T : Txt K mg c) (F_check_fields : FCf P w K mg base) : FnG P w K mg base CX0 4 f fd ["self", "fields"] (spInit K c.Sheet) := by
  refine fun_okG F sc_Sheet___init__ (fun vs H Q E h => ?_) (fun cdv A outer s H vs Q E hg hr h => ?_)
  · obtain ⟨a, S, H0, x, dx, v, ns, rfl, _⟩ := h
    rfl
  obtain ⟨a, S, H0, x, dx, v, ns, rfl, eH, nx, nd, ne, f0, m, ok, k⟩ := h
  refine ⟨_, (pss_cons (ps_expr (pe_fn F_check_fields hg (hr.mono (by decide)) (by rfl) pass0 (pa_cons (pv 1) pa_nil)))
    (pss_cons (ps_fldK (K := K) rfl (pv 0) (pe_callTy (kToL (K := K)) (by rfl) T.b_list (by decide +kernel) (pa_cons (pv 1) pa_nil)))
    (pss_one (ps_fldK (K := K) rfl (pv 0) (pe_dc (own := [("place", 2), ("field", 3)]) rfl sc_Sheet___init__.nd (pi_enumK (K := K) rfl (by rfl) T.b_enumerate (pa_cons (pv 1) pa_nil)) (blkOk_by (N := ["self", "fields", "place", "field"]) (sc := defScope s_Sheet___init__) (by decide +kernel)) (fun _ _ _ _ _ => (pg_tupK (K := K) (n := 2) (by rfl) (by rfl) (pgs_cons (pg_name (i := 2) sc_Sheet___init__.nd rfl (by first | exact Or.inl rfl | exact Or.inr rfl)) (pgs_cons (pg_name (i := 3) sc_Sheet___init__.nd rfl (by first | exact Or.inl rfl | exact Or.inr rfl)) pgs_nil)))) (fun _ _ _ _ _ => pts_nil) (fun _ _ _ _ _ => (pv 3)) (fun _ _ _ _ _ => (pv 2))))))), ?_⟩
  have hxa : x ≠ a := f0.ne nx
  have hxS : x ∉ S := f0.out nx
  have x1 : Ext a H0 H := by
    rw [eH]
    exact (Ext.new nd).trans (Ext.new (by rw [upd_ne ne.symm]; exact nx))
  have hx1 : H x = some (.ins c.Sheet dx []) := by rw [eH, upd_same]
  clear eH
  have f1 := f0.ext x1
  refine q_drop (K := K) (σ := [some (.ref x), some v, none, none]) (C := (· = .none)) (ev_callE (ea_eq (ev_var rfl (m.mono (x1.off f0.mem))) ea_nil) ⟨ns, rfl, ok⟩ fun _ z => z) f1 (Same.refl _) fun H2 x2 f2 => ?_
  have hx2 := x2.keep _ _ hxa hx1
  refine ev_toLL (K := K) (a := a) (G := off S H2) (σ := [some (.ref x), some v, none, none]) (ds := ns.map .str) (ev_var rfl (m.mono ((x1.trans x2).off f0.mem))) S H2 f2 (Same.refl _) _ fun y d H3 x3 m3 e => ?_
  subst e
  cases m3 with
  | @lst pl vs _ hpl mv =>
  obtain rfl := mv.strV
  have hx3 := x3.keep _ _ hxa hx2
  refine ⟨.ref x, rfl, x, c.Sheet, dx, [], rfl, hx3, T.cl_Sheet.cl, T.na_Sheet_own_fields, by decide, ?_⟩
  have x03 := (x1.trans x2).trans x3
  have x4 : Ext a H0 (upd H3 x (.ins c.Sheet dx (putF "own_fields" (.ref pl) []))) := x03.store nx hxa
  have f4 : LK.Fr a S (upd H3 x (.ins c.Sheet dx (putF "own_fields" (.ref pl) []))) := (f2.ext x3).upd hxa
  have hx4 : upd H3 x (.ins c.Sheet dx (putF "own_fields" (.ref pl) [])) x = some (.ins c.Sheet dx [("own_fields", .ref pl)]) := upd_same
  have plS := (off_some hpl).1
  have hpl3 := (off_some hpl).2
  have plx : pl ≠ x := fun e => by
    rw [e, hx3] at hpl3
    cases hpl3
  have pla : pl ≠ a := fun e => plS (e ▸ f0.mem)
  have hpl4 : upd H3 x (.ins c.Sheet dx (putF "own_fields" (.ref pl) [])) pl = some (.lst (ns.map V.str)) := by
    rw [upd_ne plx]
    exact hpl3
  generalize upd H3 x (.ins c.Sheet dx (putF "own_fields" (.ref pl) [])) = H4 at x4 f4 hx4 hpl4
  dsimp only
  unfold sFld
  refine rd_places (ip := 2) (jf := 3) (vs := [2, 3]) (K := K) (a := a) (S := S) (G := off S H4) (σ := [some (.ref x), some v, none, none]) (ns := ns) (ev_var (i := 1) rfl (m.mono (x4.off f0.mem))) ok.nd (Nat.le_trans ok.most (by decide)) f4 (Same.refl _) (fun _ _ => ⟨rfl, rfl, rfl, rfl⟩) fun Dd H5 x5 f5 DS D4 hD => ?_
  have hx5 := x5.keep _ _ hxa hx4
  refine ⟨.ref x, rfl, x, c.Sheet, dx, _, rfl, hx5, T.cl_Sheet.cl, T.na_Sheet_own_places, (by show 1 < 1000; decide), ?_⟩
  have Dx : Dd ≠ x := fun e => by
    rw [e, hx4] at D4
    cases D4
  refine k _ ((x4.trans x5).store nx hxa) ⟨dx, pl, Dd, off_mk hxS upd_same, off_mk plS ?_, off_mk DS ?_⟩
  · rw [upd_ne plx]
    exact x5.keep _ _ pla hpl4
  · rw [upd_ne Dx]
    exact hD
theorem ok_is_setting {f : Addr} {fd : FuncData} (F : Fun K "is_setting" "is_setting" s_is_setting f fd) (T : Txt K mg c) (F_is_integer : FIs P w K mg base) (F_is_level : FLv P w K mg base) (F_is_name : FNm P w K mg base) (F_is_number : FIN P w K mg base) (M_Sheet_has_field : MHf P w K mg base c.Sheet) :
    FnG P w K mg base CX0 3 f fd ["sheet", "value"] (spM K c.Sheet (fun _ => preT) fun ns => post1 fun d => .bool (isSettingD ns d)) := by
  refine fun_okG F sc_is_setting (fun vs H Q E h => spM_len (n := 1) (fun _ ds ⟨d, e, _⟩ => by rw [e]; rfl) h) (fun cdv A outer s H vs Q E hg hr h => ?_)
  obtain ⟨a, S, p, ns, ws, ds, rfl, f, sh, m, ⟨d, rfl, tm⟩, k⟩ := h
  obtain ⟨v, rfl, mv⟩ := DA.one m
  refine ⟨_, (pss_cons (ps_if (PW.pt (pw_or (pt_not (pt_val (pe_callB (kIsi (K := K)) (by rfl) T.b_isinstance (by decide +kernel) (pa_cons (pv 1) (pa_cons (pe_bltn (v := .ty "tuple") (by rfl) T.b_tuple (by decide +kernel) rfl) pa_nil))))) (pw_or1 (pt_cmpR (kNe (K := K) hr.units) (pe_callB (kLen (K := K)) (by rfl) T.b_len (by decide +kernel) (pa_cons (pv 1) pa_nil)) (pe_gI rfl T.g_PARTS) (nomark _)))))
    (pss_one (ps_ret pe_bl))
    pss_nil)
    (pss_cons (ps_asg (pv 1) (pg_tupK (K := K) (n := 5) (by rfl) (by rfl) (pgs_cons (pg_name (i := 2) sc_is_setting.nd rfl (by first | exact Or.inl rfl | exact Or.inr rfl)) (pgs_cons (pg_name (i := 3) sc_is_setting.nd rfl (by first | exact Or.inl rfl | exact Or.inr rfl)) (pgs_cons (pg_name (i := 4) sc_is_setting.nd rfl (by first | exact Or.inl rfl | exact Or.inr rfl)) (pgs_cons (pg_name (i := 5) sc_is_setting.nd rfl (by first | exact Or.inl rfl | exact Or.inr rfl)) (pgs_cons (pg_name (i := 6) sc_is_setting.nd rfl (by first | exact Or.inl rfl | exact Or.inr rfl)) pgs_nil)))))))
    (pss_cons (ps_if (PW.pt (pw_or (pt_not (pt_val (pe_fn F_is_level hg (hr.mono (by decide)) (by rfl) pass0 (pa_cons (pv 2) pa_nil)))) (pw_or (pt_not (pt_val (pe_fn F_is_integer hg (hr.mono (by decide)) (by rfl) pass0 (pa_cons (pv 3) pa_nil)))) (pw_or1 (pt_cmpR op_lt (pv 3) pe_int (nomark _))))))
    (pss_one (ps_ret pe_bl))
    pss_nil)
    (pss_one (ps_ret (pe_and (pe_fn F_is_name hg (hr.mono (by decide)) (by rfl) pass0 (pa_cons (pv 4) pa_nil)) (pe_and (pe_methX (E := fun _ => E0) M_Sheet_has_field T.cl_Sheet.cl hg (hr.mono (by decide)) (fun _ _ _ _ _ _ _ h => h.elim) (pv 0) (pa_cons (pv 5) pa_nil)) (pe_one (pe_fn F_is_number hg (hr.mono (by decide)) (by rfl) pass0 (pa_cons (pv 6) pa_nil)))))))))), ?_⟩
  have fin : ∀ {b : Bool} {H' : Hp}, Ext a H H' → b = isSettingD ns d → Q (.bl b) H' := fun {b H'} x e => by
    subst e
    exact k _ _ H' x (.bl _) ⟨d, rfl, rfl⟩
  have e0 : Ev K a (off S H) (tVar 1) [some (.ref p), some v, none, none, none, none, none] (· = d) := ev_var rfl mv
  cases ht : tupD d with
  | false =>
    refine q_ifE (b := (!false) || false) (et_orE (et_notE (et_valE (K := K) ((ev_isTupE e0).imp fun _ z => by rw [z, ht]))) (fun h => nomatch h)) f (Same.refl _) (fun H1 x1 f1 _ => ?_) (fun H1 x1 f1 e1 => nomatch e1)
    exact fin x1 (isSetting_no ht).symm
  | true =>
  obtain ⟨es, rfl⟩ := tup_of ht
  have hlen := tm.tupLen
  refine q_ifE (b := (!true) || !decide ((es.length : Int) = 5)) (et_orE (et_notE (et_valE (K := K) (ev_isTupE e0))) (fun _ => et_testE (K := K) (ev_neIE (ev_lenE e0 rfl (by omega)) ev_i))) f (Same.refl _) (fun H1 x1 f1 e1 => ?_) (fun H1 x1 f1 e1 => ?_)
  · have hl : es.length ≠ 5 := fun e => by
      rw [decide_eq_true (by omega)] at e1
      cases e1
    exact fin x1 (isSetting_len hl).symm
  have hl : es.length = 5 := by
    by_cases h : (es.length : Int) = 5
    · omega
    · rw [decide_eq_false h] at e1
      cases e1
  match es, hl with
  | [l, t, r, g, n], _ =>
  have titem := tm.tupItem
  refine q_unpack5 (K := K) (σ := [some (.ref p), some v, none, none, none, none, none]) (e0.at (x1.off f.mem)) f1 (Same.refl _) ?_
  intro v1 v2 v3 v4 v5 H2 x2 f2 m1 m2 m3 m4 m5
  have x02 := x1.trans x2
  have step : ∀ c2 : Bool, (isIntD t = true → EvT a (off S H2) (tTest (tOp (rI0 fun i j => .bl (decide (i < j))) (tVar 3) (tC (.int 1)))) [some (.ref p), some v, some v1, some v2, some v3, some v4, some v5] (· = c2)) →
      (((!isLevelD l) || ((!isIntD t) || c2)) = false → isSettingD ns (.tuple [l, t, r, g, n]) = (isNameD r && (hasD ns g && isRatD n))) → (((!isLevelD l) || ((!isIntD t) || c2)) = true → isSettingD ns (.tuple [l, t, r, g, n]) = false) →
      tSeq (tIfS (tOr (tNot (tB (tCall (spG K pre1 (post1 fun d => .bool (isLevelD d))) [] E0 (tCons (tVar 2) tNil)))) (tOr (tNot (tB (tCall (spG K pre1 (post1 fun d => .bool (isIntD d))) [] E0 (tCons (tVar 3) tNil)))) (tTest (tOp (rI0 fun i j => .bl (decide (i < j))) (tVar 3) (tC (.int 1)))))) (tRet (tC (.bl false))) tNext)
        (tRet (tAndV (tCall (spG K preT (post1 fun d => .bool (isNameD d))) [] E0 (tCons (tVar 4) tNil)) (tAndV (tMethX c.Sheet "has_field" (spM K c.Sheet (fun _ ds => pre1 ds) fun ns => post1 fun d => .bool (hasD ns d)) [] (fun _ => E0) (tVar 0) (tCons (tVar 5) tNil)) (tCall (spG K preT (post1 fun d => .bool (isRatD d))) [] E0 (tCons (tVar 6) tNil))))) { nx := fun _ H' => Q .non H', rt := Q } [some (.ref p), some v, some v1, some v2, some v3, some v4, some v5] H2 := fun c2 ec h1 h2 => by
    refine q_ifE (b := (!isLevelD l) || ((!isIntD t) || c2)) (et_orE (et_notE (et_valE (K := K) (ev_call1 (ev_var rfl m1)))) fun _ => et_orE (et_notE (et_valE (K := K) (ev_call1 (ev_var rfl m2)))) fun hi => ec (by simpa using hi)) f2 (Same.refl _) (fun H3 x3 f3 e3 => ?_) (fun H3 x3 f3 e3 => ?_)
    · exact fin (x02.trans x3) (h2 e3).symm
    · have s3 := x3.off f2.mem
      dsimp only [tNext]
      refine q_retE (K := K) (σ := [some (.ref p), some v, some v1, some v2, some v3, some v4, some v5]) (d := .bool (isNameD r && (hasD ns g && isRatD n))) (ev_andE (ev_callT (ev_var (i := 4) rfl (m3.mono s3)) (titem r (by simp))) fun _ => ev_andE (ev_hasF (i := 0) rfl (sh.mono ((x02.trans x3).off f.mem)) (ev_var (i := 5) rfl (m4.mono s3))) fun _ => ev_callT (fn := fun d => .bool (isRatD d)) (ev_var (i := 6) rfl (m5.mono s3)) (titem n (by simp))) f3 (Same.refl _) fun v2 H' x m => ?_
      cases m
      exact fin ((x02.trans x3).trans x) (h1 e3).symm
  by_cases hi : ∃ i, t = .int i
  · obtain ⟨i, rfl⟩ := hi
    refine step (decide (i < 1)) (fun _ => et_testE (K := K) (ev_cmpE (ev_var rfl m2) ev_i)) (fun h => ?_) (fun h => ?_)
    · have hL : isLevelD l = true := by
        cases z : isLevelD l
        · rw [z] at h
          cases h
        · rfl
      have h1 : decide (1 ≤ i) = true := by
        rw [hL] at h
        have := of_decide_eq_false (p := i < 1) (by simpa [isIntD] using h)
        exact decide_eq_true (by omega)
      show (isLevelD l && (decide (1 ≤ i) && _)) = _
      rw [hL, h1, Bool.true_and, Bool.true_and]
    · show (isLevelD l && (decide (1 ≤ i) && _)) = false
      cases z : isLevelD l with
      | false => rfl
      | true =>
        rw [z] at h
        have : i < 1 := by simpa [isIntD] using h
        rw [decide_eq_false (by omega : ¬ 1 ≤ i)]
        rfl
  · have hz : isIntD t = false := by cases t <;> first | rfl | exact absurd ⟨_, rfl⟩ hi
    have h0 : isSettingD ns (.tuple [l, t, r, g, n]) = false := by
      cases t <;> first | exact absurd ⟨_, rfl⟩ hi | (show (isLevelD l && (false && _)) = false; rw [Bool.false_and, Bool.and_false])
    refine step false (fun h => by rw [hz] at h; cases h) (fun h => ?_) (fun _ => h0)
    rw [hz] at h
    simp at h
theorem ok_top_and_low {f : Addr} {fd : FuncData} (F : Fun K "top_and_low" "top_and_low" s_top_and_low f fd) (T : Txt K mg c) : FnG P w K mg base CX0 1 f fd ["value"] (spG K pre1 (post1 topLow)) := by
  refine fun_okG F sc_top_and_low (fun vs H Q E h => spG_len (fun _ => pre1_len) h) (fun cdv A outer s H vs Q E hg hr h => ?_)
  obtain ⟨a, S, ds, f, m, ⟨d, rfl⟩, k⟩ := h
  obtain ⟨v, rfl, mv⟩ := DA.one m
  refine ⟨_, (pss_one (ps_ret (pe_ifExp (pt_val (pe_callB (kIsi (K := K)) (by rfl) T.b_isinstance (by decide +kernel) (pa_cons (pv 0) (pa_cons (pe_bltn (v := .ty "tuple") (by rfl) T.b_tuple (by decide +kernel) rfl) pa_nil)))) (pv 0) (pe_tup (pa_cons (pv 0) (pa_cons pe_int pa_nil)))))), ?_⟩
  refine q_ret (K := K) (σ := [some v]) (C := (· = topLow d)) (ev_if (B := (· = tupD d)) (et_val (ev_isi (ev_var rfl mv) ?_)) (fun h => Ev.imp (ev_var rfl mv) ?_) (fun h => Ev.imp (ev_tupE (ea_eq (ev_var rfl mv) (ea_eq ev_i ea_nil)) (by show 2 ≤ 1000; decide)) ?_)) f (Same.refl _) ?_
  · rintro _ rfl
    exact ⟨_, kit_tup _, rfl⟩
  · intro z hz
    rw [hz]
    cases d <;> first | rfl | (simp [tupD] at h; done)
  · intro z hz
    rw [hz]
    cases d <;> first | rfl | (simp [tupD] at h; done)
  · rintro v2 _ H' x m2 rfl
    exact k _ _ H' x m2 ⟨d, rfl, rfl⟩
theorem ok_check_numbers {f : Addr} {fd : FuncData} (F : Fun K "check_numbers" "check_numbers" s_check_numbers f fd) (T : Txt K mg c) (F_is_number : FIN P w K mg base) (R_InvalidNumber : XR P w K mg base "InvalidNumber" c.InvalidNumber "value") :
    FnG P w K mg base CX0 3 f fd ["values"] (spG K preCn fun _ r => r = .none) := by
  refine fun_okG F sc_check_numbers (fun vs H Q E h => spG_len (n := 1) (fun ds ⟨es, e, _⟩ => by rw [e]; rfl) h) (fun cdv A outer s H vs Q E hg hr h => ?_)
  obtain ⟨a, S, ds, f, m, ⟨es, rfl, hn⟩, k⟩ := h
  obtain ⟨v, rfl, mv⟩ := DA.one m
  refine ⟨_, (pss_one (ps_for PassesOwn.never rfl (pi_seq (pv 0)) (pg_name (i := 1) sc_check_numbers.nd rfl (by first | exact Or.inl rfl | exact Or.inr rfl))
    (pss_one (ps_if (pt_not (pt_val (pe_fn F_is_number hg (hr.mono (by decide)) (by rfl) pass0 (pa_cons (pv 1) pa_nil))))
    (pss_one (ps_rse (by rfl) takes0 R_InvalidNumber (hr.mono (by decide)) (by rfl) (pv 1)))
    pss_nil)))), ?_⟩
  refine q_forW (K := K) (σ := [some v, none]) (walks_seqL (ev_var rfl mv)) f (Same.refl _) S fun H2 x2 f2 => ⟨fun i σ' H' => ∃ y, σ' = [some v, y] ∧ Ext a H2 H' ∧ LK.Fr a S H', ⟨_, rfl, Ext.refl, f2⟩, fun i σ' H' ⟨_, _, x', f'⟩ => ⟨f', x'.off f.mem⟩, ?_, ?_⟩
  · rintro i x d σ' H' H'' hi ⟨y, rfl, x', f'⟩ x'' _ md ed
    have nd := hn d (List.mem_of_getElem? ed)
    show tIfS _ _ _ _ _ H''
    refine q_ifE (b := !true) (et_notE (et_valE (K := K) ((ev_callT (fn := fun d => .bool (isRatD d)) (ev_var (i := 1) rfl md) (nd.up (by decide)).sz.tame).imp fun _ z => by rw [z, nd.rat]))) (f'.ext x'') (Same.refl _) (fun H3 x3 f3 e => nomatch e) (fun H3 x3 f3 _ => ?_)
    exact ⟨_, rfl, (x'.trans x'').trans x3, f3⟩
  · rintro σ' H' ⟨y, rfl, x', f'⟩
    exact k _ _ H' (x2.trans x') .non rfl
theorem ok_is_decimal {f : Addr} {fd : FuncData} (F : Fun K "is_decimal" "is_decimal" s_is_decimal f fd) (T : Txt K mg c) : FnG P w K mg base CX0 1 f fd ["word"] (spG K preSt (post1 decD)) := by
  refine fun_okG F sc_is_decimal (fun vs H Q E h => spG_len (fun _ => preSt_len) h) (fun cdv A outer s H vs Q E hg hr h => ?_)
  obtain ⟨a, S, ds, f, m, ⟨x, rfl, hx⟩, k⟩ := h
  obtain ⟨v, rfl, mv⟩ := DA.one m
  cases mv
  refine ⟨_, (pss_cons (ps_if (PW.pt (pw_or (pt_cmpR (kEq (K := K) hr.units) (pv 0) pe_str (nomark _)) (pw_or1 (pt_not (pt_val (pe_callB (kAll (K := K) rfl) (by rfl) T.b_all (by decide +kernel) (pa_cons (pe_lc (own := [("sign", 1)]) rfl sc_is_decimal.nd (pi_str (pv 0)) (blkOk_by (N := ["word", "sign"]) (sc := defScope s_is_decimal) (by decide +kernel)) (fun _ _ _ _ _ => (pg_name (i := 1) sc_is_decimal.nd rfl (by first | exact Or.inl rfl | exact Or.inr rfl))) (fun _ _ _ _ _ => pts_nil) (fun _ _ _ _ _ => (pe_cmpR (kIn (K := K)) (pv 1) (pe_gS rfl T.g_DIGITS) (by rfl)))) pa_nil)))))))
    (pss_one (ps_ret pe_bl))
    pss_nil)
    (pss_one (ps_ret (pe_or (pe_cmpR (kEq (K := K) hr.units) (pv 0) pe_str (nomark _)) (pe_one (pe_cmpR (kNe (K := K) hr.units) (pe_ix (kIx (K := K)) (pv 0) pe_int (fun _ _ => rfl)) pe_str (nomark _))))))), ?_⟩
  have fin : ∀ {b : Bool} {H' : Hp}, Ext a H H' → b = decB (tl x) → Q (.bl b) H' := fun {b H'} y e => by
    subst e
    exact k _ _ H' y (.bl _) ⟨_, rfl, rfl⟩
  refine q_if (σ := [some (.str x), none]) (B := (· = !(!(tl x == []) && allDig (tl x)))) (et_or (B1 := (· = (tl x == []))) (et_test (Ev.imp (ev_eqS (K := K) (ev_var rfl (.str x)) ev_s) ?_)) (fun h => et_not (B1 := (· = allDig (tl x))) (et_val (Ev.imp (ev_allIn (K := K) (z := digs) (ev_var rfl (.str x)) (fun v => ev_s) (by omega) (fun _ => rfl) (fun _ => rfl)) ?_)) ?_) ?_) f (Same.refl _) (fun H1 x1 f1 e1 => ?_) (fun H1 x1 f1 e1 => ?_)
  · rintro _ rfl
    refine ⟨_, rfl, ?_⟩
    rw [str_eq]
    rfl
  · rintro _ rfl
    exact ⟨_, rfl, all_digs x⟩
  · rintro _ rfl
    rw [← h]
    rfl
  · intro h
    rw [← h]
    rfl
  · refine fin x1 ?_
    unfold decB
    cases h : (!(tl x == []) && allDig (tl x))
    · rfl
    · rw [h] at e1
      cases e1
  · have hd : (!(tl x == []) && allDig (tl x)) = true := by
      cases h : (!(tl x == []) && allDig (tl x))
      · rw [h] at e1
        cases e1
      · rfl
    have hne : tl x ≠ [] := by
      rw [Bool.and_eq_true] at hd
      simpa using hd.1
    obtain ⟨hc, hr', he⟩ : ∃ hc hr', tl x = hc :: hr' := by
      cases h : tl x with
      | nil => exact absurd h hne
      | cons y r => exact ⟨y, r, rfl⟩
    refine q_ret (K := K) (σ := [some (.str x), none]) (C := (· = .bool (decB (tl x)))) (ev_orV (B := (· = (tl x == [48]))) (Ev.imp (ev_eqS (ev_var rfl (.str x)) ev_s) ?_) (fun h => Ev.imp (ev_neS (x := ⟨#[hc]⟩) (ev_ixS (cI := (· = 0)) (ev_var rfl (.str x)) (ev_isI ev_i rfl) (by omega) ?_) ev_s) ?_) ?_) f1 (Same.refl _) ?_
    · rintro _ rfl
      refine ⟨_, rfl, ?_⟩
      rw [str_eq]
      rfl
    · rintro _ rfl
      refine ⟨hc, ?_, rfl⟩
      show atI (tl x) 0 = some hc
      rw [he]
      exact atI_nat (j := 0) rfl
    · rintro _ rfl
      unfold decB canon
      rw [hd, Bool.true_and, ← h, Bool.false_or, str_eq, he]
      congr 1
      rw [Bool.eq_iff_iff]
      have e48 : tl ("0" : Str) = [48] := by decide +kernel
      rw [e48]
      show (!([hc] == [48])) = true ↔ (!((hc :: hr').head? == some 48)) = true
      simp
    · intro h
      unfold decB canon
      rw [hd, ← h]
      rfl
    · rintro v _ H2 x2 mv rfl
      cases mv
      exact fin (x1.trans x2) rfl
theorem ok_parse_integer {f : Addr} {fd : FuncData} (F : Fun K "parse_integer" "parse_integer" s_parse_integer f fd) (T : Txt K mg c) (F_is_decimal : FDc P w K mg base) : FnG P w K mg base CX0 2 f fd ["word"] (spG K preSt (post1 pintD)) := by
  refine fun_okG F sc_parse_integer (fun vs H Q E h => spG_len (fun _ => preSt_len) h) (fun cdv A outer s H vs Q E hg hr h => ?_)
  obtain ⟨a, S, ds, f, m, ⟨x, rfl, hx⟩, k⟩ := h
  obtain ⟨v, rfl, mv⟩ := DA.one m
  cases mv
  refine ⟨_, (pss_cons (ps_set (i := 1) sc_parse_integer.nd rfl (by first | exact Or.inl rfl | exact Or.inr rfl) (pe_ifExp (pt_cmpR (kEq (K := K) hr.units) (pe_slice sl_str (pv 0) po_none (po_some pe_int)) pe_str (nomark _)) (pe_slice sl_str (pv 0) (po_some pe_int) po_none) (pv 0)))
    (pss_cons (ps_if (PW.pt (pw_or (pt_not (pt_val (pe_fn F_is_decimal hg (hr.mono (by decide)) (by rfl) pass0 (pa_cons (pv 1) pa_nil)))) (pw_or1 (pt_cmpR (kEq (K := K) hr.units) (pv 0) pe_str (nomark _)))))
    (pss_one (ps_ret pe_non))
    pss_nil)
    (pss_one (ps_ret (pe_callTy call_int_str (by rfl) T.b_int (by decide +kernel) (pa_cons (pv 0) pa_nil)))))), ?_⟩
  obtain ⟨y, hy, ey, hyl⟩ := rest_tl x
  refine q_set (K := K) (σ := [some (.str x), none]) (ev_rest rfl hx hy) f (Same.refl _) ?_
  rintro _ _ H1 x1 f1 m1 rfl
  cases m1
  have fin : ∀ {v : V} {d : PyData} {H' : Hp}, Ext a H H' → D K (off S H') v d → d = pintD (.str x) → Q v H' := fun {v d H'} z mv e => k _ _ H' z mv ⟨_, rfl, e⟩
  refine q_if (σ := [some (.str x), some (.str y)]) (B := (· = !(decB (restL (tl x)) && !(tl x == [45, 48])))) (et_or (B1 := (· = !decB (restL (tl x)))) (et_not (B1 := (· = decB (restL (tl x)))) (et_val (Ev.imp (ev_callS (K := K) (fn := decD) (ev_var rfl (.str y)) (by omega)) ?_)) ?_) (fun h => et_test (Ev.imp (ev_eqS (K := K) (ev_var rfl (.str x)) ev_s) ?_)) ?_) f1 (Same.refl _) (fun H2 x2 f2 e2 => ?_) (fun H2 x2 f2 e2 => ?_)
  · rintro _ rfl
    refine ⟨_, rfl, ?_⟩
    show decB (tl y) = _
    rw [ey]
  · rintro _ rfl
    rfl
  · rintro _ rfl
    refine ⟨_, rfl, ?_⟩
    have hb : decB (restL (tl x)) = true := by
      cases h' : decB (restL (tl x))
      · rw [h'] at h
        cases h
      · rfl
    have e : tl ("-0" : Str) = [45, 48] := by decide +kernel
    rw [str_eq, e, hb, Bool.true_and, Bool.not_not]
  · intro h
    have hb : decB (restL (tl x)) = false := by
      cases h' : decB (restL (tl x))
      · rfl
      · rw [h'] at h
        cases h
    rw [hb]
    rfl
  · refine q_ret (K := K) (σ := [some (.str x), some (.str y)]) ev_n f2 (Same.refl _) ?_
    rintro v _ H3 x3 mv rfl
    refine fin ((x1.trans x2).trans x3) mv ?_
    have hb : (decB (restL (tl x)) && !(tl x == [45, 48])) = false := by
      cases h' : (decB (restL (tl x)) && !(tl x == [45, 48]))
      · rfl
      · rw [h'] at e2
        cases e2
    have e : parseL (tl x) = none := by
      unfold parseL
      rw [hb]
      rfl
    simp only [pintD, e]
  · have hb : (decB (restL (tl x)) && !(tl x == [45, 48])) = true := by
      cases h' : (decB (restL (tl x)) && !(tl x == [45, 48]))
      · rw [h'] at e2
        cases e2
      · rfl
    have e : parseL (tl x) = some (toI (tl x)) := by
      unfold parseL
      rw [hb]
      rfl
    refine q_ret (K := K) (σ := [some (.str x), some (.str y)]) (ev_intS (ev_var rfl (.str x)) (int_parse e (by omega)) (by omega)) f2 (Same.refl _) ?_
    rintro v _ H3 x3 mv rfl
    refine fin ((x1.trans x2).trans x3) mv ?_
    simp only [pintD, e]
end
end K91
set_option Elab.async false
set_option linter.all false
set_option maxRecDepth 100000
set_option maxHeartbeats 1000000
namespace K91
open PySem PySem.Spec L2 LK
open PyProof.Rows hiding St
local macro_rules | `(tactic| walk_at "ext") => `(tactic| first | exact Ext.refl | assumption | (refine Ext.trans ?_ (by assumption); walk_at "ext"))
local macro_rules | `(tactic| walk_at "sm") => `(tactic| first | exact Same.refl _ | assumption | (refine Ext.off ?_ (Fr.mem (by assumption)); walk_at "ext"))
local macro_rules | `(tactic| walk_at "dm") => `(tactic| first | assumption | exact .int _ | exact .bl _ | exact .str _ | exact .non | (refine D.mono (by assumption) ?_; walk_at "sm"))
local macro_rules | `(tactic| walk_at "sd") => `(tactic| first | assumption | rfl | decide | omega | (show _ ≤ 1000; decide))
local macro_rules | `(tactic| walk_at "ea") => `(tactic| first | exact ea_nil | (refine ea_eq ?_ ?_; (walk_at "ev"); (walk_at "ea")))
local macro_rules | `(tactic| walk_at "et") => `(tactic| first
  | (refine et_valE ?_; walk_at "ev") | (refine et_testE ?_; walk_at "ev") | (refine et_notE ?_; walk_at "et")
  | (refine et_andE ?_ (fun _ => ?_); (walk_at "et"); (walk_at "et")) | (refine et_orE ?_ (fun _ => ?_); (walk_at "et"); (walk_at "et")))
local macro_rules | `(tactic| walk_at "ev") => `(tactic| first
  | exact ev_i | exact ev_s | exact ev_b | exact ev_n | exact ev_dnew
  | (refine ev_var rfl ?_; walk_at "dm")
  | (refine ev_tupE ?_ ?_; (walk_at "ea"); (walk_at "sd")) | (refine ev_lstE ?_ ?_; (walk_at "ea"); (walk_at "sd"))
  | (refine ev_negE ?_; walk_at "ev")
  | (refine ev_isiE ?_ ?_; (walk_at "ev"); (walk_at "sd"))
  | (refine ev_lenE ?_ ?_ ?_; (walk_at "ev"); (walk_at "sd"); (walk_at "sd"))
  | (refine ev_atL ?_ ?_ ?_; (walk_at "ev"); (walk_at "ev"); (walk_at "sd")) | (refine ev_atT ?_ ?_ ?_; (walk_at "ev"); (walk_at "ev"); (walk_at "sd"))
  | (refine ev_addE ?_ ?_; (walk_at "ev"); (walk_at "ev")) | (refine ev_cmpE ?_ ?_; (walk_at "ev"); (walk_at "ev")) | (refine ev_i0E ?_ ?_; (walk_at "ev"); (walk_at "ev"))
  | (refine ev_mulE ?_ ?_ ?_; (walk_at "ev"); (walk_at "ev"); (walk_at "sd"))
  | (refine ev_eqIE ?_ ?_; (walk_at "ev"); (walk_at "ev")) | (refine ev_neIE ?_ ?_; (walk_at "ev"); (walk_at "ev"))
  | (refine ev_andE ?_ (fun _ => ?_); (walk_at "ev"); (walk_at "ev")) | (refine ev_orE ?_ (fun _ => ?_); (walk_at "ev"); (walk_at "ev")) | (refine ev_notE ?_; walk_at "ev")
  | (refine ev_fn ?_ ?_; (walk_at "ea"); (walk_at "sd")))
local macro_rules | `(tactic| walk_at "lit") => `(tactic| first | exact ev_i | exact ev_s | exact ev_b | exact ev_n | exact ev_dnew | (refine ev_negE ?_; walk_at "lit") | (refine ev_tupE ?_ (by decide); walk_at "lits") | (refine ev_lstE ?_ (by decide); walk_at "lits") | (refine ev_powE ?_ ?_ ⟨by decide, by decide, by decide⟩ <;> walk_at "lit"))
local macro_rules | `(tactic| walk_at "lits") => `(tactic| first | exact ea_nil | (refine ea_eq ?_ ?_; (walk_at "lit"); (walk_at "lits")))
section
open TL (tl numL)
open NumText (digitsVal AllDigits)
variable {P : Program} {w : World} {K : PySem.W.Frag} {mg : Str → Option Value} {c : Cls} {base : Heap} {a : Addr} {G : Hp} {S : List Addr} {H : Hp}
theorem ok_parse_number {f : Addr} {fd : FuncData} (F : Fun K "parse_number" "parse_number" s_parse_number f fd) (T : Txt K mg c) (F_is_number : FIN P w K mg base) (F_is_decimal : FDc P w K mg base) (F_parse_integer : FPi P w K mg base) :
    FnG P w K mg base (L2.CX P w) 3 f fd ["text"] (spPN K c.InvalidText) := by
  refine fun_okXG F sc_parse_number (fun vs H Q E h => spX_len (n := 1) (fun ds ⟨d, e, _⟩ => by rw [e]; rfl) h) (fun cdv A outer s H vs Q E hg hr h => ?_)
  have R_InvalidText : XR P w K mg base "InvalidText" c.InvalidText "line" := ok_InvalidText___init__ T
  obtain ⟨a, S, ds, f, m, ⟨d, rfl, hd⟩, kQ, kE⟩ := h
  obtain ⟨v, rfl, mv⟩ := DA.one m
  refine ⟨_, (pss_cons (ps_if (pt_not (pt_val (pe_callB (kIsi (K := K)) (by rfl) T.b_isinstance (by decide +kernel) (pa_cons (pv 0) (pa_cons (pe_bltn (v := .ty "str") (by rfl) T.b_str (by decide +kernel) rfl) pa_nil)))))
    (pss_one (ps_rse (by rfl) (takes_of rfl rfl rfl rfl) R_InvalidText (hr.mono (by decide)) (by rfl) pe_int))
    pss_nil)
    (pss_cons (ps_set (i := 1) sc_parse_number.nd rfl (by first | exact Or.inl rfl | exact Or.inr rfl) (pe_split (pv 0) pe_str))
    (pss_cons (ps_set (i := 2) sc_parse_number.nd rfl (by first | exact Or.inl rfl | exact Or.inr rfl) (pe_fn F_parse_integer hg (hr.mono (by decide)) (by rfl) pass0 (pa_cons (pe_ix (kIx (K := K)) (pv 1) pe_int (fun _ _ => rfl)) pa_nil)))
    (pss_cons (ps_if (PW.pt (pw_or (pt_cmpR op_gt (pe_callB (kLen (K := K)) (by rfl) T.b_len (by decide +kernel) (pa_cons (pv 1) pa_nil)) pe_int (nomark _)) (pw_or1 (pt_cmpR op_isN (pv 2) pe_non (nomark _)))))
    (pss_one (ps_rse (by rfl) (takes_of rfl rfl rfl rfl) R_InvalidText (hr.mono (by decide)) (by rfl) pe_int))
    pss_nil)
    (pss_cons (ps_if (pt_cmpR (kEq (K := K) hr.units) (pe_callB (kLen (K := K)) (by rfl) T.b_len (by decide +kernel) (pa_cons (pv 1) pa_nil)) pe_int (nomark _))
    (pss_one (ps_ret (pv 2)))
    pss_nil)
    (pss_cons (ps_if (PW.pt (pw_or (pt_not (pt_val (pe_fn F_is_decimal hg (hr.mono (by decide)) (by rfl) pass0 (pa_cons (pe_ix (kIx (K := K)) (pv 1) pe_int (fun _ _ => rfl)) pa_nil)))) (pw_or1 (pt_not (pt_val (pe_fn F_is_number hg (hr.mono (by decide)) (by rfl) pass0 (pa_cons (pe_tup (pa_cons (pv 2) (pa_cons (pe_callTy call_int_str (by rfl) T.b_int (by decide +kernel) (pa_cons (pe_ix (kIx (K := K)) (pv 1) pe_int (fun _ _ => rfl)) pa_nil)) pa_nil))) pa_nil)))))))
    (pss_one (ps_rse (by rfl) (takes_of rfl rfl rfl rfl) R_InvalidText (hr.mono (by decide)) (by rfl) pe_int))
    pss_nil)
    (pss_one (ps_ret (pe_tup (pa_cons (pv 2) (pa_cons (pe_callTy call_int_str (by rfl) T.b_int (by decide +kernel) (pa_cons (pe_ix (kIx (K := K)) (pv 1) pe_int (fun _ _ => rfl)) pa_nil)) pa_nil))))))))))), ?_⟩
  have bad : ∀ {σ : L2.St} {H1 : Hp} {n : Int} {Dn : Ends}, Ext a H H1 → LK.Fr a S H1 → resN d = .inr n → tRse c.InvalidText "line" (fun cls d _ H => E cls d H) (tC (.int n)) Dn σ H1 := by
    intro σ H1 n Dn x1 f1 e
    refine q_rse (K := K) ev_i f1 (Same.refl _) ?_
    rintro v z dd H2 x2 f2 mv hz hd hS
    exact kE v z dd H2 (x1.trans x2) mv ⟨d, n, rfl, e, hz⟩ hd hS
  refine q_if (σ := [some v, none, none]) (B := (· = !isStrD d)) (et_not (B1 := (· = isStrD d)) (et_val (ev_isi (K := K) (ev_var rfl mv) ?_)) ?_) f (Same.refl _) (fun H1 x1 f1 e1 => ?_) (fun H1 x1 f1 e1 => ?_)
  · rintro _ rfl
    exact ⟨_, kit_str _, rfl⟩
  · rintro _ rfl
    rfl
  · refine bad x1 f1 (res_no ?_)
    cases h : isStrD d
    · rfl
    · rw [h] at e1
      cases e1
  have e : isStrD d = true := by
    cases h : isStrD d
    · rw [h] at e1
      cases e1
    · rfl
  obtain ⟨x, rfl⟩ := str_of e
  have hx : x.length ≤ 200 := hd x rfl
  have mv1 := mv.mono (x1.off f.mem)
  cases mv1
  refine q_set (K := K) (σ := [some (.str x), none, none]) (ev_split (y := slash) (ev_var rfl (.str x)) (by decide +kernel) (by omega)) f1 (Same.refl _) ?_
  rintro v2 _ H2 x2 f2 m2 rfl
  obtain ⟨p, r, hs⟩ : ∃ p r, Txt.split x slash = p :: r := by
    cases h : Txt.split x slash with
    | nil => exact absurd h (split_ne x)
    | cons p r => exact ⟨p, r, rfl⟩
  have pl : p.length ≤ 200 := Nat.le_trans (split_head hs) hx
  have slen : (Txt.split x slash).length ≤ 201 := Nat.le_trans (split_len x) (by omega)
  have x12 := x1.trans x2
  have at0 : atI ((Txt.split x slash).map PyData.str) 0 = some (.str p) := by
    rw [hs]
    exact atI_nat (j := 0) rfl
  refine q_set (K := K) (σ := [some (.str x), some v2, none]) (ev_callS (fn := pintD) (ev_part rfl m2 at0 ev_i) (by omega)) f2 (Same.refl _) ?_
  rintro v3 _ H3 x3 f3 m3 rfl
  have m2 := m2.mono (x3.off f.mem)
  have x13 := x12.trans x3
  have elen : ∀ {σ : L2.St} {G : Hp}, σ[1]? = some (some v2) → D K G v2 (.list ((Txt.split x slash).map .str)) → Ev K a G (tCB (rLenA K) (tCons (tVar 1) tNil)) σ (IsI (· = ((Txt.split x slash).length : Nat))) := fun h m => ev_len (ev_var h m) (by
    rintro _ rfl
    exact ⟨(Txt.split x slash).length, by simp [lenD], by omega, rfl⟩)
  refine q_if (σ := [some (.str x), some v2, some v3]) (B := (· = (decide (2 < (Txt.split x slash).length) || noneD (pintD (.str p))))) (et_or (B1 := (· = decide (2 < (Txt.split x slash).length))) (et_test (ev_cmpI (K := K) (g := fun i j => decide (j < i)) (cJ := (· = 2)) (elen rfl m2) (ev_isI ev_i rfl) ?_)) (fun h => et_test (Ev.imp (ev_isN (K := K) (ev_var rfl m3)) ?_)) ?_) f3 (Same.refl _) (fun H4 x4 f4 e4 => ?_) (fun H4 x4 f4 e4 => ?_)
  · rintro _ _ rfl rfl
    rw [Bool.eq_iff_iff, decide_eq_true_eq, decide_eq_true_eq]
    omega
  · rintro _ rfl
    refine ⟨_, rfl, ?_⟩
    rw [← h, Bool.false_or]
  · intro h
    rw [← h, Bool.true_or]
  · refine bad (x13.trans x4) f4 (res_none ?_)
    unfold parseN
    rw [none_pint] at e4
    match r, hs with
    | [], hs =>
      rw [hs] at e4 ⊢
      cases hp : parseL (tl p) with
      | none =>
        show (parseL (tl p)).map PyData.int = none
        rw [hp]
        rfl
      | some t =>
        rw [hp] at e4
        cases e4
    | [q], hs =>
      rw [hs] at e4 ⊢
      cases hp : parseL (tl p) with
      | none =>
        show (parseL (tl p)).bind _ = none
        rw [hp]
        rfl
      | some t =>
        rw [hp] at e4
        cases e4
    | _ :: _ :: _, hs =>
      rw [hs]
      rfl
  have h4 : decide (2 < (Txt.split x slash).length) = false ∧ noneD (pintD (.str p)) = false := by
    cases h : decide (2 < (Txt.split x slash).length) <;> cases h' : noneD (pintD (.str p)) <;> first | exact ⟨rfl, rfl⟩ | (rw [h, h'] at e4; cases e4)
  obtain ⟨h41, h42⟩ := h4
  have short : ¬ 2 < (Txt.split x slash).length := of_decide_eq_false h41
  obtain ⟨t, ht⟩ : ∃ t, parseL (tl p) = some t := by
    rw [none_pint] at h42
    cases h : parseL (tl p) with
    | none =>
      rw [h] at h42
      cases h42
    | some t => exact ⟨t, rfl⟩
  have et : pintD (.str p) = .int t := by simp only [pintD, ht]
  rw [et] at m3
  have m2 := m2.mono (x4.off f.mem)
  cases m3
  have x14 := x13.trans x4
  refine q_if (σ := [some (.str x), some v2, some (.int t)]) (B := (· = decide ((Txt.split x slash).length = 1))) (et_test (ev_eqI (K := K) (cJ := (· = 1)) (elen rfl m2) (ev_isI ev_i rfl) ?_)) f4 (Same.refl _) (fun H5 x5 f5 e5 => ?_) (fun H5 x5 f5 e5 => ?_)
  · rintro _ _ rfl rfl
    rw [Bool.eq_iff_iff, decide_eq_true_eq, decide_eq_true_eq]
    omega
  · have one : (Txt.split x slash).length = 1 := of_decide_eq_true e5.symm
    refine q_ret (K := K) (σ := [some (.str x), some v2, some (.int t)]) (ev_var rfl (.int t)) f5 (Same.refl _) ?_
    rintro v6 _ H6 x6 m6 rfl
    refine kQ v6 _ H6 ((x14.trans x5).trans x6) m6 ⟨_, rfl, res_some ?_⟩
    rw [hs] at one
    have r0 : r = [] := by
      cases r
      · rfl
      · simp at one
    unfold parseN
    rw [hs, r0]
    show (parseL (tl p)).map PyData.int = _
    rw [ht]
    rfl
  have two : ¬ (Txt.split x slash).length = 1 := of_decide_eq_false e5.symm
  obtain ⟨q, rfl⟩ : ∃ q, r = [q] := by
    rw [hs] at short two
    match r with
    | [] => exact absurd rfl two
    | [q] => exact ⟨q, rfl⟩
    | _ :: _ :: _ => exact absurd (by simp) short
  have ql : q.length ≤ 200 := Nat.le_trans (split_snd hs) hx
  have at1 : atI ((Txt.split x slash).map PyData.str) 1 = some (.str q) := by
    rw [hs]
    exact atI_nat (j := 1) rfl
  have m2 := m2.mono (x5.off f.mem)
  have x15 := x14.trans x5
  have tb := parse_small ht (by rw [← TL.len_tl]; exact pl)
  have pw : parseN x = if (decB (tl q) && isRatD (.tuple [.int t, .int ((digitsVal (tl q) : Nat) : Int)])) = true then some (.tuple [.int t, .int ((digitsVal (tl q) : Nat) : Int)]) else none := by
    unfold parseN
    rw [hs]
    show (parseL (tl p)).bind _ = _
    rw [ht]
    rfl
  have epair : ∀ {G : Hp}, D K G v2 (.list ((Txt.split x slash).map .str)) → decB (tl q) = true → Ev K a G (tTup (tCons (tVar 2) (tCons (tCB (fun xs H Q => ∃ a n, xs = [V.str a] ∧ intText? a = some n ∧ a.length ≤ 640 ∧ Q (V.int n) H) (tCons (tOp (rIx K) (tVar 1) (tC (.int 1))) tNil)) tNil))) [some (.str x), some v2, some (.int t)] (· = .tuple [.int t, .int ((digitsVal (tl q) : Nat) : Int)]) :=
    fun m h => ev_tupE (ea_eq (ev_var rfl (.int t)) (ea_eq (ev_intS (ev_part rfl m at1 ev_i) (int_dec h (by omega)) (by omega)) ea_nil)) (by show 2 ≤ 1000; decide)
  have tam : decB (tl q) = true → Tame (.tuple [.int t, .int ((digitsVal (tl q) : Nat) : Int)]) := fun h => by
    have v := val_small (dec_of h).1 (by rw [← TL.len_tl]; exact ql)
    have big : (2 : Nat) ^ 700 ≤ 2 ^ 1000 := Nat.pow_le_pow_right (by decide) (by decide)
    refine Sz.tame (n := 2 * 1) (k := 1) (Sz.tup (n := 0) (k := 0) (ds := [.int t, .int ((digitsVal (tl q) : Nat) : Int)]) fun z m => ?_)
    simp only [List.mem_cons, List.not_mem_nil, or_false] at m
    rcases m with rfl | rfl
    · exact sz_int (Nat.lt_of_lt_of_le tb big)
    · exact sz_int (by rw [Int.natAbs_natCast]; exact Nat.lt_of_lt_of_le v big)
  refine q_if (σ := [some (.str x), some v2, some (.int t)]) (B := (· = !(decB (tl q) && isRatD (.tuple [.int t, .int ((digitsVal (tl q) : Nat) : Int)])))) (et_or (B1 := (· = !decB (tl q))) (et_not (B1 := (· = decB (tl q))) (et_val (Ev.imp (ev_callS (K := K) (fn := decD) (ev_part rfl m2 at1 ev_i) (by omega)) ?_)) ?_)
    (fun h => et_not (B1 := (· = isRatD (.tuple [.int t, .int ((digitsVal (tl q) : Nat) : Int)]))) (et_val (Ev.imp (ev_callT (K := K) (fn := fun d => .bool (isRatD d)) (epair m2 ?_) (tam ?_)) ?_)) ?_) ?_) f5 (Same.refl _) (fun H6 x6 f6 e6 => ?_) (fun H6 x6 f6 e6 => ?_)
  · rintro _ rfl
    exact ⟨_, rfl, rfl⟩
  · rintro _ rfl
    rfl
  · cases h' : decB (tl q)
    · rw [h'] at h
      cases h
    · rfl
  · cases h' : decB (tl q)
    · rw [h'] at h
      cases h
    · rfl
  · rintro _ rfl
    exact ⟨_, rfl, rfl⟩
  · rintro _ rfl
    have h' : decB (tl q) = true := by
      cases h' : decB (tl q)
      · rw [h'] at h
        cases h
      · rfl
    rw [h', Bool.true_and]
  · intro h
    have h' : decB (tl q) = false := by
      cases h' : decB (tl q)
      · rfl
      · rw [h'] at h
        cases h
    rw [h', Bool.false_and]
    rfl
  · refine bad (x15.trans x6) f6 (res_none ?_)
    rw [pw, if_neg]
    intro z
    rw [z] at e6
    cases e6
  · have z : (decB (tl q) && isRatD (.tuple [.int t, .int ((digitsVal (tl q) : Nat) : Int)])) = true := by
      cases h : (decB (tl q) && isRatD (.tuple [.int t, .int ((digitsVal (tl q) : Nat) : Int)]))
      · rw [h] at e6
        cases e6
      · rfl
    have z1 : decB (tl q) = true := by
      rw [Bool.and_eq_true] at z
      exact z.1
    refine q_ret (K := K) (σ := [some (.str x), some v2, some (.int t)]) (epair (m2.mono (x6.off f.mem)) z1) f6 (Same.refl _) ?_
    rintro v7 _ H7 x7 m7 rfl
    refine kQ v7 _ H7 ((x15.trans x6).trans x7) m7 ⟨_, rfl, res_some ?_⟩
    rw [pw, if_pos z]
end
end K91
set_option Elab.async false
set_option linter.all false
set_option maxRecDepth 100000
set_option maxHeartbeats 1000000
namespace K91
open PySem PySem.Spec L2 LK
open PyProof.Rows hiding St
local macro_rules | `(tactic| walk_at "ext") => `(tactic| first | exact Ext.refl | assumption | (refine Ext.trans ?_ (by assumption); walk_at "ext"))
local macro_rules | `(tactic| walk_at "sm") => `(tactic| first | exact Same.refl _ | assumption | (refine Ext.off ?_ (Fr.mem (by assumption)); walk_at "ext"))
local macro_rules | `(tactic| walk_at "dm") => `(tactic| first | assumption | exact .int _ | exact .bl _ | exact .str _ | exact .non | (refine D.mono (by assumption) ?_; walk_at "sm"))
local macro_rules | `(tactic| walk_at "sd") => `(tactic| first | assumption | rfl | decide | omega | (show _ ≤ 1000; decide))
local macro_rules | `(tactic| walk_at "ea") => `(tactic| first | exact ea_nil | (refine ea_eq ?_ ?_; (walk_at "ev"); (walk_at "ea")))
local macro_rules | `(tactic| walk_at "et") => `(tactic| first
  | (refine et_valE ?_; walk_at "ev") | (refine et_testE ?_; walk_at "ev") | (refine et_notE ?_; walk_at "et")
  | (refine et_andE ?_ (fun _ => ?_); (walk_at "et"); (walk_at "et")) | (refine et_orE ?_ (fun _ => ?_); (walk_at "et"); (walk_at "et")))
local macro_rules | `(tactic| walk_at "ev") => `(tactic| first
  | exact ev_i | exact ev_s | exact ev_b | exact ev_n | exact ev_dnew
  | (refine ev_var rfl ?_; walk_at "dm")
  | (refine ev_tupE ?_ ?_; (walk_at "ea"); (walk_at "sd")) | (refine ev_lstE ?_ ?_; (walk_at "ea"); (walk_at "sd"))
  | (refine ev_negE ?_; walk_at "ev")
  | (refine ev_isiE ?_ ?_; (walk_at "ev"); (walk_at "sd"))
  | (refine ev_lenE ?_ ?_ ?_; (walk_at "ev"); (walk_at "sd"); (walk_at "sd"))
  | (refine ev_atL ?_ ?_ ?_; (walk_at "ev"); (walk_at "ev"); (walk_at "sd")) | (refine ev_atT ?_ ?_ ?_; (walk_at "ev"); (walk_at "ev"); (walk_at "sd"))
  | (refine ev_addE ?_ ?_; (walk_at "ev"); (walk_at "ev")) | (refine ev_cmpE ?_ ?_; (walk_at "ev"); (walk_at "ev")) | (refine ev_i0E ?_ ?_; (walk_at "ev"); (walk_at "ev"))
  | (refine ev_mulE ?_ ?_ ?_; (walk_at "ev"); (walk_at "ev"); (walk_at "sd"))
  | (refine ev_eqIE ?_ ?_; (walk_at "ev"); (walk_at "ev")) | (refine ev_neIE ?_ ?_; (walk_at "ev"); (walk_at "ev"))
  | (refine ev_andE ?_ (fun _ => ?_); (walk_at "ev"); (walk_at "ev")) | (refine ev_orE ?_ (fun _ => ?_); (walk_at "ev"); (walk_at "ev")) | (refine ev_notE ?_; walk_at "ev")
  | (refine ev_fn ?_ ?_; (walk_at "ea"); (walk_at "sd")))
local macro_rules | `(tactic| walk_at "lit") => `(tactic| first | exact ev_i | exact ev_s | exact ev_b | exact ev_n | exact ev_dnew | (refine ev_negE ?_; walk_at "lit") | (refine ev_tupE ?_ (by decide); walk_at "lits") | (refine ev_lstE ?_ (by decide); walk_at "lits") | (refine ev_powE ?_ ?_ ⟨by decide, by decide, by decide⟩ <;> walk_at "lit"))
local macro_rules | `(tactic| walk_at "lits") => `(tactic| first | exact ea_nil | (refine ea_eq ?_ ?_; (walk_at "lit"); (walk_at "lits")))
section
open TL (tl numL)
open NumText (digitsVal AllDigits)
variable {P : Program} {w : World} {K : PySem.W.Frag} {mg : Str → Option Value} {c : Cls} {base : Heap} {a : Addr} {G : Hp} {S : List Addr} {H : Hp}
theorem ok_number_text {f : Addr} {fd : FuncData} (F : Fun K "number_text" "number_text" s_number_text f fd) (T : Txt K mg c) (F_check_numbers : FCn P w K mg base) (F_top_and_low : FTp P w K mg base) :
    FnG P w K mg base CX0 4 f fd ["value"] (spG K preNx (post1 fun d => .str (writtenD d))) := by
  refine fun_okG F sc_number_text (fun vs H Q E h => spG_len (n := 1) (fun ds ⟨d, e, _⟩ => by rw [e]; rfl) h) (fun cdv A outer s H vs Q E hg hr h => ?_)
  obtain ⟨a, S, ds, f, m, ⟨d, rfl, hn⟩, k⟩ := h
  obtain ⟨v, rfl, mv⟩ := DA.one m
  refine ⟨_, (pss_cons (ps_expr (pe_fn F_check_numbers hg (hr.mono (by decide)) (by rfl) pass0 (pa_cons (pe_lst (pa_cons (pv 0) pa_nil)) pa_nil)))
    (pss_cons (ps_asg (pe_fn F_top_and_low hg (hr.mono (by decide)) (by rfl) pass0 (pa_cons (pv 0) pa_nil)) (pg_tupK (K := K) (n := 2) (by rfl) (by rfl) (pgs_cons (pg_name (i := 1) sc_number_text.nd rfl (by first | exact Or.inl rfl | exact Or.inr rfl)) (pgs_cons (pg_name (i := 2) sc_number_text.nd rfl (by first | exact Or.inl rfl | exact Or.inr rfl)) pgs_nil))))
    (pss_one (ps_ret (pe_ifExp (pt_cmpR (kEq (K := K) hr.units) (pv 2) pe_int (nomark _)) (pe_callTy call_str_int (by rfl) T.b_str (by decide +kernel) (pa_cons (pv 1) pa_nil)) (pe_joined (.cons (pe_fmt (pv 1)) (.cons pe_str (.cons (pe_fmt (pv 2)) .nil))))))))), ?_⟩
  refine q_drop (K := K) (σ := [some v, none, none]) (C := fun _ => True) (ev_callG (A1 := (· = [.list [d]])) (ea_eq (ev_lstE (ea_eq (ev_var rfl mv) ea_nil) (by show 1 ≤ 1000; decide)) ea_nil) (fun _ e => ⟨[d], e, fun z mz => by rw [List.mem_singleton.mp mz]; exact hn⟩) fun _ _ _ _ => True.intro) f (Same.refl _) ?_
  intro H1 x1 f1
  have bt : (pairD d).1.natAbs < 2 ^ 1900 := Nat.lt_trans hn.top (Nat.pow_lt_pow_right (by decide) (by decide))
  have bl : (pairD d).2.natAbs < 2 ^ 1900 := Nat.lt_trans hn.low (Nat.pow_lt_pow_right (by decide) (by decide))
  have lt := textI_len (k := 91) (i := (pairD d).1) (by decide) (Nat.lt_trans hn.top pow_300)
  have ll := textI_len (k := 91) (i := (pairD d).2) (by decide) (Nat.lt_trans hn.low pow_300)
  dsimp only
  refine q_unpack (K := K) (d := .int (pairD d).1) (e := .int (pairD d).2) (σ := [some v, none, none]) (ev_tops (ev_var rfl (mv.mono (x1.off f.mem))) hn.rat) f1 (Same.refl _) ?_
  rintro v3 v4 H3 x3 f3 m3 m4
  cases m3
  cases m4
  dsimp only
  refine q_retE (K := K) (σ := [some v, some (.int (pairD d).1), some (.int (pairD d).2)]) (d := .str (writtenD d)) (Ev.imp (ev_ifE (b := decide ((pairD d).2 = 1)) (et_testE (K := K) (ev_eqIE (ev_var rfl (.int _)) ev_i)) (fun _ => ev_strI (K := K) (te := tVar 1) (i := (pairD d).1) (ev_var rfl (.int _)) bt) fun _ => ev_fmt2 (z := slash) (ev_var rfl (.int _)) (ev_var rfl (.int _)) bt bl (by omega) (by omega) (by decide +kernel)) fun z e => ?_) f3 (Same.refl _) fun v5 H4 x4 m5 => k v5 _ H4 (x1.trans (x3.trans x4)) m5 ⟨d, rfl, rfl⟩
  rw [e]
  obtain ⟨_, _, h | h⟩ := rat_pair hn.rat
  · rw [decide_eq_true h.2, if_pos rfl, h.1]
    rfl
  · rw [decide_eq_false (by omega), if_neg (by decide), h.1]
    rfl
theorem ok_setting_text {f : Addr} {fd : FuncData} (F : Fun K "setting_text" "setting_text" s_setting_text f fd) (T : Txt K mg c) (F_is_setting : FSt P w K mg base c.Sheet) (F_number_text : Df P w K mg base CX0 4 "number_text" ["value"] (spG K preNx (post1 fun d => .str (writtenD d)))) (R_InvalidSetting : XR P w K mg base "InvalidSetting" c.InvalidSetting "value") :
    FnG P w K mg base (L2.CX P w) 5 f fd ["sheet", "setting"] (spMX K c.Sheet c.InvalidSetting "value" preSx postSx rpSx) := by
  refine fun_okXG F sc_setting_text (fun vs H Q E h => spMX_len (n := 1) (fun _ ds ⟨_, e, _⟩ => by rw [e]; rfl) h) (fun cdv A outer s H vs Q E hg hr h => ?_)
  obtain ⟨a, S, p, ns, ws, ds, rfl, f, sh, m, ⟨d, rfl, tm, hd⟩, kQ, kE⟩ := h
  obtain ⟨v, rfl, mv⟩ := DA.one m
  refine ⟨_, (pss_cons (ps_if (pt_not (pt_val (pe_fn F_is_setting hg (hr.mono (by decide)) (by rfl) pass0 (pa_cons (pv 0) (pa_cons (pv 1) pa_nil)))))
    (pss_one (ps_rse (by rfl) (takes_of rfl rfl rfl rfl) R_InvalidSetting (hr.mono (by decide)) (by rfl) (pv 1)))
    pss_nil)
    (pss_cons (ps_asg (pv 1) (pg_tupK (K := K) (n := 5) (by rfl) (by rfl) (pgs_cons (pg_name (i := 2) sc_setting_text.nd rfl (by first | exact Or.inl rfl | exact Or.inr rfl)) (pgs_cons (pg_name (i := 3) sc_setting_text.nd rfl (by first | exact Or.inl rfl | exact Or.inr rfl)) (pgs_cons (pg_name (i := 4) sc_setting_text.nd rfl (by first | exact Or.inl rfl | exact Or.inr rfl)) (pgs_cons (pg_name (i := 5) sc_setting_text.nd rfl (by first | exact Or.inl rfl | exact Or.inr rfl)) (pgs_cons (pg_name (i := 6) sc_setting_text.nd rfl (by first | exact Or.inl rfl | exact Or.inr rfl)) pgs_nil)))))))
    (pss_one (ps_ret (pe_joined (.cons (pe_fmt (pv 2)) (.cons pe_str (.cons (pe_fmt (pv 3)) (.cons pe_str (.cons (pe_fmt (pv 4)) (.cons pe_str (.cons (pe_fmt (pv 5)) (.cons pe_str (.cons (pe_fmt (pe_fn F_number_text hg (hr.mono (by decide)) (by rfl) pass0 (pa_cons (pv 6) pa_nil))) .nil)))))))))))))), ?_⟩
  refine q_ifE (σ := [some (.ref p), some v, none, none, none, none, none]) (b := !isSettingD ns d) (et_notE (et_valE (K := K) (ev_callMT (C := c.Sheet) (fn := fun ns d => .bool (isSettingD ns d)) (i := 0) rfl sh (ev_var (i := 1) rfl mv) tm))) f (Same.refl _) (fun H1 x1 f1 e1 => ?_) (fun H1 x1 f1 e1 => ?_)
  · refine q_rse (K := K) (ev_var (i := 1) rfl (mv.mono (x1.off f.mem))) f1 (Same.refl _) ?_
    rintro v' r dd H5 x5 f5 mv' rfl hd' hS
    exact kE v' _ dd H5 (x1.trans x5) mv' ⟨_, rfl, by simpa using e1, rfl⟩ hd' hS
  have hs : isSettingD ns d = true := by simpa using e1
  obtain ⟨r, rfl, h0, h2, h1, hw, hm, hn⟩ := set_row hs
  obtain ⟨bt, bn, lf⟩ := hd r rfl hs
  dsimp only [tNext]
  refine q_unpack5 (K := K) (σ := [some (.ref p), some v, none, none, none, none, none]) (ev_var (i := 1) rfl (mv.mono (x1.off f.mem))) f1 (Same.refl _) ?_
  intro v1 v2 v3 v4 v5 H2 x2 f2 m1 m2 m3 m4 m5
  cases m1
  cases m2
  cases m3
  cases m4
  dsimp only
  have lw := (name_len hw).2
  have l1 := textI_len (k := 1) (i := r.l) (by decide) (by show _ < 10; omega)
  have l2 := textI_len (k := 91) (i := r.t) (by decide) (Nat.lt_trans bt pow_300)
  have l5 := (written_text (k := 91) (by decide) hn (Nat.lt_trans bn.top pow_300) (Nat.lt_trans bn.low pow_300)).len
  refine q_retE (K := K) (σ := [some (.ref p), some v, some (.int r.l), some (.int r.t), some (.str r.w), some (.str r.f), some v5]) (d := .str (noteR r)) (Ev.imp (ev_joined (ys := [Str.ofString (toString r.l), gap, Str.ofString (toString r.t), gap, r.w, gap, r.f, gap, writtenD r.n]) ⟨ev_fmtI (ev_var (i := 2) rfl (.int _)) (Nat.lt_of_le_of_lt (show r.l.natAbs ≤ 2 by omega) (by decide +kernel)), ev_s, ev_fmtI (ev_var (i := 3) rfl (.int _)) (Nat.lt_trans bt (Nat.pow_lt_pow_right (by decide) (by decide))), ev_s, ev_fmtS (ev_var (i := 4) rfl (.str _)) (by omega), ev_s, ev_fmtS (ev_var (i := 5) rfl (.str _)) (by omega), ev_s, ev_fmtS (ev_callG (ea_eq (ev_var (i := 6) rfl m5) ea_nil) (fun _ e => ⟨r.n, e, bn⟩) fun ds z e ⟨d', q, z'⟩ => by
    rw [e] at q
    injection q with q _
    rw [z', q]) (by omega), True.intro⟩ ?_) fun z e => by rw [e, note_joined]) f2 (Same.refl _) fun v6 H3 x3 m6 => kQ v6 _ H3 (x1.trans (x2.trans x3)) m6 ⟨r, rfl, hs, rfl⟩
  have g1 : gap.length = 1 := by decide +kernel
  simp only [List.map_cons, List.map_nil, List.sum_cons, List.sum_nil]
  omega
theorem ok_count_of {f : Addr} {fd : FuncData} (F : Fun K "count_of" "count_of" s_count_of f fd) (T : Txt K mg c) (F_parse_number : DfX P w K mg base (L2.CX P w) 3 "parse_number" ["text"] [] (spPN K c.InvalidText)) (F_is_integer : FIs P w K mg base) : FnG P w K mg base CX0 4 f fd ["word"] (spG K preW1 postCo) := by
  refine fun_okG F sc_count_of (fun vs H Q E h => spG_len (n := 1) (fun ds ⟨_, e, _⟩ => by rw [e]; rfl) h) (fun cdv A outer s H vs Q E hg hr h => ?_)
  have R_InvalidText := ok_InvalidText___init__ (P := P) (w := w) (base := base) T
  obtain ⟨a, S, ds, f, m, ⟨x, rfl, hx⟩, k⟩ := h
  obtain ⟨v, rfl, mv⟩ := DA.one m
  cases mv
  have fin : ∀ {v : V} {d : PyData} {H' : Hp}, Ext a H H' → D K (off S H') v d → d = countD x → Q v H' := fun {v d H'} y m e => k v d H' y m ⟨x, rfl, e⟩
  refine ⟨_, (pss_cons (ps_try_only rfl rfl ⟨rfl, by decide, Or.inl R_InvalidText.c.g⟩ takes0 (fun W pn xe tk _ => (pss_one (ps_set (i := 1) sc_count_of.nd rfl (by first | exact Or.inl rfl | exact Or.inr rfl) (pe_fnX F_parse_number hg (hr.mono (by decide)) (by rfl) (fun σ => passAt tk σ) (pa_cons (pv 0) pa_nil)))))
    (fun a oe cls d pn hz hf => (pss_one (ps_ret pe_non))))
    (pss_one (ps_ret (pe_ifExp (PW.pt (pw_and (pt_val (pe_fn F_is_integer hg (hr.mono (by decide)) (by rfl) pass0 (pa_cons (pv 1) pa_nil))) (pw_and1 (pt_cmpR op_ge (pv 1) pe_int (nomark _))))) (pv 1) pe_non)))), ?_⟩
  refine callX1_ok (K := K) (σ := [some (.str x), none]) (ds := [.str x]) (ea_eq (ev_var rfl (.str x)) ea_nil) f (Same.refl _) ⟨_, rfl, fun y e => by injection e with e; rw [← e]; exact hx⟩ ?_ ?_
  · rintro v d H1 x1 f1 md ⟨d', q, hr'⟩
    injection q with q _
    subst q
    have hp : parseN x = some d := by
      simp only [resN] at hr'
      split at hr'
      · rename_i r h
        injection hr' with hr'
        rw [← hr']
        exact h
      · cases hr'
    dsimp only [gName]
    have ec : countD x = if (isIntD d && nonnegB d) = true then d else .none := by
      unfold countD
      rw [hp]
      cases d with
      | int i =>
        show (if 0 ≤ i then PyData.int i else .none) = if (true && decide (0 ≤ i)) = true then _ else _
        by_cases h0 : 0 ≤ i
        · rw [if_pos h0, decide_eq_true h0]
          rfl
        · rw [if_neg h0, decide_eq_false h0]
          rfl
      | _ => rfl
    refine q_retE (K := K) (σ := [some (.str x), some v]) (d := countD x) (Ev.imp (ev_ifE (b := isIntD d && nonnegB d) (et_andE (et_valE (K := K) (ev_call1 (fn := fun d => .bool (isIntD d)) (ev_var (i := 1) rfl md))) fun hi => ?_) (fun _ => ev_var (i := 1) rfl md) fun _ => ev_n) fun z e => by rw [e, ec]) f1 (Same.refl _) ?_
    rotate_left
    · intro v5 H4 x4 m5
      exact fin (x1.trans x4) m5 rfl
    cases d with
    | int i =>
      cases md
      exact et_testE (K := K) ((ev_cmpE (g := fun i j => decide (j ≤ i)) (ev_var (i := 1) rfl (.int i)) ev_i))
    | _ => cases hi
  · rintro v d dd H1 x1 f1 md ⟨d', n, q, hr', rfl⟩ hd hS
    injection q with q _
    subst q
    have hp : parseN x = none := by
      simp only [resN] at hr'
      split at hr'
      · cases hr'
      · rename_i h
        exact h
    refine ⟨true, T.xc_InvalidText.exm, fun _ a' ha' => ?_, fun z => by cases z⟩
    dsimp only
    refine q_retE (K := K) (σ := [some (.str x), none]) ev_n f1 (Same.refl _) ?_
    intro v5 H4 x4 m5
    refine fin (x1.trans x4) m5 ?_
    unfold countD
    rw [hp]
theorem ok_value_of {f : Addr} {fd : FuncData} (F : Fun K "value_of" "value_of" s_value_of f fd) (T : Txt K mg c) (F_parse_number : DfX P w K mg base (L2.CX P w) 3 "parse_number" ["text"] [] (spPN K c.InvalidText)) : FnG P w K mg base CX0 4 f fd ["word"] (spG K preW1 postVa) := by
  refine fun_okG F sc_value_of (fun vs H Q E h => spG_len (n := 1) (fun ds ⟨_, e, _⟩ => by rw [e]; rfl) h) (fun cdv A outer s H vs Q E hg hr h => ?_)
  have R_InvalidText := ok_InvalidText___init__ (P := P) (w := w) (base := base) T
  obtain ⟨a, S, ds, f, m, ⟨x, rfl, hx⟩, k⟩ := h
  obtain ⟨v, rfl, mv⟩ := DA.one m
  cases mv
  have fin : ∀ {v : V} {d : PyData} {H' : Hp}, Ext a H H' → D K (off S H') v d → d = valueD x → Q v H' := fun {v d H'} y m e => k v d H' y m ⟨x, rfl, e⟩
  refine ⟨_, (pss_one (ps_try_only rfl rfl ⟨rfl, by decide, Or.inl R_InvalidText.c.g⟩ takes0 (fun W pn xe tk _ => (pss_one (ps_ret (pe_fnX F_parse_number hg (hr.mono (by decide)) (by rfl) (fun σ => passAt tk σ) (pa_cons (pv 0) pa_nil)))))
    (fun a oe cls d pn hz hf => (pss_one (ps_ret pe_non))))), ?_⟩
  refine callX1_ok (K := K) (σ := [some (.str x)]) (ds := [.str x]) (ea_eq (ev_var rfl (.str x)) ea_nil) f (Same.refl _) ⟨_, rfl, fun y e => by injection e with e; rw [← e]; exact hx⟩ ?_ ?_
  · rintro v d H1 x1 f1 md ⟨d', q, hr'⟩
    injection q with q _
    subst q
    refine fin x1 md ?_
    simp only [resN] at hr'
    split at hr'
    · rename_i r h
      injection hr' with hr'
      unfold valueD
      rw [h, hr']
      rfl
    · cases hr'
  · rintro v d dd H1 x1 f1 md ⟨d', n, q, hr', rfl⟩ hd hS
    injection q with q _
    subst q
    have hp : parseN x = none := by
      simp only [resN] at hr'
      split at hr'
      · cases hr'
      · rename_i h
        exact h
    refine ⟨true, T.xc_InvalidText.exm, fun _ a' ha' => ?_, fun z => by cases z⟩
    dsimp only
    refine q_retE (K := K) (σ := [some (.str x)]) ev_n f1 (Same.refl _) ?_
    intro v5 H4 x4 m5
    refine fin (x1.trans x4) m5 ?_
    unfold valueD
    rw [hp]
    rfl
end
end K91
set_option Elab.async false
set_option linter.all false
set_option maxRecDepth 100000
set_option maxHeartbeats 1000000
namespace K91
open PySem PySem.Spec L2 LK
open PyProof.Rows hiding St
local macro_rules | `(tactic| walk_at "ext") => `(tactic| first | exact Ext.refl | assumption | (refine Ext.trans ?_ (by assumption); walk_at "ext"))
local macro_rules | `(tactic| walk_at "sm") => `(tactic| first | exact Same.refl _ | assumption | (refine Ext.off ?_ (Fr.mem (by assumption)); walk_at "ext"))
local macro_rules | `(tactic| walk_at "dm") => `(tactic| first | assumption | exact .int _ | exact .bl _ | exact .str _ | exact .non | (refine D.mono (by assumption) ?_; walk_at "sm"))
local macro_rules | `(tactic| walk_at "sd") => `(tactic| first | assumption | rfl | decide | omega | (show _ ≤ 1000; decide))
local macro_rules | `(tactic| walk_at "ea") => `(tactic| first | exact ea_nil | (refine ea_eq ?_ ?_; (walk_at "ev"); (walk_at "ea")))
local macro_rules | `(tactic| walk_at "et") => `(tactic| first
  | (refine et_valE ?_; walk_at "ev") | (refine et_testE ?_; walk_at "ev") | (refine et_notE ?_; walk_at "et")
  | (refine et_andE ?_ (fun _ => ?_); (walk_at "et"); (walk_at "et")) | (refine et_orE ?_ (fun _ => ?_); (walk_at "et"); (walk_at "et")))
local macro_rules | `(tactic| walk_at "ev") => `(tactic| first
  | exact ev_i | exact ev_s | exact ev_b | exact ev_n | exact ev_dnew
  | (refine ev_var rfl ?_; walk_at "dm")
  | (refine ev_tupE ?_ ?_; (walk_at "ea"); (walk_at "sd")) | (refine ev_lstE ?_ ?_; (walk_at "ea"); (walk_at "sd"))
  | (refine ev_negE ?_; walk_at "ev")
  | (refine ev_isiE ?_ ?_; (walk_at "ev"); (walk_at "sd"))
  | (refine ev_lenE ?_ ?_ ?_; (walk_at "ev"); (walk_at "sd"); (walk_at "sd"))
  | (refine ev_atL ?_ ?_ ?_; (walk_at "ev"); (walk_at "ev"); (walk_at "sd")) | (refine ev_atT ?_ ?_ ?_; (walk_at "ev"); (walk_at "ev"); (walk_at "sd"))
  | (refine ev_addE ?_ ?_; (walk_at "ev"); (walk_at "ev")) | (refine ev_cmpE ?_ ?_; (walk_at "ev"); (walk_at "ev")) | (refine ev_i0E ?_ ?_; (walk_at "ev"); (walk_at "ev"))
  | (refine ev_mulE ?_ ?_ ?_; (walk_at "ev"); (walk_at "ev"); (walk_at "sd"))
  | (refine ev_eqIE ?_ ?_; (walk_at "ev"); (walk_at "ev")) | (refine ev_neIE ?_ ?_; (walk_at "ev"); (walk_at "ev"))
  | (refine ev_andE ?_ (fun _ => ?_); (walk_at "ev"); (walk_at "ev")) | (refine ev_orE ?_ (fun _ => ?_); (walk_at "ev"); (walk_at "ev")) | (refine ev_notE ?_; walk_at "ev")
  | (refine ev_fn ?_ ?_; (walk_at "ea"); (walk_at "sd")))
local macro_rules | `(tactic| walk_at "lit") => `(tactic| first | exact ev_i | exact ev_s | exact ev_b | exact ev_n | exact ev_dnew | (refine ev_negE ?_; walk_at "lit") | (refine ev_tupE ?_ (by decide); walk_at "lits") | (refine ev_lstE ?_ (by decide); walk_at "lits") | (refine ev_powE ?_ ?_ ⟨by decide, by decide, by decide⟩ <;> walk_at "lit"))
local macro_rules | `(tactic| walk_at "lits") => `(tactic| first | exact ea_nil | (refine ea_eq ?_ ?_; (walk_at "lit"); (walk_at "lits")))
section
open TL (tl numL)
open NumText (digitsVal AllDigits)
variable {P : Program} {w : World} {K : PySem.W.Frag} {mg : Str → Option Value} {c : Cls} {base : Heap} {a : Addr} {G : Hp} {S : List Addr} {H : Hp}
theorem ok_setting_of {f : Addr} {fd : FuncData} (F : Fun K "setting_of" "setting_of" s_setting_of f fd) (T : Txt K mg c) (F_count_of : Df P w K mg base CX0 4 "count_of" ["word"] (spG K preW1 postCo)) (F_value_of : Df P w K mg base CX0 4 "value_of" ["word"] (spG K preW1 postVa)) (F_is_setting : FSt P w K mg base c.Sheet) :
    FnG P w K mg base CX0 5 f fd ["sheet", "text"] (spM K c.Sheet preSo1 postSo1) := by
  refine fun_okG F sc_setting_of (fun vs H Q E h => spM_len (n := 1) (fun _ ds ⟨_, e, _⟩ => by rw [e]; rfl) h) (fun cdv A outer s H vs Q E hg hr h => ?_)
  obtain ⟨a, S, p, ns, ws, ds, rfl, f, sh, m, ⟨x, rfl, hx⟩, k⟩ := h
  obtain ⟨v, rfl, mv⟩ := DA.one m
  cases mv
  have fin : ∀ {v : V} {d : PyData} {H' : Hp}, Ext a H H' → D K (off S H') v d → d = optD (setOfD ns x) → Q v H' := fun {v d H'} y m e => k v d H' y m ⟨x, rfl, e⟩
  have hl := hx.len
  refine ⟨_, (pss_cons (ps_set (i := 2) sc_setting_of.nd rfl (by first | exact Or.inl rfl | exact Or.inr rfl) (pe_split (pv 1) pe_str))
    (pss_cons (ps_if (pt_cmpR (kNe (K := K) hr.units) (pe_callB (kLen (K := K)) (by rfl) T.b_len (by decide +kernel) (pa_cons (pv 2) pa_nil)) (pe_gI rfl T.g_WORDS_OF_SETTING) (nomark _))
    (pss_one (ps_ret pe_non))
    pss_nil)
    (pss_cons (ps_set (i := 3) sc_setting_of.nd rfl (by first | exact Or.inl rfl | exact Or.inr rfl) (pe_tup (pa_cons (pe_fn F_count_of hg (hr.mono (by decide)) (by rfl) pass0 (pa_cons (pe_ix (kIx (K := K)) (pv 2) pe_int (fun _ _ => rfl)) pa_nil)) (pa_cons (pe_fn F_count_of hg (hr.mono (by decide)) (by rfl) pass0 (pa_cons (pe_ix (kIx (K := K)) (pv 2) pe_int (fun _ _ => rfl)) pa_nil)) (pa_cons (pe_ix (kIx (K := K)) (pv 2) pe_int (fun _ _ => rfl)) (pa_cons (pe_ix (kIx (K := K)) (pv 2) pe_int (fun _ _ => rfl)) (pa_cons (pe_fn F_value_of hg (hr.mono (by decide)) (by rfl) pass0 (pa_cons (pe_ix (kIx (K := K)) (pv 2) pe_int (fun _ _ => rfl)) pa_nil)) pa_nil)))))))
    (pss_one (ps_ret (pe_ifExp (pt_val (pe_fn F_is_setting hg (hr.mono (by decide)) (by rfl) pass0 (pa_cons (pv 0) (pa_cons (pv 3) pa_nil)))) (pv 3) pe_non)))))), ?_⟩
  refine q_setE (K := K) (σ := [some (.ref p), some (.str x), none, none]) (ev_split (y := gap) (ev_var (i := 1) rfl (.str x)) (by decide +kernel) (by omega)) f (Same.refl _) ?_
  intro v2 H1 x1 f1 m2
  have ss := split_sum x
  have e2 : ∀ {G : Hp} {u : Option V}, Same (off S H1) G → Ev K a G (tVar 2) [some (.ref p), some (.str x), some v2, u] (· = .list ((Txt.split x gap).map .str)) := fun {G u} s => ev_var (i := 2) rfl (m2.mono s)
  dsimp only
  refine q_ifE (σ := [some (.ref p), some (.str x), some v2, none]) (b := !decide (((Txt.split x gap).length : Int) = 5)) (et_testE (K := K) (ev_neIE (ev_lenE (n := (Txt.split x gap).length) (e2 (Same.refl _)) (by rw [lenD, List.length_map]) (by omega)) ev_i)) f1 (Same.refl _) (fun H2 x2 f2 e3 => ?_) (fun H2 x2 f2 e3 => ?_)
  · refine q_retE (K := K) (σ := [some (.ref p), some (.str x), some v2, none]) ev_n f2 (Same.refl _) fun v5 H4 x4 m5 => fin (x1.trans (x2.trans x4)) m5 ?_
    have hne : (Txt.split x gap).length ≠ 5 := fun z => by
      rw [decide_eq_true (by omega)] at e3
      cases e3
    unfold setOfD
    split
    · rename_i hs
      rw [hs] at hne
      exact absurd rfl hne
    · rfl
  have h5 : (Txt.split x gap).length = 5 := by
    by_cases z : ((Txt.split x gap).length : Int) = 5
    · omega
    · rw [decide_eq_false z] at e3
      cases e3
  obtain ⟨wa, wb, wc, wd, we, hs⟩ : ∃ wa wb wc wd we, Txt.split x gap = [wa, wb, wc, wd, we] := by
    match hw : Txt.split x gap, h5 with
    | [wa, wb, wc, wd, we], _ => exact ⟨_, _, _, _, _, rfl⟩
  have hw : ∀ w ∈ [wa, wb, wc, wd, we], TextOk 200 w := fun w mw => hx.word (by rw [hs]; exact mw)
  have s2 := x2.off f1.mem
  have ix : ∀ {i : Int} {w : Str}, atI ([.str wa, .str wb, .str wc, .str wd, .str we] : List PyData) i = some (.str w) → Ev K a (off S H2) (tOp (rIx K) (tVar 2) (tC (.int i))) [some (.ref p), some (.str x), some v2, none] (· = .str w) := fun h => ev_atL (Ev.imp (e2 s2) fun d e => by rw [e, hs]; rfl) ev_i h
  have co : ∀ {i : Int} {w : Str} {E : XK}, atI ([.str wa, .str wb, .str wc, .str wd, .str we] : List PyData) i = some (.str w) → w.length ≤ 200 → Ev K a (off S H2) (tCall (spG K preW1 postCo) [] E (tCons (tOp (rIx K) (tVar 2) (tC (.int i))) tNil)) [some (.ref p), some (.str x), some v2, none] (· = countD w) := fun h hl => ev_callE (ea_eq (ix h) ea_nil) ⟨_, rfl, hl⟩ fun r ⟨w', q, z⟩ => by
    injection q with q _
    injection q with q
    rw [z, q]
  have va : ∀ {i : Int} {w : Str} {E : XK}, atI ([.str wa, .str wb, .str wc, .str wd, .str we] : List PyData) i = some (.str w) → w.length ≤ 200 → Ev K a (off S H2) (tCall (spG K preW1 postVa) [] E (tCons (tOp (rIx K) (tVar 2) (tC (.int i))) tNil)) [some (.ref p), some (.str x), some v2, none] (· = valueD w) := fun h hl => ev_callE (ea_eq (ix h) ea_nil) ⟨_, rfl, hl⟩ fun r ⟨w', q, z⟩ => by
    injection q with q _
    injection q with q
    rw [z, q]
  dsimp only [tNext]
  refine q_setE (K := K) (σ := [some (.ref p), some (.str x), some v2, none]) (d := five wa wb wc wd we) (ev_tupE (ea_eq (co rfl (hw wa (by simp)).len) (ea_eq (co rfl (hw wb (by simp)).len) (ea_eq (ix rfl) (ea_eq (ix rfl) (ea_eq (va rfl (hw we (by simp)).len) ea_nil))))) (by show 5 ≤ 1000; decide)) f2 (Same.refl _) ?_
  intro v3 H3 x3 f3 m3
  have x03 := x1.trans (x2.trans x3)
  have tm : Tame (five wa wb wc wd we) := (five_sz (hw wa (by simp)).len (hw wb (by simp)).len (hw wc (by simp)) (hw wd (by simp)) (hw we (by simp)).len).tame
  dsimp only
  refine q_retE (K := K) (σ := [some (.ref p), some (.str x), some v2, some v3]) (d := optD (setOfD ns x)) (Ev.imp (ev_ifE (b := isSettingD ns (five wa wb wc wd we)) (et_valE (K := K) (ev_callMT (C := c.Sheet) (fn := fun ns d => .bool (isSettingD ns d)) (i := 0) rfl (sh.mono (x03.off f.mem)) (ev_var (i := 3) rfl m3) tm)) (fun _ => ev_var (i := 3) rfl m3) fun _ => ev_n) fun z e => ?_) f3 (Same.refl _) fun v5 H4 x4 m5 => fin (x03.trans x4) m5 rfl
  rw [e]
  unfold setOfD
  rw [hs]
  show _ = optD (if isSettingD ns (five wa wb wc wd we) = true then some (five wa wb wc wd we) else none)
  split <;> rfl
theorem ok_parse_setting {f : Addr} {fd : FuncData} (F : Fun K "parse_setting" "parse_setting" s_parse_setting f fd) (T : Txt K mg c) (F_setting_of : Df P w K mg base CX0 5 "setting_of" ["sheet", "text"] (spM K c.Sheet preSo1 postSo1)) (R_InvalidText : XR P w K mg base "InvalidText" c.InvalidText "line") :
    FnG P w K mg base (L2.CX P w) 6 f fd ["sheet", "text"] (spMX K c.Sheet c.InvalidText "line" prePs postPs rpPs) := by
  refine fun_okXG F sc_parse_setting (fun vs H Q E h => spMX_len (n := 1) (fun _ ds ⟨_, e, _⟩ => by rw [e]; rfl) h) (fun cdv A outer s H vs Q E hg hr h => ?_)
  obtain ⟨a, S, p, ns, ws, ds, rfl, f, sh, m, ⟨d, rfl, hd⟩, kQ, kE⟩ := h
  obtain ⟨v, rfl, mv⟩ := DA.one m
  refine ⟨_, (pss_cons (ps_if (pt_not (pt_val (pe_callB (kIsi (K := K)) (by rfl) T.b_isinstance (by decide +kernel) (pa_cons (pv 1) (pa_cons (pe_bltn (v := .ty "str") (by rfl) T.b_str (by decide +kernel) rfl) pa_nil)))))
    (pss_one (ps_rse (by rfl) (takes_of rfl rfl rfl rfl) R_InvalidText (hr.mono (by decide)) (by rfl) pe_int))
    pss_nil)
    (pss_cons (ps_set (i := 2) sc_parse_setting.nd rfl (by first | exact Or.inl rfl | exact Or.inr rfl) (pe_fn F_setting_of hg (hr.mono (by decide)) (by rfl) pass0 (pa_cons (pv 0) (pa_cons (pv 1) pa_nil))))
    (pss_cons (ps_if (pt_cmpR op_isN (pv 2) pe_non (nomark _))
    (pss_one (ps_rse (by rfl) (takes_of rfl rfl rfl rfl) R_InvalidText (hr.mono (by decide)) (by rfl) pe_int))
    pss_nil)
    (pss_one (ps_ret (pv 2)))))), ?_⟩
  refine q_ifE (σ := [some (.ref p), some v, none]) (b := !isStrD d) (et_notE (et_valE (K := K) (ev_isStrE (ev_var (i := 1) rfl mv)))) f (Same.refl _) (fun H1 x1 f1 e1 => ?_) (fun H1 x1 f1 e1 => ?_)
  · refine q_rse (K := K) ev_i f1 (Same.refl _) ?_
    rintro v' r dd H5 x5 f5 mv' rfl hd' hS
    exact kE v' _ dd H5 (x1.trans x5) mv' (.inl ⟨d, rfl, by simpa using e1, rfl⟩) hd' hS
  obtain ⟨x, rfl⟩ := str_of (by simpa using e1 : isStrD d = true)
  have hx := hd x rfl
  have s1 := x1.off f.mem
  dsimp only [tNext]
  refine q_setE (K := K) (σ := [some (.ref p), some v, none]) (d := optD (setOfD ns x)) (ev_callM (C := c.Sheet) (i := 0) rfl (sh.mono s1) (ea_eq (ev_var (i := 1) rfl (mv.mono s1)) ea_nil) (fun _ e => ⟨x, e, hx⟩) fun ds r e ⟨x', q, z⟩ => by
    rw [e] at q
    injection q with q _
    injection q with q
    rw [z, q]) f1 (Same.refl _) ?_
  intro v2 H2 x2 f2 m2
  dsimp only
  refine q_ifE (σ := [some (.ref p), some v, some v2]) (b := noneD (optD (setOfD ns x))) (et_testE (K := K) (ev_isN (ev_var (i := 2) rfl m2))) f2 (Same.refl _) (fun H3 x3 f3 e3 => ?_) (fun H3 x3 f3 e3 => ?_)
  · refine q_rse (K := K) ev_i f3 (Same.refl _) ?_
    rintro v' r dd H5 x5 f5 mv' rfl hd' hS
    refine kE v' _ dd H5 (x1.trans (x2.trans (x3.trans x5))) mv' (.inr ⟨x, rfl, ?_, rfl⟩) hd' hS
    exact opt_none e3
  · dsimp only [tNext]
    refine q_retE (K := K) (σ := [some (.ref p), some v, some v2]) (ev_var (i := 2) rfl (m2.mono (x3.off f2.mem))) f3 (Same.refl _) fun v5 H4 x4 m5 => kQ v5 _ H4 (x1.trans (x2.trans (x3.trans x4))) m5 ⟨x, rfl, ?_⟩
    exact opt_some e3
end
end K91
set_option Elab.async false
set_option linter.all false
set_option maxRecDepth 100000
set_option maxHeartbeats 1000000
namespace K91
open PySem PySem.Spec L2 LK
open PyProof.Rows hiding St
local macro_rules | `(tactic| walk_at "ext") => `(tactic| first | exact Ext.refl | assumption | (refine Ext.trans ?_ (by assumption); walk_at "ext"))
local macro_rules | `(tactic| walk_at "sm") => `(tactic| first | exact Same.refl _ | assumption | (refine Ext.off ?_ (Fr.mem (by assumption)); walk_at "ext"))
local macro_rules | `(tactic| walk_at "dm") => `(tactic| first | assumption | exact .int _ | exact .bl _ | exact .str _ | exact .non | (refine D.mono (by assumption) ?_; walk_at "sm"))
local macro_rules | `(tactic| walk_at "sd") => `(tactic| first | assumption | rfl | decide | omega | (show _ ≤ 1000; decide))
local macro_rules | `(tactic| walk_at "ea") => `(tactic| first | exact ea_nil | (refine ea_eq ?_ ?_; (walk_at "ev"); (walk_at "ea")))
local macro_rules | `(tactic| walk_at "et") => `(tactic| first
  | (refine et_valE ?_; walk_at "ev") | (refine et_testE ?_; walk_at "ev") | (refine et_notE ?_; walk_at "et")
  | (refine et_andE ?_ (fun _ => ?_); (walk_at "et"); (walk_at "et")) | (refine et_orE ?_ (fun _ => ?_); (walk_at "et"); (walk_at "et")))
local macro_rules | `(tactic| walk_at "ev") => `(tactic| first
  | exact ev_i | exact ev_s | exact ev_b | exact ev_n | exact ev_dnew
  | (refine ev_var rfl ?_; walk_at "dm")
  | (refine ev_tupE ?_ ?_; (walk_at "ea"); (walk_at "sd")) | (refine ev_lstE ?_ ?_; (walk_at "ea"); (walk_at "sd"))
  | (refine ev_negE ?_; walk_at "ev")
  | (refine ev_isiE ?_ ?_; (walk_at "ev"); (walk_at "sd"))
  | (refine ev_lenE ?_ ?_ ?_; (walk_at "ev"); (walk_at "sd"); (walk_at "sd"))
  | (refine ev_atL ?_ ?_ ?_; (walk_at "ev"); (walk_at "ev"); (walk_at "sd")) | (refine ev_atT ?_ ?_ ?_; (walk_at "ev"); (walk_at "ev"); (walk_at "sd"))
  | (refine ev_addE ?_ ?_; (walk_at "ev"); (walk_at "ev")) | (refine ev_cmpE ?_ ?_; (walk_at "ev"); (walk_at "ev")) | (refine ev_i0E ?_ ?_; (walk_at "ev"); (walk_at "ev"))
  | (refine ev_mulE ?_ ?_ ?_; (walk_at "ev"); (walk_at "ev"); (walk_at "sd"))
  | (refine ev_eqIE ?_ ?_; (walk_at "ev"); (walk_at "ev")) | (refine ev_neIE ?_ ?_; (walk_at "ev"); (walk_at "ev"))
  | (refine ev_andE ?_ (fun _ => ?_); (walk_at "ev"); (walk_at "ev")) | (refine ev_orE ?_ (fun _ => ?_); (walk_at "ev"); (walk_at "ev")) | (refine ev_notE ?_; walk_at "ev")
  | (refine ev_fn ?_ ?_; (walk_at "ea"); (walk_at "sd")))
local macro_rules | `(tactic| walk_at "lit") => `(tactic| first | exact ev_i | exact ev_s | exact ev_b | exact ev_n | exact ev_dnew | (refine ev_negE ?_; walk_at "lit") | (refine ev_tupE ?_ (by decide); walk_at "lits") | (refine ev_lstE ?_ (by decide); walk_at "lits") | (refine ev_powE ?_ ?_ ⟨by decide, by decide, by decide⟩ <;> walk_at "lit"))
local macro_rules | `(tactic| walk_at "lits") => `(tactic| first | exact ea_nil | (refine ea_eq ?_ ?_; (walk_at "lit"); (walk_at "lits")))
section
open TL (tl numL)
open NumText (digitsVal AllDigits)
variable {P : Program} {w : World} {K : PySem.W.Frag} {mg : Str → Option Value} {c : Cls} {base : Heap} {a : Addr} {G : Hp} {S : List Addr} {H : Hp}
theorem ok_l_pot {f : Addr} {fd : FuncData} (F : Fun K "_law_pot" "_law_pot" s_l_pot f fd) (T : Txt K mg c) : FnG P w K mg base CX0 1 f fd ["_law_script", "_law_k"] (spPot K) := by
  refine fun_okG F sc_l_pot (fun vs H Q E h => ?_) (fun cdv A outer s H vs Q E hg hr h => ?_)
  · obtain ⟨s, ns, k, rfl, _⟩ := h
    rfl
  obtain ⟨s, ns, k, rfl, hs, hk, q⟩ := h
  refine ⟨_, (pss_cons (ps_set (i := 2) sc_l_pot.nd rfl (by first | exact Or.inl rfl | exact Or.inr rfl) (pe_ifExp (pt_cmpR op_lt (pv 1) (pe_callB (kLen (K := K)) (by rfl) T.b_len (by decide +kernel) (pa_cons (pv 0) pa_nil)) (nomark _)) (pe_ix (kIx (K := K)) (pv 0) (pv 1) (fun _ _ => rfl)) pe_int))
    (pss_one (ps_ret (pe_lst (pa_cons (pe_callB (call_max2 rfl) (by rfl) T.b_max (by decide +kernel) (pa_cons pe_int (pa_cons (pe_op op_sub (pe_callB call_abs (by rfl) T.b_abs (by decide +kernel) (pa_cons (pv 2) pa_nil)) (pe_op op_pow pe_int pe_int)) pa_nil))) (pa_cons (pe_op op_mod (pe_op (kAdd (K := K)) (pe_op (kAdd (K := K)) (pe_op oMul (pe_op op_mod (pe_callB call_abs (by rfl) T.b_abs (by decide +kernel) (pa_cons (pv 2) pa_nil)) pe_int) pe_int) (pe_op oMul pe_int (pv 1))) pe_int) pe_int) pa_nil)))))), ?_⟩
  -- behind the first row: some int
  have rest : ∀ z : Int, (tRet (tLst (tCons (tCB (fun xs H Q => ∃ i j, xs = [V.int i, V.int j] ∧ Q (V.int (if j > i then j else i)) H) (tCons (tC (.int 0)) (tCons (tOp (rI0 fun i j => .int (i - j)) (tCB (fun xs H Q => ∃ i, xs = [V.int i] ∧ Q (V.int (if i < 0 then -i else i)) H) (tCons (tVar 2) tNil)) (tOp (rI CPow fun i j => .int (i ^ j.toNat)) (tC (.int 10)) (tC (.int 18)))) tNil)))
      (tCons (tOp (rI (fun _ j => 0 < j) fun i j => .int (i % j)) (tOp (rAddA K) (tOp (rAddA K) (tOp rMulA (tOp (rI (fun _ j => 0 < j) fun i j => .int (i % j)) (tCB (fun xs H Q => ∃ i, xs = [V.int i] ∧ Q (V.int (if i < 0 then -i else i)) H) (tCons (tVar 2) tNil)) (tC (.int 2147483587))) (tC (.int 48271))) (tOp rMulA (tC (.int 60013)) (tVar 1))) (tC (.int 29))) (tC (.int 2147483647))) tNil))))
      { nx := fun _ H' => Q .non H', rt := Q } [some (.ref s), some (.int (k : Nat)), some (.int z)] H := by
    intro z
    refine ⟨.int z, rfl, z, rfl, 10, 18, rfl, rfl, ⟨by decide, by decide, by decide⟩, _, _, rfl, rfl, 0, _, rfl, ?_⟩
    refine ⟨.int z, rfl, z, rfl, _, 2147483587, rfl, rfl, (by show (0 : Int) < 2147483587; decide), .inl ⟨_, 48271, rfl, rfl, ?_, _, rfl, .inl ⟨60013, _, rfl, rfl, ?_, .inl ⟨_, _, rfl, rfl, .inl ⟨_, 29, rfl, rfl, _, 2147483647, rfl, rfl, (by show (0 : Int) < 2147483647; decide), ?_⟩⟩⟩⟩⟩
    · refine mulx_ok (a := 31) (b := 16) ?_ (by decide) (by decide)
      split <;> omega
    · refine mulx_ok (a := 16) (b := 16) (by decide) ?_ (by decide)
      omega
    · refine ⟨by show 2 ≤ sizeLine; decide, fun p hp => ?_⟩
      refine q p _ (same_new hp) hp ⟨_, _, upd_same, ?_, ?_, ?_⟩
      · split <;> omega
      · exact Int.emod_nonneg _ (by decide)
      · exact Int.lt_trans (Int.emod_lt_of_pos _ (by decide)) (by decide)
  refine ⟨.int (k : Nat), rfl, .ref s, rfl, .ref s, _, rfl, .inl ⟨_, hs, rfl⟩, _, _, rfl, rfl, _, rfl, ite2 (fun e => ?_) (fun e => ?_)⟩
  · have e' := of_decide_eq_true e
    rw [List.length_map] at e'
    have hk' : k < ns.length := by omega
    exact ⟨.ref s, rfl, .int (k : Nat), rfl, .inl ⟨s, _, (k : Nat), .int ns[k], rfl, rfl, hs, atI_nat (by rw [List.getElem?_map, List.getElem?_eq_getElem hk']; rfl), rest _⟩⟩
  · exact rest 0
theorem ok_l_draw {f : Addr} {fd : FuncData} (F : Fun K "_law_draw" "_law_draw" s_l_draw f fd) (T : Txt K mg c) : FnG P w K mg base CX0 1 f fd ["_law_pot_here", "_law_many"] (spP K preD postD) := by
  refine fun_okG F sc_l_draw (fun vs H Q E h => spP_len (n := 1) (fun ds ⟨m, e, _⟩ => by rw [e]; rfl) h) (fun cdv A outer s H vs Q E hg hr h => ?_)
  obtain ⟨a, S, ws, ds, rfl, f, m, ⟨n, rfl, n0, n1⟩, k⟩ := h
  obtain ⟨v, rfl, mv⟩ := DA.one m
  cases mv
  obtain ⟨p, q, hp, p0, q0, q1⟩ := f.pot
  have small : ∀ i : Int, CDivW i n := fun i => wide_div (b := 200) n0 (by omega) (by decide) (by decide)
  refine ⟨_, (pss_cons (ps_if (pt_cmpR op_gt (pe_ix (kIx (K := K)) (pv 0) pe_int (fun _ _ => rfl)) pe_int (nomark _))
    (pss_cons (ps_asg (pe_callB call_divmodX (by rfl) T.b_divmod (by decide +kernel) (pa_cons (pe_ix (kIx (K := K)) (pv 0) pe_int (fun _ _ => rfl)) (pa_cons (pv 1) pa_nil))) (pg_tupK (K := K) (n := 2) (by rfl) (by rfl) (pgs_cons (pg_sub (pv 0) pe_int set_list) (pgs_cons (pg_name (i := 2) sc_l_draw.nd rfl (by first | exact Or.inl rfl | exact Or.inr rfl)) pgs_nil))))
    (pss_one (ps_ret (pv 2))))
    pss_nil)
    (pss_cons (ps_asg (pe_op op_mod (pe_op (kAdd (K := K)) (pe_op oMul (pe_ix (kIx (K := K)) (pv 0) pe_int (fun _ _ => rfl)) pe_int) pe_int) pe_int) (pg_sub (pv 0) pe_int set_list))
    (pss_one (ps_ret (pe_op op_mod (pe_op op_fdivW (pe_op op_mod (pe_op oMul (pe_ix (kIx (K := K)) (pv 0) pe_int (fun _ _ => rfl)) (pe_ix (kIx (K := K)) (pv 0) pe_int (fun _ _ => rfl))) pe_int) pe_int) (pv 1)))))), ?_⟩
  refine ⟨.ref a, rfl, .inl ⟨a, _, 0, .int p, rfl, rfl, SqL.of hp, rfl, p, 0, rfl, rfl, _, rfl, ite2 (fun e => ?_) (fun e => ?_)⟩⟩
  · refine ⟨.ref a, rfl, .inl ⟨a, _, 0, .int p, rfl, rfl, SqL.of hp, rfl, .int n, rfl, p, n, rfl, small p, fun t ht => ?_⟩⟩
    have nat : a ≠ t := ne_of_none hp ht
    have hp2 : upd H t (.tup [.int (p / n), .int (p % n)]) a = some (.lst [.int p, .int q]) := by
      rw [upd_ne nat]
      exact hp
    refine ⟨t, _, rfl, SqT.of upd_same, rfl, _, _, rfl, ⟨.ref a, rfl, a, _, 0, 0, rfl, rfl, hp2, rfl, _, _, rfl, rfl, ?_⟩⟩
    refine ⟨.int (p % n), rfl, k _ (.int (p % n)) _ ⟨fun b o nb e => ?_, fun _ => ?_⟩ (.int _) ⟨n, _, rfl, rfl, Int.emod_nonneg _ (by omega), Int.emod_lt_of_pos _ n0⟩⟩
    · rw [upd_ne nb]
      exact same_new ht _ _ e
    · exact ⟨_, q, upd_same, Int.ediv_nonneg p0 (by omega), q0, q1⟩
  · refine ⟨.ref a, rfl, .inl ⟨a, _, 1, .int q, rfl, rfl, SqL.of hp, rfl, .inl ⟨q, 39373, rfl, rfl, mulx_ok (a := 31) (b := 16) (by omega) (by decide) (by decide), .inl ⟨_, 12227, rfl, rfl, _, 2147483629, rfl, rfl, (by show (0 : Int) < 2147483629; decide), ?_⟩⟩⟩⟩
    refine ⟨.ref a, rfl, a, _, 1, 1, rfl, rfl, hp, rfl, ?_⟩
    dsimp only
    have y0 : 0 ≤ (q * 39373 + 12227) % 2147483629 := Int.emod_nonneg _ (by decide)
    have y1 : (q * 39373 + 12227) % 2147483629 < 2147483629 := Int.emod_lt_of_pos _ (by decide)
    generalize (q * 39373 + 12227) % 2147483629 = y at y0 y1
    have hp2 : upd H a (.lst ([V.int p, .int q].set 1 (.int y))) a = some (.lst [.int p, .int y]) := upd_same
    refine ⟨.ref a, rfl, .inl ⟨a, _, 1, .int y, rfl, rfl, SqL.of hp2, rfl, .ref a, rfl, .inl ⟨a, _, 1, .int y, rfl, rfl, SqL.of hp2, rfl, ?_⟩⟩⟩
    refine .inl ⟨y, y, rfl, rfl, mulx_ok (a := 31) (b := 31) (by omega) (by omega) (by decide), _, 2147483563, rfl, rfl, (by show (0 : Int) < 2147483563; decide), _, 13, rfl, rfl, wide_div (b := 4) (by decide) (by decide) (by decide) (by decide), .int n, rfl, _, n, rfl, rfl, n0, ?_⟩
    refine k _ (.int _) _ ⟨fun b o nb e => ?_, fun _ => ?_⟩ (.int _) ⟨n, _, rfl, rfl, Int.emod_nonneg _ (by omega), Int.emod_lt_of_pos _ n0⟩
    · rw [upd_ne nb]
      exact e
    · exact ⟨p, y, hp2, p0, y0, by omega⟩
theorem ok_l_common {f : Addr} {fd : FuncData} (F : Fun K "_law_common" "_law_common" s_l_common f fd) (T : Txt K mg c) : FnG P w K mg base CX0 1 f fd ["_law_a", "_law_b"] (spG K (preI fun _ y => 0 ≤ y) (postI gcdP)) := by
  refine fun_okG F sc_l_common (fun vs H Q E h => spG_len (fun _ => preI_len) h) (fun cdv A outer s H vs Q E hg hr h => ?_)
  obtain ⟨a, S, ds, f, m, ⟨x, y, rfl, hy⟩, k⟩ := h
  obtain ⟨v1, v2, rfl, m1, m2⟩ := DA.two m
  cases m1
  cases m2
  refine ⟨_, (pss_cons (ps_while PassesOwn.never (pt_cmpR (kNe (K := K) hr.units) (pv 1) pe_int (nomark _))
    (pss_one (ps_par (i := 0) (j := 1) (by rfl) sc_l_common.nd rfl rfl (by decide) rfl rfl (pa_cons (pv 1) (pa_cons (pe_op op_mod (pv 0) (pv 1)) pa_nil)) (by rfl))))
    (pss_one (ps_ret (pe_callB call_abs (by rfl) T.b_abs (by decide +kernel) (pa_cons (pv 0) pa_nil))))), ?_⟩
  refine rd_gcd (σ := fun f s => [some (.int f), some (.int s)]) (fun _ _ => rfl) (fun _ _ => rfl) (fun _ _ _ _ => rfl) hy ?_
  intro g e _
  refine q_ret (K := K) (σ := [some (.int g), some (.int 0)]) (ev_abs (ev_var rfl (.int g))) f (Same.refl _) ?_
  rintro v _ H1 x1 mv rfl
  refine k _ _ H1 x1 mv ⟨x, y, rfl, ?_⟩
  rw [e]
  rfl
theorem ok_l_ratio {f : Addr} {fd : FuncData} (F : Fun K "_law_ratio" "_law_ratio" s_l_ratio f fd) (T : Txt K mg c) (F_l_common : FCm P w K mg base) :
    FnG P w K mg base CX0 2 f fd ["_law_top", "_law_low"] (spG K (preI small2) (postI ratioD)) := by
  refine fun_okG F sc_l_ratio (fun vs H Q E h => spG_len (fun _ => preI_len) h) (fun cdv A outer s H vs Q E hg hr h => ?_)
  obtain ⟨a, S, ds, f, m, ⟨x, y, rfl, hs⟩, k⟩ := h
  obtain ⟨v1, v2, rfl, m1, m2⟩ := DA.two m
  cases m1
  cases m2
  refine ⟨_, (pss_cons (ps_if (pt_cmpR op_lt (pv 1) pe_int (nomark _))
    (pss_one (ps_par (i := 0) (j := 1) (by rfl) sc_l_ratio.nd rfl rfl (by decide) rfl rfl (pa_cons (pe_un un_neg (pv 0)) (pa_cons (pe_un un_neg (pv 1)) pa_nil)) (by rfl)))
    pss_nil)
    (pss_cons (ps_set (i := 2) sc_l_ratio.nd rfl (by first | exact Or.inl rfl | exact Or.inr rfl) (pe_fn F_l_common hg (hr.mono (by decide)) (by rfl) pass0 (pa_cons (pv 0) (pa_cons (pv 1) pa_nil))))
    (pss_one (ps_ret (pe_ifExp (pt_cmpR (kEq (K := K) hr.units) (pv 1) (pv 2) (nomark _)) (pe_op op_fdivW (pv 0) (pv 2)) (pe_tup (pa_cons (pe_op op_fdivW (pv 0) (pv 2)) (pa_cons (pe_op op_fdivW (pv 1) (pv 2)) pa_nil)))))))), ?_⟩
  -- behind the signs: t over l, l > 0
  have rest : ∀ (t l : Int) (H' : Hp), Ext a H H' → Fr a S H' → small2 t l → 0 < l → (if l = (Int.gcd t l : Nat) then PyData.int (t / (Int.gcd t l : Nat)) else .tuple [.int (t / (Int.gcd t l : Nat)), .int (l / (Int.gcd t l : Nat))]) = ratioD x y →
      tSeq (tAsg (tCall (spG K (preI fun _ y => 0 ≤ y) (postI gcdP)) [] E0 (tCons (tVar 0) (tCons (tVar 1) tNil))) (gName 2)) (tRet (tIf (tTest (tOp (rEqA K) (tVar 1) (tVar 2))) (tOp (rI CDivW fun i j => .int (i / j)) (tVar 0) (tVar 2)) (tTup (tCons (tOp (rI CDivW fun i j => .int (i / j)) (tVar 0) (tVar 2)) (tCons (tOp (rI CDivW fun i j => .int (i / j)) (tVar 1) (tVar 2)) tNil)))))
        { nx := fun _ H' => Q .non H', rt := Q } [some (.int t), some (.int l), none] H' := by
    intro t l H' x' f' hs' hl e
    obtain ⟨g1, g2⟩ := gcd_small hs'
    refine q_set (K := K) (σ := [some (.int t), some (.int l), none]) (ev_callI (g := gcdP) (ev_var rfl (.int t)) (ev_var rfl (.int l)) (Int.le_of_lt hl)) f' (Same.refl _) ?_
    rintro _ _ H2 x2 f2 mg' rfl
    cases mg'
    generalize hg' : ((Int.gcd t l : Nat) : Int) = g at *
    have gp : 0 < g := by omega
    have cd : ∀ i : Int, CDivW i g := fun i => wide_div (b := 4000) gp (by omega) (by decide) (by decide)
    refine q_ret (K := K) (σ := [some (.int t), some (.int l), some (.int g)]) (C := (· = ratioD x y)) (ev_if (B := (· = decide (l = g))) (et_test (ev_eqI (cI := (· = l)) (cJ := (· = g)) (ev_isI (ev_var rfl (.int l)) rfl) (ev_isI (ev_var rfl (.int g)) rfl) ?_))
      (fun h => Ev.imp (ev_divE (ev_var rfl (.int t)) (ev_var rfl (.int g)) (cd _)) ?_) (fun h => Ev.imp (ev_tupE (ea_eq (ev_divE (ev_var rfl (.int t)) (ev_var rfl (.int g)) (cd _)) (ea_eq (ev_divE (ev_var rfl (.int l)) (ev_var rfl (.int g)) (cd _)) ea_nil)) (by show 2 ≤ 1000; decide)) ?_)) f2 (Same.refl _) ?_
    · rintro _ _ rfl rfl
      rfl
    · rintro _ rfl
      rw [← e, if_pos (of_decide_eq_true h.symm)]
    · rintro _ rfl
      rw [← e, if_neg (of_decide_eq_false h.symm)]
    · rintro v _ H3 x3 mv rfl
      exact k _ _ H3 ((x'.trans x2).trans x3) mv ⟨x, y, rfl, rfl⟩
  obtain ⟨h0, h1, h2⟩ := hs
  refine q_if (σ := [some (.int x), some (.int y), none]) (B := (· = decide (y < 0))) (et_test (ev_cmpI (K := K) (g := fun i j => decide (i < j)) (cI := (· = y)) (cJ := (· = 0)) (ev_isI (ev_var rfl (.int y)) rfl) (ev_isI ev_i rfl) ?_)) f (Same.refl _) (fun H1 x1 f1 e1 => ?_) (fun H1 x1 f1 e1 => ?_)
  · rintro _ _ rfl rfl
    rfl
  · have hy : y < 0 := of_decide_eq_true e1.symm
    refine q_par (K := K) (σ := [some (.int x), some (.int y), none]) (ev_negE (ev_var rfl (.int x))) (ev_negE (ev_var rfl (.int y))) f1 (Same.refl _) ?_
    rintro _ _ _ _ H2 x2 f2 ma mb rfl rfl
    cases ma
    cases mb
    refine rest (-x) (-y) H2 (x1.trans x2) f2 ⟨by omega, by omega, by omega⟩ (by omega) ?_
    unfold ratioD
    simp only [if_pos hy]
  · have hy : ¬ y < 0 := of_decide_eq_false e1.symm
    refine rest x y H1 x1 f1 ⟨h0, h1, h2⟩ (by omega) ?_
    unfold ratioD
    simp only [if_neg hy]
theorem ok_l_worth {f : Addr} {fd : FuncData} (F : Fun K "_law_worth" "_law_worth" s_l_worth f fd) (T : Txt K mg c) (F_l_draw : DfD P w K mg base) (F_l_ratio : FRa P w K mg base) :
    FnG P w K mg base CX0 3 f fd ["_law_pot_here"] (spP K (fun ds => ds = []) (fun _ r => Num 100 r)) := by
  refine fun_okG F sc_l_worth (fun vs H Q E h => spP_len (n := 0) (fun ds e => by rw [e]; rfl) h) (fun cdv A outer s H vs Q E hg hr h => ?_)
  obtain ⟨a, S, ws, ds, rfl, f, m, rfl, k⟩ := h
  cases m
  refine ⟨_, (pss_cons (ps_par (i := 1) (j := 2) (by rfl) sc_l_worth.nd rfl rfl (by decide) rfl rfl (pa_cons (pe_fn F_l_draw hg (hr.mono (by decide)) (by rfl) pass0 (pa_cons (pv 0) (pa_cons pe_int pa_nil))) (pa_cons (pe_op op_sub (pe_fn F_l_draw hg (hr.mono (by decide)) (by rfl) pass0 (pa_cons (pv 0) (pa_cons (pe_op op_pow pe_int pe_int) pa_nil))) (pe_op oMul pe_int (pe_op op_pow pe_int pe_int))) pa_nil)) (by rfl))
    (pss_cons (ps_if (pt_cmpR op_lt (pv 1) pe_int (nomark _))
    (pss_one (ps_ret (pe_ix (kIx (K := K)) (pe_lst (pa_cons pe_int (pa_cons pe_int (pa_cons (pe_un un_neg pe_int) (pa_cons (pe_tup (pa_cons pe_int (pa_cons pe_int pa_nil))) (pa_cons pe_int pa_nil)))))) (pv 1) (fun _ _ => rfl))))
    pss_nil)
    (pss_one (ps_ret (pe_fn F_l_ratio hg (hr.mono (by decide)) (by rfl) pass0 (pa_cons (pe_ix (kIx (K := K)) (pe_lst (pa_cons (pe_op op_sub (pe_op op_mod (pv 2) pe_int) pe_int) (pa_cons (pv 2) (pa_cons (pe_op (kAdd (K := K)) (pe_op oMul (pv 2) (pe_op op_pow pe_int pe_int)) pe_int) pa_nil)))) (pe_op op_sub (pv 1) pe_int) (fun _ _ => rfl)) (pa_cons (pe_ix (kIx (K := K)) (pe_lst (pa_cons (pe_op (kAdd (K := K)) pe_int (pe_op op_mod (pv 2) pe_int)) (pa_cons (pe_op (kAdd (K := K)) pe_int (pe_op op_mod (pv 2) pe_int)) (pa_cons pe_int pa_nil)))) (pe_op op_sub (pv 1) pe_int) (fun _ _ => rfl)) pa_nil))))))), ?_⟩
  refine q_par (K := K) (σ := [some (.ref a), none, none]) (C1 := IsI fun k => 0 ≤ k ∧ k < 8) (C2 := IsI fun k => k.natAbs ≤ 10 ^ 12) (ev_draw rfl ev_i (by decide) (by decide)) (ev_int20 (cI := fun i => 0 ≤ i ∧ i < 10 ^ 12) (cJ := (· = 5 * 10 ^ 11)) (ev_draw rfl (ev_powE ev_i ev_i ⟨by decide, by decide, by decide⟩) (by decide) (by decide)) (ev_mulI (cI := (· = 5)) (cJ := (· = 10 ^ 11)) (ev_isI ev_i rfl) (ev_isI (ev_powE ev_i ev_i ⟨by decide, by decide, by decide⟩) rfl) ?_) ?_) f (Same.refl _) ?_
  · rintro _ _ rfl rfl
    exact ⟨mulx_ok (a := 8) (b := 60) (by decide) (by decide) (by decide), rfl⟩
  · rintro i _ hi rfl
    omega
  rintro v1 v2 _ _ H1 x1 f1 m1 m2 ⟨way, rfl, w0, w8⟩ ⟨top, rfl, ht⟩
  cases m1
  cases m2
  refine q_if (σ := [some (.ref a), some (.int way), some (.int top)]) (B := (· = decide (way < 5))) (et_test (ev_cmpI (K := K) (g := fun i j => decide (i < j)) (cI := (· = way)) (cJ := (· = 5)) (ev_isI (ev_var rfl (.int way)) rfl) (ev_isI ev_i rfl) ?_)) f1 (Same.refl _) (fun H2 x2 f2 e2 => ?_) (fun H2 x2 f2 e2 => ?_)
  · rintro _ _ rfl rfl
    rfl
  · have w5 : way < 5 := of_decide_eq_true e2.symm
    refine q_ret (K := K) (σ := [some (.ref a), some (.int way), some (.int top)]) (C := Num 100) (Ev.imp (ev_pick (ds := [.int 0, .int 1, .int (-2), .tuple [.int 1, .int 2], .int 10]) (ev_lstE (ea_eq ev_i (ea_eq ev_i (ea_eq (ev_negE ev_i) (ea_eq (ev_tupE (ea_eq ev_i (ea_eq ev_i ea_nil)) (by show 2 ≤ 1000; decide)) (ea_eq ev_i ea_nil))))) (by show 5 ≤ 1000; decide)) (ev_isI (ev_var rfl (.int way)) ⟨w0, w5⟩)) ?_) f2 (Same.refl _) ?_
    · intro d hd
      simp only [List.mem_cons, List.not_mem_nil, or_false] at hd
      rcases hd with rfl | rfl | rfl | rfl | rfl
      · exact ⟨rfl, by decide +kernel, by decide +kernel⟩
      · exact ⟨rfl, by decide +kernel, by decide +kernel⟩
      · exact ⟨rfl, by decide +kernel, by decide +kernel⟩
      · exact ⟨by decide +kernel, by decide +kernel, by decide +kernel⟩
      · exact ⟨rfl, by decide +kernel, by decide +kernel⟩
    · intro v d H3 x3 m3 hd
      exact k v d H3 ((x1.trans x2).trans x3) m3 hd
  · have w5 : ¬ way < 5 := of_decide_eq_false e2.symm
    have et : ∀ {σ : L2.St} {G : Hp}, σ[2]? = some (some (.int top)) → Ev K a G (tVar 2) σ (IsI (· = top)) := fun h => ev_isI (ev_var h (.int top)) rfl
    have ew : ∀ {σ : L2.St} {G : Hp}, σ[1]? = some (some (.int way)) → Ev K a G (tOp (rI0 fun i j => .int (i - j)) (tVar 1) (tC (.int 5))) σ (IsI fun k => 0 ≤ k ∧ k < (3 : Nat)) := fun h => ev_int20 (cI := (· = way)) (cJ := (· = 5)) (ev_isI (ev_var h (.int way)) rfl) (ev_isI ev_i rfl) (by
      rintro _ _ rfl rfl
      omega)
    have emod : ∀ {σ : L2.St} {G : Hp} {n : Int}, σ[2]? = some (some (.int top)) → 0 < n → n < 10 ^ 6 → Ev K a G (tOp (rI (fun _ j => 0 < j) fun i j => .int (i % j)) (tVar 2) (tC (.int n))) σ (IsI fun k => 0 ≤ k ∧ k < 10 ^ 6) := fun {σ G n} h h0 h1 => ev_int2 (c := fun _ j => 0 < j) (g := fun i j => i % j) (cI := (· = top)) (cJ := (· = n)) (et h) (ev_isI ev_i rfl) (by
      intro i j hi hj
      have hi' : i = top := hi
      have hj' : j = n := hj
      rw [hi', hj']
      have a1 := Int.emod_nonneg top (show n ≠ 0 by omega)
      have a2 := Int.emod_lt_of_pos top h0
      refine ⟨h0, a1, ?_⟩
      omega)
    have l3 : ∀ {C : PyData → Prop} (ds : List PyData), (∃ d r, ds = d :: r ∧ C d ∧ ∃ d r', r = d :: r' ∧ C d ∧ ∃ d r'', r' = d :: r'' ∧ C d ∧ r'' = []) → ds.length = 3 ∧ ∀ z ∈ ds, C z := by
      rintro C ds ⟨d1, r1, rfl, h1, d2, r2, rfl, h2, d3, r3, rfl, h3, rfl⟩
      refine ⟨rfl, fun z m => ?_⟩
      simp only [List.mem_cons, List.not_mem_nil, or_false] at m
      rcases m with rfl | rfl | rfl <;> assumption
    have le3 : ∀ {C : PyData → Prop} (ds : List PyData), (∃ d r, ds = d :: r ∧ C d ∧ ∃ d r', r = d :: r' ∧ C d ∧ ∃ d r'', r' = d :: r'' ∧ C d ∧ r'' = []) → ds.length ≤ 1000 := fun ds h => by
      rw [(l3 ds h).1]
      decide
    refine q_ret (K := K) (σ := [some (.ref a), some (.int way), some (.int top)]) (C := Num 100) (ev_callG (A1 := fun ds => ∃ d r, ds = d :: r ∧ (IsI (fun i => i.natAbs < 2 ^ 100)) d ∧ ∃ d r', r = d :: r' ∧ (IsI (fun i => 1 ≤ i ∧ i < 10 ^ 7)) d ∧ r' = [])
      (ea_cons (ev_pickL (n := 3) (C := IsI fun i => i.natAbs < 2 ^ 100) (ev_lst (ea_cons (C := IsI fun i => i.natAbs < 2 ^ 100) (ev_int20 (cI := fun k => 0 ≤ k ∧ k < 10 ^ 6) (cJ := (· = 20)) (emod rfl (by decide) (by decide)) (ev_isI ev_i rfl) ?_) (ea_cons (C := IsI fun i => i.natAbs < 2 ^ 100) (Ev.imp (et rfl) ?_) (ea_cons (C := IsI fun i => i.natAbs < 2 ^ 100) (ev_addI (cI := fun i => i.natAbs ≤ 10 ^ 29) (cJ := (· = 1)) (ev_mulI (cI := (· = top)) (cJ := (· = 10 ^ 17)) (et rfl) (ev_isI (ev_powE ev_i ev_i ⟨by decide, by decide, by decide⟩) rfl) ?_) (ev_isI ev_i rfl) ?_) ea_nil))) le3) (ew rfl) l3)
        (ea_cons (ev_pickL (n := 3) (C := IsI fun i => 1 ≤ i ∧ i < 10 ^ 7) (ev_lst (ea_cons (C := IsI fun i => 1 ≤ i ∧ i < 10 ^ 7) (ev_addI (cI := (· = 1)) (cJ := fun k => 0 ≤ k ∧ k < 10 ^ 6) (ev_isI ev_i rfl) (emod rfl (by decide) (by decide)) ?_) (ea_cons (C := IsI fun i => 1 ≤ i ∧ i < 10 ^ 7) (ev_addI (cI := (· = 1)) (cJ := fun k => 0 ≤ k ∧ k < 10 ^ 6) (ev_isI ev_i rfl) (emod rfl (by decide) (by decide)) ?_) (ea_cons (C := IsI fun i => 1 ≤ i ∧ i < 10 ^ 7) (ev_isI ev_i (by decide)) ea_nil))) le3) (ew rfl) l3) ea_nil)) ?_ ?_) f2 (Same.refl _) ?_
    · rintro i _ hi rfl
      have h1 : (i - 20).natAbs < 10 ^ 7 := by omega
      exact Nat.lt_trans h1 (by decide)
    · rintro _ ⟨i, rfl, rfl⟩
      exact ⟨_, rfl, Nat.lt_of_le_of_lt ht (by decide)⟩
    · rintro i j hi hj
      have hi' : i = top := hi
      have hj' : j = 10 ^ 17 := hj
      rw [hi', hj']
      refine ⟨mulx_ok (a := 60) (b := 60) (Nat.lt_of_le_of_lt ht (by decide)) (by decide) (by decide), ?_⟩
      rw [Int.natAbs_mul]
      have z := Nat.mul_le_mul ht (show ((10 : Int) ^ 17).natAbs ≤ 10 ^ 17 by decide)
      have e : (10 : Nat) ^ 12 * 10 ^ 17 = 10 ^ 29 := by decide
      rw [e] at z
      exact z
    · rintro i _ hi rfl
      have h1 : (i + 1).natAbs ≤ 10 ^ 29 + 1 := by omega
      exact Nat.lt_of_le_of_lt h1 (by decide)
    · rintro _ j rfl hj
      omega
    · rintro _ j rfl hj
      omega
    · rintro _ ⟨_, _, rfl, ⟨i, rfl, hi⟩, _, _, rfl, ⟨j, rfl, hj⟩, rfl⟩
      refine ⟨i, j, rfl, by omega, Nat.lt_trans hi (Nat.pow_lt_pow_right (by decide) (by decide)), ?_⟩
      have h1 : j.natAbs < 2 ^ 24 := by omega
      exact Nat.lt_trans h1 (Nat.pow_lt_pow_right (by decide) (by decide))
    · rintro _ r ⟨_, _, rfl, ⟨i, rfl, hi⟩, _, _, rfl, ⟨j, rfl, hj⟩, rfl⟩ ⟨x, y, e, rfl⟩
      injection e with e1 e
      injection e with e2 _
      injection e1 with e1
      injection e2 with e2
      subst e1
      subst e2
      have h1 : j.natAbs < 10 ^ 7 := by omega
      exact ratio_num (by omega) hi (Nat.lt_trans h1 (by decide))
    · intro v d H3 x3 m3 hd
      exact k v d H3 ((x1.trans x2).trans x3) m3 hd
theorem ok_l_word {f : Addr} {fd : FuncData} (F : Fun K "_law_word" "_law_word" s_l_word f fd) (T : Txt K mg c) (F_l_draw : DfD P w K mg base) : FnG P w K mg base CX0 2 f fd ["_law_pot_here", "_law_taken"] (spP K preWd postWd) := by
  refine fun_okG F sc_l_word (fun vs H Q E h => spP_len (n := 1) (fun ds ⟨ns, e, _⟩ => by rw [e]; rfl) h) (fun cdv A outer s H vs Q E hg hr h => ?_)
  obtain ⟨a, S, ws, ds, rfl, f, m, ⟨ns, rfl, hl⟩, k⟩ := h
  obtain ⟨v, rfl, mv⟩ := DA.one m
  refine ⟨_, (pss_cons (ps_set (i := 2) sc_l_word.nd rfl (by first | exact Or.inl rfl | exact Or.inr rfl) pe_str)
    (pss_cons (ps_set (i := 4) sc_l_word.nd rfl (by first | exact Or.inl rfl | exact Or.inr rfl) (pe_bmK (K := K) PySem.F.plainAttrs_str PySem.F.slot_str_join PySem.F.type_str_join (kJoin (K := K)) pe_str (pa_cons (pe_lc (own := [("_law_k", 3)]) rfl sc_l_word.nd (pi_range1 (by rfl) T.b_range (pa_cons (pe_ix (kIx (K := K)) (pe_lst (pa_cons pe_int (pa_cons pe_int (pa_cons pe_int (pa_cons pe_int pa_nil))))) (pe_fn F_l_draw hg (hr.mono (by decide)) (by rfl) pass0 (pa_cons (pv 0) (pa_cons pe_int pa_nil))) (fun _ _ => rfl)) pa_nil)) (blkOk_by (N := ["_law_pot_here", "_law_taken", "_law_letters", "_law_k", "_law_word_here", "_law_letter"]) (sc := defScope s_l_word) (by decide +kernel)) (fun _ _ _ _ _ => (pg_name (i := 3) sc_l_word.nd rfl (by first | exact Or.inl rfl | exact Or.inr rfl))) (fun _ _ _ _ _ => pts_nil) (fun _ _ _ _ _ => (pe_ix (kIx (K := K)) (pv 2) (pe_fn F_l_draw hg (hr.mono (by decide)) (by rfl) pass0 (pa_cons (pv 0) (pa_cons pe_int pa_nil))) (fun _ _ => rfl)))) pa_nil)))
    (pss_cons (ps_if (pt_cmpR (kIn (K := K)) (pv 4) (pv 1) (by rfl))
    (pss_one (ps_set (i := 4) sc_l_word.nd rfl (by first | exact Or.inl rfl | exact Or.inr rfl) (pe_ix (kIx (K := K)) (pe_lc (own := [("_law_letter", 5)]) rfl sc_l_word.nd (pi_str (pv 2)) (blkOk_by (N := ["_law_pot_here", "_law_taken", "_law_letters", "_law_k", "_law_word_here", "_law_letter"]) (sc := defScope s_l_word) (by decide +kernel)) (fun _ _ _ _ _ => (pg_name (i := 5) sc_l_word.nd rfl (by first | exact Or.inl rfl | exact Or.inr rfl))) (fun _ _ _ _ _ => (pts_one (pt_cmpR (kNotIn (K := K)) (pv 5) (pv 1) (by rfl)))) (fun _ _ _ _ _ => (pv 5))) pe_int (fun _ _ => rfl))))
    pss_nil)
    (pss_one (ps_ret (pv 4)))))), ?_⟩
  have e26 : (26 : Int) = (abc.length : Nat) := by decide +kernel
  refine q_setE (K := K) (σ := [some (.ref a), some v, none, none, none, none]) ev_s f (Same.refl _) ?_
  intro va H1 x1 f1 m1
  cases m1
  refine q_set (K := K) (σ := [some (.ref a), some v, some (.str abc), none, none, none]) (C := fun d => ∃ w : Str, d = .str w ∧ (∃ i : Int, i = (w.length : Nat) ∧ 1 ≤ i ∧ i ≤ 8) ∧ ∀ c ∈ w.cps.toList, c ∈ abc.cps.toList)
    (ev_joinS (N := fun n => ∃ i : Int, i = (n : Nat) ∧ 1 ≤ i ∧ i ≤ 8) (Ev.imp (ev_lcR (cI := fun i => 1 ≤ i ∧ i ≤ 8) (Y := fun i z => ∃ c, z = .str ⟨#[c]⟩ ∧ c ∈ abc.cps.toList) ?_ ?_ (fun _ => rfl) ?_) ?_) ?_) f1 (Same.refl _) ?_
  · refine (ev_pick (ds := [.int 1, .int 1, .int 2, .int 8]) (by walk_at "lit") (ev_draw rfl ev_i (by decide) (by decide))).imp ?_
    intro d hd
    simp only [List.mem_cons, List.not_mem_nil, or_false] at hd
    rcases hd with rfl | rfl | rfl | rfl <;> exact ⟨_, rfl, by decide⟩
  · intro i hi
    omega
  · intro i
    have dr := ev_draw (K := K) (a := a) (G := off S H1) (E := E0) (σ := (wipe [some (.ref a), some v, some (.str abc), none, none, none] [3]).set 3 (some (V.int (i : Nat)))) (i := 0) (m := 26) rfl ev_i (by decide) (by decide)
    exact ev_pickS (z := abc) (ev_var rfl (.str _)) (e26 ▸ dr) (by decide +kernel)
  · rintro d ⟨n, ds, hn, e, hl, hY⟩
    exact ⟨n, ds, ⟨_, rfl, hn.1, hn.2⟩, e, hl, hY⟩
  · rintro n ⟨i, rfl, _, h⟩
    omega
  rintro _ _ H2 x2 f2 m2 ⟨wd, rfl, ⟨i, rfl, l1, l8⟩, hc⟩
  cases m2
  have wok : isNameD (.str wd) = true := word_of (by omega) (by omega) hc
  have x12 := x1.trans x2
  refine q_ifE (b := decide (wd ∈ ns)) (et_testE (K := K) (ev_inS (ev_var rfl (.str _)) (ev_var rfl (mv.mono (x12.off f.mem))))) f2 (Same.refl _) (fun H3 x3 f3 _ => ?_) (fun H3 x3 f3 e => ?_)
  · refine q_set (K := K) (σ := [some (.ref a), some v, some (.str abc), none, some (.str wd), none]) (ev_spare (v := v) rfl (mv.mono ((x12.trans x3).off f.mem)) hl (ev_var rfl (.str _)) (fun _ => rfl) (fun _ => rfl) (fun _ => rfl)) f3 (Same.refl _) ?_
    rintro _ _ H4 x4 f4 m4 ⟨w2, rfl, h1, h2⟩
    cases m4
    refine q_retE (K := K) (σ := [some (.ref a), some v, some (.str abc), none, some (.str w2), none]) (ev_var rfl (.str w2)) f4 (Same.refl _) fun v5 H5 x5 m5 => ?_
    exact k _ _ H5 (((x12.trans x3).trans x4).trans x5) m5 ⟨ns, w2, rfl, rfl, h1, h2⟩
  · dsimp only [tNext]
    refine q_retE (K := K) (σ := [some (.ref a), some v, some (.str abc), none, some (.str wd), none]) (ev_var rfl (.str wd)) f3 (Same.refl _) fun v5 H5 x5 m5 => ?_
    exact k _ _ H5 ((x12.trans x3).trans x5) m5 ⟨ns, wd, rfl, rfl, wok, of_decide_eq_false e⟩
theorem ok_l_words {f : Addr} {fd : FuncData} (F : Fun K "_law_words" "_law_words" s_l_words f fd) (T : Txt K mg c) (F_l_word : FWo P w K mg base) : FnG P w K mg base CX0 3 f fd ["_law_pot_here", "_law_many"] (spP K preWs postWs) := by
  refine fun_okG F sc_l_words (fun vs H Q E h => spP_len (n := 1) (fun ds ⟨n, _, e⟩ => by rw [e]; rfl) h) (fun cdv A outer s H vs Q E hg hr h => ?_)
  obtain ⟨a, S, ws, ds, rfl, f, m, ⟨n, hn, rfl⟩, k⟩ := h
  obtain ⟨v, rfl, mv⟩ := DA.one m
  cases mv
  refine ⟨_, (pss_cons (ps_set (i := 2) sc_l_words.nd rfl (by first | exact Or.inl rfl | exact Or.inr rfl) (pe_lst pa_nil))
    (pss_cons (ps_for PassesOwn.never rfl (pi_range1 (by rfl) T.b_range (pa_cons (pv 1) pa_nil)) (pg_name (i := 3) sc_l_words.nd rfl (by first | exact Or.inl rfl | exact Or.inr rfl))
    (pss_one (ps_expr (pe_bmK (K := K) PySem.F.plainAttrs_list PySem.F.slot_list_append PySem.F.type_list_append mt_append (pv 2) (pa_cons (pe_fn F_l_word hg (hr.mono (by decide)) (by rfl) pass0 (pa_cons (pv 0) (pa_cons (pv 2) pa_nil))) pa_nil)))))
    (pss_one (ps_ret (pv 2))))), ?_⟩
  refine q_lst (K := K) (n := 0) (σ := [some (.ref a), some (.int n), none, none]) ea_nil (fun _ e => by rw [e]; rfl) (Nat.zero_le _) f (Same.refl _) ?_
  rintro L vs _ H1 x1 f1 hL m1 rfl
  cases m1
  have La := f1.ne hL
  have LS := f1.out hL
  have H0L := x1.fresh hL La
  have x2 : Ext a H (upd H1 L (.lst [])) := x1.store H0L La
  have f2 : LK.Fr a (L :: S) (upd H1 L (.lst [])) := (f1.upd La).push upd_same
  have e2 : upd H1 L (.lst []) L = some (.lst []) := upd_same
  generalize upd H1 L (.lst []) = H2 at x2 f2 e2
  dsimp only
  refine q_forW (K := K) (σ := [some (.ref a), some (.int n), some (.ref L), none]) (n := n) (walks_range (ev_var rfl (.int _)) (by omega)) f2 (Same.refl _) (L :: S) fun H3 x3 f3 =>
    ⟨fun i σ' H' => ∃ (ns : List Str) (y : Option V), σ' = [some (.ref a), some (.int n), some (.ref L), y] ∧ H' L = some (.lst (ns.map V.str)) ∧ WordsOk i ns ∧ Ext a H H' ∧ LK.Fr a (L :: S) H' ∧ Same (off (L :: S) H3) (off (L :: S) H'), ⟨[], none, rfl, x3.keep _ _ La e2, ⟨rfl, .nil, fun _ m => nomatch m⟩, x2.trans x3, f3, Same.refl _⟩, ?_, ?_, ?_⟩
  · rintro i σ' H' ⟨ns, y, _, _, _, _, f', s'⟩
    exact ⟨f', s'⟩
  · rintro i x d σ' H' H'' hi ⟨ns, y, rfl, hL', wok, x', f', s'⟩ x'' _ md rfl
    cases md
    have f5 : LK.Fr a S H'' := (f'.ext x'').less (fun b m => List.mem_cons_of_mem _ m) f.mem
    have hL'' := x''.keep _ _ La hL'
    refine q_append (K := K) (σ := [some (.ref a), some (.int n), some (.ref L), some (.int (i : Nat))]) (S := S) (C := fun r => postWd [.list (ns.map .str)] r) rfl hL'' La (by rw [List.length_map, wok.len]; omega) (ev_callP rfl (ea_eq (ev_var (i := 2) rfl (.lst (off_mk LS hL'') (DA.names ns))) ea_nil) (fun _ e => ⟨ns, e, by rw [wok.len]; omega⟩) fun _ r e z => e ▸ z) f5 (Same.refl _) ?_
    rintro v r H6 x6 f6 hL6 mr ⟨ns', w, e, rfl, hw, hnw⟩
    injection e with e
    injection e with e
    obtain rfl := strs_inj e
    cases mr
    have xx := (x'.trans x'').trans x6
    refine ⟨ns ++ [w], _, rfl, ?_, ⟨by rw [List.length_append, wok.len]; rfl, ?_, ?_⟩, xx.store H0L La, ((f'.ext (x''.trans x6)).upd La), ?_⟩
    · rw [upd_same, List.map_append]
      rfl
    · refine List.nodup_append.mpr ⟨wok.nd, by simp, ?_⟩
      intro z mz y my
      rw [List.mem_singleton.mp my]
      exact fun e => hnw (e ▸ mz)
    · intro z mz
      rcases List.mem_append.mp mz with mz | mz
      · exact wok.ok z mz
      · rw [List.mem_singleton.mp mz]
        exact hw
    · rw [off_upd List.mem_cons_self]
      exact s'.trans ((x''.trans x6).off f'.mem)
  · rintro σ' H' ⟨ns, y, rfl, hL', wok, x', f', _⟩
    have f5 : LK.Fr a S H' := f'.less (fun b m => List.mem_cons_of_mem _ m) f.mem
    dsimp only
    refine q_retE (K := K) (σ := [some (.ref a), some (.int n), some (.ref L), y]) (d := .list (ns.map .str)) (ev_var rfl (.lst (off_mk LS hL') (DA.names ns))) f5 (Same.refl _) fun v H6 x6 m6 => ?_
    exact k _ _ H6 (x'.trans x6) m6 ⟨n, ns, rfl, rfl, wok⟩
theorem ok_l_told {f : Addr} {fd : FuncData} (F : Fun K "_law_told" "_law_told" s_l_told f fd) (T : Txt K mg c) (F_l_draw : DfD P w K mg base) (F_l_worth : Df P w K mg base CX0 3 "_law_worth" ["_law_pot_here"] (spP K (fun ds => ds = []) (fun _ r => Num 100 r))) :
    FnG P w K mg base CX0 4 f fd ["_law_pot_here", "_law_labels", "_law_folk", "_law_many"] (spP K preTl postTl3) := by
  refine fun_okG F sc_l_told (fun vs H Q E h => spP_len (n := 3) (fun ds ⟨_, _, _, _, _, e, _⟩ => by rw [e]; rfl) h) (fun cdv A outer s H vs Q E hg hr h => ?_)
  obtain ⟨a, S, ws, ds, rfl, f, m, ⟨n, p, ls, fs, q, rfl, wl, wf, n1, p1, n12, p12, q40⟩, k⟩ := h
  obtain ⟨v1, v2, v3, rfl, m1, m2, m3⟩ := DA.three m
  cases m3
  refine ⟨_, (pss_cons (ps_set (i := 4) sc_l_told.nd rfl (by first | exact Or.inl rfl | exact Or.inr rfl) (pe_lst pa_nil))
    (pss_cons (ps_for PassesOwn.never rfl (pi_range1 (by rfl) T.b_range (pa_cons (pv 3) pa_nil)) (pg_name (i := 5) sc_l_told.nd rfl (by first | exact Or.inl rfl | exact Or.inr rfl))
    (pss_cons (ps_par (i := 6) (j := 7) (by rfl) sc_l_told.nd rfl rfl (by decide) rfl rfl (pa_cons (pe_ix (kIx (K := K)) (pe_lst (pa_cons pe_int (pa_cons pe_int (pa_cons pe_int (pa_cons pe_int (pa_cons pe_int (pa_cons pe_int pa_nil))))))) (pe_fn F_l_draw hg (hr.mono (by decide)) (by rfl) pass0 (pa_cons (pv 0) (pa_cons pe_int pa_nil))) (fun _ _ => rfl)) (pa_cons (pe_op (kAdd (K := K)) pe_int (pe_fn F_l_draw hg (hr.mono (by decide)) (by rfl) pass0 (pa_cons (pv 0) (pa_cons pe_int pa_nil)))) pa_nil)) (by rfl))
    (pss_cons (ps_par (i := 8) (j := 9) (by rfl) sc_l_told.nd rfl rfl (by decide) rfl rfl (pa_cons (pe_ix (kIx (K := K)) (pv 2) (pe_fn F_l_draw hg (hr.mono (by decide)) (by rfl) pass0 (pa_cons (pv 0) (pa_cons (pe_callB (kLen (K := K)) (by rfl) T.b_len (by decide +kernel) (pa_cons (pv 2) pa_nil)) pa_nil))) (fun _ _ => rfl)) (pa_cons (pe_ix (kIx (K := K)) (pv 1) (pe_fn F_l_draw hg (hr.mono (by decide)) (by rfl) pass0 (pa_cons (pv 0) (pa_cons (pe_callB (kLen (K := K)) (by rfl) T.b_len (by decide +kernel) (pa_cons (pv 1) pa_nil)) pa_nil))) (fun _ _ => rfl)) pa_nil)) (by rfl))
    (pss_one (ps_expr (pe_bmK (K := K) PySem.F.plainAttrs_list PySem.F.slot_list_append PySem.F.type_list_append mt_append (pv 4) (pa_cons (pe_tup (pa_cons (pv 6) (pa_cons (pv 7) (pa_cons (pv 8) (pa_cons (pv 9) (pa_cons (pe_fn F_l_worth hg (hr.mono (by decide)) (by rfl) pass0 (pa_cons (pv 0) pa_nil)) pa_nil)))))) pa_nil)))))))
    (pss_one (ps_ret (pv 4))))), ?_⟩
  refine q_lst (K := K) (n := 0) (σ := [some (.ref a), some v1, some v2, some (.int q), none, none, none, none, none, none]) ea_nil (fun _ e => by rw [e]; rfl) (Nat.zero_le _) f (Same.refl _) ?_
  rintro L vs _ H1 x1 f1 hL mv rfl
  cases mv
  have La := f1.ne hL
  have LS := f1.out hL
  have H0L := x1.fresh hL La
  have x2 : Ext a H (upd H1 L (.lst [])) := x1.store H0L La
  have f2 : LK.Fr a (L :: S) (upd H1 L (.lst [])) := (f1.upd La).push upd_same
  have e2 : upd H1 L (.lst []) L = some (.lst []) := upd_same
  have ml : D K (off (L :: S) (upd H1 L (.lst []))) v1 (.list (ls.map .str)) := m1.mono (same_off_in H0L (x2.off f.mem))
  have mf : D K (off (L :: S) (upd H1 L (.lst []))) v2 (.list (fs.map .str)) := m2.mono (same_off_in H0L (x2.off f.mem))
  generalize upd H1 L (.lst []) = H2 at x2 f2 e2 ml mf
  dsimp only
  refine q_forW (K := K) (σ := [some (.ref a), some v1, some v2, some (.int q), some (.ref L), none, none, none, none, none]) (n := q) (walks_range (ev_var rfl (.int _)) (by omega)) f2 (Same.refl _) (L :: S) fun H3 x3 f3 =>
    ⟨fun i σ' H' => ∃ (acc : List V) (es : List PyData) (y1 y2 y3 y4 y5 : Option V), σ' = [some (.ref a), some v1, some v2, some (.int q), some (.ref L), y1, y2, y3, y4, y5] ∧ H' L = some (.lst acc) ∧ DA K (off (L :: S) H') acc es ∧ es.length = i ∧ (∀ e ∈ es, RowSm ls e) ∧ Ext a H H' ∧ LK.Fr a (L :: S) H' ∧ Same (off (L :: S) H2) (off (L :: S) H') ∧ Same (off (L :: S) H3) (off (L :: S) H'),
      ⟨[], [], none, none, none, none, none, rfl, x3.keep _ _ La e2, .nil, rfl, (fun _ m => nomatch m), x2.trans x3, f3, x3.off f2.mem, Same.refl _⟩, ?_, ?_, ?_⟩
  · rintro i σ' H' ⟨acc, es, y1, y2, y3, y4, y5, _, _, _, _, _, _, f', _, s'⟩
    exact ⟨f', s'⟩
  · rintro i x d σ' H' H'' hi ⟨acc, es, y1, y2, y3, y4, y5, rfl, hL', md, el, hrow, x', f', s', t'⟩ x'' _ mi rfl
    cases mi
    have f5 := f'.ext x''
    have hL5 := x''.keep _ _ La hL'
    have s5 := s'.trans (x''.off f'.mem)
    have md5 := md.mono (x''.off f'.mem)
    have x5 := x'.trans x''
    have t5 := t'.trans (x''.off f'.mem)
    clear hL' md x' f' s' t' x''
    refine q_par (K := K) (σ := [some (.ref a), some v1, some v2, some (.int q), some (.ref L), some (.int (i : Nat)), y2, y3, y4, y5]) (C1 := fun d => ∃ g : Int, d = .int g ∧ 0 ≤ g ∧ g ≤ 2) (C2 := fun d => ∃ j : Int, d = .int j ∧ 1 ≤ j ∧ j ≤ 8) (Ev.imp (ev_pick (ds := [.int 0, .int 0, .int 0, .int 0, .int 1, .int 2]) (by walk_at "lit") (ev_draw rfl ev_i (by decide) (by decide))) ?_) (Ev.imp (ev_addI (cI := (· = 1)) (cJ := fun k => 0 ≤ k ∧ k < 7) (cR := fun i => 1 ≤ i ∧ i ≤ 8) (ev_isI ev_i rfl) (ev_draw rfl ev_i (by decide) (by decide)) ?_) ?_) f5 (Same.refl _) ?_
    · intro d hd
      simp only [List.mem_cons, List.not_mem_nil, or_false] at hd
      rcases hd with rfl | rfl | rfl | rfl | rfl | rfl <;> exact ⟨_, rfl, by decide, by decide⟩
    · rintro _ j rfl hj
      omega
    · rintro _ ⟨j, rfl, hj⟩
      exact ⟨j, rfl, hj⟩
    rintro w1 w2 _ _ H6 x6 f6 a1 a2 ⟨g, rfl, hg0, hg2⟩ ⟨j, rfl, hj, hj8⟩
    cases a1
    cases a2
    dsimp only
    have s7 := s5.trans (x6.off f5.mem)
    have nz : ∀ (n : Nat) (ns : List Str), WordsOk n ns → lenD (.list (ns.map .str)) = some n := fun n ns h => by simp [lenD, h.len]
    have pickW : ∀ (n : Nat) (ns : List Str) (z : Nat) (vz : V) (σ : L2.St), WordsOk n ns → 1 ≤ n → n ≤ 12 → σ[0]? = some (some (.ref a)) → σ[z]? = some (some vz) → D K (off (L :: S) H6) vz (.list (ns.map .str)) →
        Ev K a (off (L :: S) H6) (tOp (rIx K) (tVar z) (tCall (spP K preD postD) [] E0 (tCons (tVar 0) (tCons (tCB (rLenA K) (tCons (tVar z) tNil)) tNil)))) σ (fun d => ∃ w : Str, d = .str w ∧ w ∈ ns) := fun n ns z vz σ h h1 h12 hp hz mz => by
      refine Ev.imp (ev_pick (ds := ns.map .str) (ev_var hz mz) ?_) ?_
      · have := ev_draw (K := K) (a := a) (G := off (L :: S) H6) (E := E0) (m := (n : Nat)) hp (ev_lenE (ev_var hz mz) (nz n ns h) (by omega)) (by omega) (by omega)
        rw [List.length_map, h.len]
        exact this
      · intro d hd
        obtain ⟨x, mx, rfl⟩ := List.mem_map.mp hd
        exact ⟨x, rfl, mx⟩
    refine q_par (K := K) (σ := [some (.ref a), some v1, some v2, some (.int q), some (.ref L), some (.int (i : Nat)), some (.int g), some (.int j), y4, y5]) (C1 := fun d => ∃ w : Str, d = .str w ∧ w ∈ fs) (C2 := fun d => ∃ w : Str, d = .str w ∧ w ∈ ls) (pickW p fs 2 v2 _ wf p1 p12 rfl rfl (mf.mono s7)) (pickW n ls 1 v1 _ wl n1 n12 rfl rfl (ml.mono s7)) f6 (Same.refl _) ?_
    rintro w3 w4 _ _ H8 x8 f8 a3 a4 ⟨who, rfl, h3⟩ ⟨lab, rfl, h4⟩
    cases a3
    cases a4
    have x68 := x6.trans x8
    have hL8 := x68.keep _ _ La hL5
    have md8 := md5.mono (x68.off f5.mem)
    dsimp only
    refine q_append (K := K) (S := L :: S) (σ := [some (.ref a), some v1, some v2, some (.int q), some (.ref L), some (.int (i : Nat)), some (.int g), some (.int j), some (.str who), some (.str lab)]) (C := RowSm ls) rfl hL8 La (by rw [md8.length, el]; omega)
      (Ev.imp (ev_tup (ea_cons (C := (· = .int g)) (ev_var rfl (.int g)) (ea_cons (C := (· = .int j)) (ev_var rfl (.int j)) (ea_cons (C := (· = .str who)) (ev_var rfl (.str who)) (ea_cons (C := (· = .str lab)) (ev_var rfl (.str lab))
        (ea_one (C := fun d => Num 100 d) (ev_callP rfl ea_nil (fun _ e => e) fun _ _ _ h => h)))))) ?_) ?_) f8 (Same.refl _) ?_
    · rintro _ ⟨d1, _, rfl, _, d2, _, rfl, _, d3, _, rfl, _, d4, _, rfl, _, d5, rfl, _⟩
      show 5 ≤ 1000
      decide
    · rintro _ ⟨_, rfl, d1, _, rfl, rfl, d2, _, rfl, rfl, d3, _, rfl, rfl, d4, _, rfl, rfl, d5, rfl, k5⟩
      refine ⟨⟨g, j, who, lab, d5⟩, rfl, ⟨⟨hg0, hg2, hj, ?_, wf.ok who h3, h4, wl.ok lab h4, k5.up (by decide)⟩, k5⟩, by show j ≤ 8; omega⟩
      have : j.natAbs < 16 := by omega
      exact Nat.lt_trans this (by decide +kernel)
    intro v d H9 x9 f9 hL9 mv hd
    have x59 := x68.trans x9
    refine ⟨acc ++ [v], es ++ [d], _, _, _, _, _, rfl, upd_same, ?_, by rw [List.length_append, el]; rfl, ?_, (x5.trans x59).store H0L La, f9.upd La, ?_⟩
    · rw [off_upd List.mem_cons_self]
      exact (md8.mono (x9.off f8.mem)).snoc mv
    · intro z mz
      rcases List.mem_append.mp mz with mz | mz
      · exact hrow z mz
      · rw [List.mem_singleton.mp mz]
        exact hd
    · rw [off_upd List.mem_cons_self]
      exact ⟨s5.trans (x59.off f5.mem), t5.trans (x59.off f5.mem)⟩
  · rintro σ' H' ⟨acc, es, y1, y2, y3, y4, y5, rfl, hL', md, el, hrow, x', f', _⟩
    have f5 : LK.Fr a S H' := f'.less (fun b m => List.mem_cons_of_mem _ m) f.mem
    dsimp only
    refine q_retE (K := K) (σ := [some (.ref a), some v1, some v2, some (.int q), some (.ref L), y1, y2, y3, y4, y5]) (d := .list es) (ev_var rfl (.lst (off_mk LS hL') (md.mono same_off_pop))) f5 (Same.refl _) fun v H6 x6 m6 => ?_
    exact k _ _ H6 (x'.trans x6) m6 ⟨ls, _, _, es, rfl, rfl, by omega, hrow⟩
end
end K91
set_option Elab.async false
set_option linter.all false
set_option maxRecDepth 100000
set_option maxHeartbeats 1000000
namespace K91
open PySem PySem.Spec L2 LK
open PyProof.Rows hiding St
local macro_rules | `(tactic| walk_at "ext") => `(tactic| first | exact Ext.refl | assumption | (refine Ext.trans ?_ (by assumption); walk_at "ext"))
local macro_rules | `(tactic| walk_at "sm") => `(tactic| first | exact Same.refl _ | assumption | (refine Ext.off ?_ (Fr.mem (by assumption)); walk_at "ext"))
local macro_rules | `(tactic| walk_at "dm") => `(tactic| first | assumption | exact .int _ | exact .bl _ | exact .str _ | exact .non | (refine D.mono (by assumption) ?_; walk_at "sm"))
local macro_rules | `(tactic| walk_at "sd") => `(tactic| first | assumption | rfl | decide | omega | (show _ ≤ 1000; decide))
local macro_rules | `(tactic| walk_at "ea") => `(tactic| first | exact ea_nil | (refine ea_eq ?_ ?_; (walk_at "ev"); (walk_at "ea")))
local macro_rules | `(tactic| walk_at "et") => `(tactic| first
  | (refine et_valE ?_; walk_at "ev") | (refine et_testE ?_; walk_at "ev") | (refine et_notE ?_; walk_at "et")
  | (refine et_andE ?_ (fun _ => ?_); (walk_at "et"); (walk_at "et")) | (refine et_orE ?_ (fun _ => ?_); (walk_at "et"); (walk_at "et")))
local macro_rules | `(tactic| walk_at "ev") => `(tactic| first
  | exact ev_i | exact ev_s | exact ev_b | exact ev_n | exact ev_dnew
  | (refine ev_var rfl ?_; walk_at "dm")
  | (refine ev_tupE ?_ ?_; (walk_at "ea"); (walk_at "sd")) | (refine ev_lstE ?_ ?_; (walk_at "ea"); (walk_at "sd"))
  | (refine ev_negE ?_; walk_at "ev")
  | (refine ev_isiE ?_ ?_; (walk_at "ev"); (walk_at "sd"))
  | (refine ev_lenE ?_ ?_ ?_; (walk_at "ev"); (walk_at "sd"); (walk_at "sd"))
  | (refine ev_atL ?_ ?_ ?_; (walk_at "ev"); (walk_at "ev"); (walk_at "sd")) | (refine ev_atT ?_ ?_ ?_; (walk_at "ev"); (walk_at "ev"); (walk_at "sd"))
  | (refine ev_addE ?_ ?_; (walk_at "ev"); (walk_at "ev")) | (refine ev_cmpE ?_ ?_; (walk_at "ev"); (walk_at "ev")) | (refine ev_i0E ?_ ?_; (walk_at "ev"); (walk_at "ev"))
  | (refine ev_mulE ?_ ?_ ?_; (walk_at "ev"); (walk_at "ev"); (walk_at "sd"))
  | (refine ev_eqIE ?_ ?_; (walk_at "ev"); (walk_at "ev")) | (refine ev_neIE ?_ ?_; (walk_at "ev"); (walk_at "ev"))
  | (refine ev_andE ?_ (fun _ => ?_); (walk_at "ev"); (walk_at "ev")) | (refine ev_orE ?_ (fun _ => ?_); (walk_at "ev"); (walk_at "ev")) | (refine ev_notE ?_; walk_at "ev")
  | (refine ev_fn ?_ ?_; (walk_at "ea"); (walk_at "sd")))
local macro_rules | `(tactic| walk_at "lit") => `(tactic| first | exact ev_i | exact ev_s | exact ev_b | exact ev_n | exact ev_dnew | (refine ev_negE ?_; walk_at "lit") | (refine ev_tupE ?_ (by decide); walk_at "lits") | (refine ev_lstE ?_ (by decide); walk_at "lits") | (refine ev_powE ?_ ?_ ⟨by decide, by decide, by decide⟩ <;> walk_at "lit"))
local macro_rules | `(tactic| walk_at "lits") => `(tactic| first | exact ea_nil | (refine ea_eq ?_ ?_; (walk_at "lit"); (walk_at "lits")))
section
open TL (tl numL)
open NumText (digitsVal AllDigits)
variable {P : Program} {w : World} {K : PySem.W.Frag} {mg : Str → Option Value} {c : Cls} {base : Heap} {a : Addr} {G : Hp} {S : List Addr} {H : Hp}
theorem ok_l_is_digits {f : Addr} {fd : FuncData} (F : Fun K "_law_is_digits" "_law_is_digits" s_l_is_digits f fd) (T : Txt K mg c) : FnG P w K mg base CX0 1 f fd ["_law_word_here"] (spG K preSt (post1 decD)) := by
  refine fun_okG F sc_l_is_digits (fun vs H Q E h => spG_len (fun _ => preSt_len) h) (fun cdv A outer s H vs Q E hg hr h => ?_)
  obtain ⟨a, S, ds, f, m, ⟨x, rfl, hx⟩, k⟩ := h
  obtain ⟨v, rfl, mv⟩ := DA.one m
  cases mv
  refine ⟨_, (pss_one (ps_ret (pe_and (pe_cmpR (kNe (K := K) hr.units) (pv 0) pe_str (nomark _)) (pe_and (pe_callB (kAll (K := K) rfl) (by rfl) T.b_all (by decide +kernel) (pa_cons (pe_lc (own := [("_law_sign", 1)]) rfl sc_l_is_digits.nd (pi_str (pv 0)) (blkOk_by (N := ["_law_word_here", "_law_sign"]) (sc := defScope s_l_is_digits) (by decide +kernel)) (fun _ _ _ _ _ => (pg_name (i := 1) sc_l_is_digits.nd rfl (by first | exact Or.inl rfl | exact Or.inr rfl))) (fun _ _ _ _ _ => pts_nil) (fun _ _ _ _ _ => (pe_cmpR (kIn (K := K)) (pv 1) pe_str (by rfl)))) pa_nil)) (pe_one (pe_or (pe_cmpR (kEq (K := K) hr.units) (pv 0) pe_str (nomark _)) (pe_one (pe_cmpR (kNe (K := K) hr.units) (pe_ix (kIx (K := K)) (pv 0) pe_int (fun _ _ => rfl)) pe_str (nomark _))))))))), ?_⟩
  have e48 : tl ("0" : Str) = [48] := by decide +kernel
  refine q_retE (K := K) (σ := [some (.str x), none]) (d := .bool (decB (tl x))) (Ev.imp (ev_andE (b := !(tl x == [])) (c := allDig (tl x) && canon (tl x)) ((ev_neS (ev_var (i := 0) rfl (.str x)) ev_s).imp fun _ e => by rw [e, str_eq]; rfl) fun hne => ev_andE (b := allDig (tl x)) (c := canon (tl x)) ((ev_allIn (K := K) (z := digs) (ev_var rfl (.str x)) (fun v => ev_s) (by omega) (fun _ => rfl) (fun _ => rfl)).imp fun _ e => by rw [e, all_digs]) fun _ => ev_orE (b := tl x == [48]) (c := !((tl x).head? == some 48)) ((ev_eqS (ev_var (i := 0) rfl (.str x)) ev_s).imp fun _ e => by rw [e, str_eq, e48]) fun _ => ?_) fun z e => by rw [e]; unfold decB; rw [Bool.and_assoc]) f (Same.refl _) fun v5 H4 x4 m5 => k v5 _ H4 x4 m5 ⟨_, rfl, rfl⟩
  obtain ⟨hc, hr', he⟩ : ∃ hc hr', tl x = hc :: hr' := by
    cases h : tl x with
    | nil =>
      rw [h] at hne
      cases hne
    | cons y r => exact ⟨y, r, rfl⟩
  refine (ev_neS (x := ⟨#[hc]⟩) (ev_ixS (cI := (· = 0)) (ev_var (i := 0) rfl (.str x)) (ev_isI ev_i rfl) (by omega) ?_) ev_s).imp fun _ e => ?_
  · rintro _ rfl
    refine ⟨hc, ?_, rfl⟩
    show atI (tl x) 0 = some hc
    rw [he]
    exact atI_nat (j := 0) rfl
  · rw [e, str_eq, he, e48]
    congr 2
    show ([hc] == [48]) = (some hc == some 48)
    rw [Bool.eq_iff_iff, beq_iff_eq, beq_iff_eq]
    simp
theorem ok_l_ratio_note {f : Addr} {fd : FuncData} (F : Fun K "_law_ratio_note" "_law_ratio_note" s_l_ratio_note f fd) (T : Txt K mg c) : FnG P w K mg base CX0 1 f fd ["_law_ratio_here"] (spG K preNx (post1 fun d => .str (writtenD d))) := by
  refine fun_okG F sc_l_ratio_note (fun vs H Q E h => spG_len (n := 1) (fun ds ⟨_, e, _⟩ => by rw [e]; rfl) h) (fun cdv A outer s H vs Q E hg hr h => ?_)
  obtain ⟨a, S, ds, f, m, ⟨d, rfl, hn⟩, k⟩ := h
  obtain ⟨v, rfl, mv⟩ := DA.one m
  refine ⟨_, (pss_one (ps_ret (pe_ifExp (pt_val (pe_callB (kIsi (K := K)) (by rfl) T.b_isinstance (by decide +kernel) (pa_cons (pv 0) (pa_cons (pe_bltn (v := .ty "int") (by rfl) T.b_int (by decide +kernel) rfl) pa_nil)))) (pe_callTy call_str_int (by rfl) T.b_str (by decide +kernel) (pa_cons (pv 0) pa_nil)) (pe_op (kAdd (K := K)) (pe_op (kAdd (K := K)) (pe_callTy call_str_int (by rfl) T.b_str (by decide +kernel) (pa_cons (pe_ix (kIx (K := K)) (pv 0) pe_int (fun _ _ => rfl)) pa_nil)) pe_str) (pe_callTy call_str_int (by rfl) T.b_str (by decide +kernel) (pa_cons (pe_ix (kIx (K := K)) (pv 0) pe_int (fun _ _ => rfl)) pa_nil)))))), ?_⟩
  have up : ∀ {i : Int}, i.natAbs < 2 ^ 300 → i.natAbs < 2 ^ 1900 := fun h => Nat.lt_trans h (Nat.pow_lt_pow_right (by decide) (by decide))
  have e0 : Ev K a (off S H) (tVar 0) [some v] (· = d) := ev_var rfl mv
  refine q_retE (K := K) (σ := [some v]) (d := .str (writtenD d)) (Ev.imp (ev_if (B := (· = intOrBool d)) (C := (· = .str (writtenD d))) (et_valE (K := K) ((ev_isiE (n := "int") e0 (by cases d <;> rfl)).imp fun _ e => by rw [e]; cases d <;> rfl)) (fun h => ?_) fun h => ?_) fun _ e => e) f (Same.refl _) fun v5 H4 x4 m5 => k v5 _ H4 x4 m5 ⟨_, rfl, rfl⟩
  · have hi : ∃ i, d = .int i := by
      have r := hn.rat
      cases d <;> first | exact ⟨_, rfl⟩ | (cases h; done) | (cases r; done)
    obtain ⟨i, rfl⟩ := hi
    exact ev_strI e0 (up hn.top)
  · have ht : ∃ i j, d = .tuple [.int i, .int j] := by
      rcases rat_cases hn.rat with ⟨i, rfl⟩ | ⟨i, j, rfl, _⟩
      · cases h
      · exact ⟨i, j, rfl⟩
    obtain ⟨i, j, rfl⟩ := ht
    have lt := textI_len (k := 91) (i := i) (by decide) (Nat.lt_trans hn.top pow_300)
    have ll := textI_len (k := 91) (i := j) (by decide) (Nat.lt_trans hn.low pow_300)
    have l1 : slash.length = 1 := by decide +kernel
    exact ev_catS (ev_catS (ev_strI (ev_atT e0 ev_i rfl) (up hn.top)) ev_s (by omega)) (ev_strI (ev_atT e0 ev_i rfl) (up hn.low)) (by rw [len_app]; omega)
theorem ok_l_ratio_in {f : Addr} {fd : FuncData} (F : Fun K "_law_ratio_in" "_law_ratio_in" s_l_ratio_in f fd) (T : Txt K mg c) (F_l_is_digits : Df P w K mg base CX0 1 "_law_is_digits" ["_law_word_here"] (spG K preSt (post1 decD))) (F_l_common : FCm P w K mg base) : FnG P w K mg base CX0 2 f fd ["_law_word_here"] (spG K preRi postRi) := by
  refine fun_okG F sc_l_ratio_in (fun vs H Q E h => spG_len (n := 1) (fun ds ⟨_, e, _⟩ => by rw [e]; rfl) h) (fun cdv A outer s H vs Q E hg hr h => ?_)
  obtain ⟨a, S, ds, f, m, ⟨x, rfl, hx⟩, k⟩ := h
  obtain ⟨v, rfl, mv⟩ := DA.one m
  cases mv
  obtain ⟨y, hy, ey, hyl⟩ := rest_tl x
  have hy2 : if (tl x).take 1 = [45] then tl y = (tl x).drop 1 else y = x := by
    by_cases h : (tl x).take 1 = [45]
    · rw [if_pos h]
      rw [restL, if_pos h] at ey
      exact ey
    · rw [if_neg h] at hy ⊢
      exact hy
  have key := parse_pieces hy2
  have fin : ∀ {v : V} {d : PyData} {H' : Hp}, Ext a H H' → D K (off S H') v d → d = optD (parseN x) → Q v H' := fun {v d H'} z m e => k v d H' z m ⟨x, rfl, e⟩
  refine ⟨_, (pss_cons (ps_set (i := 1) sc_l_ratio_in.nd rfl (by first | exact Or.inl rfl | exact Or.inr rfl) (pe_split (pe_ifExp (pt_cmpR (kEq (K := K) hr.units) (pe_slice sl_str (pv 0) po_none (po_some pe_int)) pe_str (nomark _)) (pe_slice sl_str (pv 0) (po_some pe_int) po_none) (pv 0)) pe_str))
    (pss_cons (ps_if (PW.pt (pw_or (pt_cmpR op_gt (pe_callB (kLen (K := K)) (by rfl) T.b_len (by decide +kernel) (pa_cons (pv 1) pa_nil)) pe_int (nomark _)) (pw_or (pt_not (pt_val (pe_callB (kAll (K := K) rfl) (by rfl) T.b_all (by decide +kernel) (pa_cons (pe_lc (own := [("_law_part", 2)]) rfl sc_l_ratio_in.nd (pi_seq (pv 1)) (blkOk_by (N := ["_law_word_here", "_law_pieces", "_law_part", "_law_top", "_law_low"]) (sc := defScope s_l_ratio_in) (by decide +kernel)) (fun _ _ _ _ _ => (pg_name (i := 2) sc_l_ratio_in.nd rfl (by first | exact Or.inl rfl | exact Or.inr rfl))) (fun _ _ _ _ _ => pts_nil) (fun _ _ _ _ _ => (pe_fn F_l_is_digits hg (hr.mono (by decide)) (by rfl) pass0 (pa_cons (pv 2) pa_nil)))) pa_nil)))) (pw_or1 (pt_cmpR (kEq (K := K) hr.units) (pe_slice sl_str (pv 0) po_none (po_some pe_int)) pe_str (nomark _))))))
    (pss_one (ps_ret pe_non))
    pss_nil)
    (pss_cons (ps_set (i := 3) sc_l_ratio_in.nd rfl (by first | exact Or.inl rfl | exact Or.inr rfl) (pe_ifExp (pt_cmpR (kEq (K := K) hr.units) (pe_slice sl_str (pv 0) po_none (po_some pe_int)) pe_str (nomark _)) (pe_un un_neg (pe_callTy call_int_str (by rfl) T.b_int (by decide +kernel) (pa_cons (pe_ix (kIx (K := K)) (pv 1) pe_int (fun _ _ => rfl)) pa_nil))) (pe_callTy call_int_str (by rfl) T.b_int (by decide +kernel) (pa_cons (pe_ix (kIx (K := K)) (pv 1) pe_int (fun _ _ => rfl)) pa_nil))))
    (pss_cons (ps_if (pt_cmpR (kEq (K := K) hr.units) (pe_callB (kLen (K := K)) (by rfl) T.b_len (by decide +kernel) (pa_cons (pv 1) pa_nil)) pe_int (nomark _))
    (pss_one (ps_ret (pv 3)))
    pss_nil)
    (pss_cons (ps_set (i := 4) sc_l_ratio_in.nd rfl (by first | exact Or.inl rfl | exact Or.inr rfl) (pe_callTy call_int_str (by rfl) T.b_int (by decide +kernel) (pa_cons (pe_ix (kIx (K := K)) (pv 1) pe_int (fun _ _ => rfl)) pa_nil)))
    (pss_one (ps_ret (pe_ifExp (PW.pt (pw_and (pt_cmpR op_gt (pv 4) pe_int (nomark _)) (pw_and1 (pt_cmpR (kEq (K := K) hr.units) (pe_fn F_l_common hg (hr.mono (by decide)) (by rfl) pass0 (pa_cons (pv 3) (pa_cons (pv 4) pa_nil))) pe_int (nomark _))))) (pe_tup (pa_cons (pv 3) (pa_cons (pv 4) pa_nil))) pe_non)))))))), ?_⟩
  refine q_setE (K := K) (σ := [some (.str x), none, none, none, none]) (ev_split (y := slash) (ev_rest (i := 0) rfl (by omega) hy) (by decide +kernel) (by omega)) f (Same.refl _) ?_
  intro v1 H1 x1 f1 m1
  have sl := LK.split_len y
  have neS := split_ne y
  have pl : ∀ w ∈ Txt.split y slash, w.length ≤ y.length := fun w mw => by
    have e : tl y = TL.joinL [47] ((Txt.split y slash).map tl) := by
      rw [split_spl, spl_back]
      rfl
    have hl : ∀ {ps : List (List Nat)} {p : List Nat}, p ∈ ps → p.length ≤ (TL.joinL [47] ps).length := by
      intro ps
      induction ps with
      | nil => intro p m; cases m
      | cons q r ih =>
        intro p m
        rcases List.mem_cons.mp m with rfl | m
        · exact join_head _ _
        · have := ih m
          cases r with
          | nil => cases m
          | cons z r =>
            show _ ≤ (q ++ ([47] ++ TL.joinL [47] (z :: r))).length
            rw [List.length_append, List.length_append]
            omega
    rw [TL.len_tl, TL.len_tl y, e]
    exact hl (List.mem_map.mpr ⟨w, mw, rfl⟩)
  generalize hps : Txt.split y slash = ps at m1 key sl neS pl
  have e1 : ∀ {G : Hp} {u2 u3 u4 : Option V}, Same (off S H1) G → Ev K a G (tVar 1) [some (.str x), some v1, u2, u3, u4] (· = .list (ps.map .str)) := fun {G u2 u3 u4} s => ev_var (i := 1) rfl (m1.mono s)
  have e0 : ∀ {G : Hp} {u1 u2 u3 u4 : Option V}, Ev K a G (tVar 0) [some (.str x), u1, u2, u3, u4] (· = .str x) := ev_var (i := 0) rfl (.str x)
  have el : ∀ {G : Hp} {u2 u3 u4 : Option V}, Same (off S H1) G → Ev K a G (tCB (rLenA K) (tCons (tVar 1) tNil)) [some (.str x), some v1, u2, u3, u4] (· = .int (ps.length : Nat)) := fun {G u2 u3 u4} s => ev_lenE (n := ps.length) (e1 s) (by rw [lenD, List.length_map]) (by omega)
  have e48 : tl ("-0" : Str) = [45, 48] := by decide +kernel
  have e45 : tl ("-" : Str) = [45] := by decide +kernel
  have all_eq : (ps.map PyData.str).all (fun e => match e with | .str s => decB (tl s) | _ => false) = (ps.map tl).all decB := by
    rw [List.all_map, List.all_map]
    rfl
  dsimp only
  refine q_ifE (σ := [some (.str x), some v1, none, none, none]) (b := decide ((2 : Int) < (ps.length : Nat)) || ((!(ps.map tl).all decB) || ((tl x).take 2 == [45, 48]))) (et_orE (et_testE (K := K) (ev_cmpE (g := fun i j => decide (j < i)) (el (Same.refl _)) ev_i)) fun _ => et_orE (et_notE (et_valE (K := K) ((ev_allE (p := fun e => match e with | .str s => decB (tl s) | _ => false) (ev_lcM (es := ps.map .str) (g := fun e => .bool (match e with | .str s => decB (tl s) | _ => false)) ((e1 (Same.refl _)).imp fun _ z => .inl z) (by rw [List.length_map]; omega) (fun _ => rfl) fun e z G' hm sG mz => ?_)).imp fun _ e => by rw [e, all_eq]))) fun _ => et_testE (K := K) ((ev_eqS (ev_slT (C := (· = .str (cutS x none (some 2)))) (cI := (· = 2)) e0 (ev_isI ev_i rfl) (by omega) fun i e => by rw [e]) ev_s).imp fun _ e => by rw [e, str_eq, e48, show (2 : Int) = ((2 : Nat) : Int) from rfl, tl_cutT])) f1 (Same.refl _) (fun H2 x2 f2 e2 => ?_) (fun H2 x2 f2 e2 => ?_)
  · obtain ⟨s, ms, rfl⟩ := List.mem_map.mp hm
    exact (ev_callS (fn := decD) (ev_var (i := 2) rfl mz) (Nat.le_trans (pl s ms) (by omega))).imp fun _ e => e
  · refine q_retE (K := K) (σ := [some (.str x), some v1, none, none, none]) ev_n f2 (Same.refl _) fun v5 H4 x4 m5 => fin (x1.trans (x2.trans x4)) m5 ?_
    rw [key]
    rw [Bool.or_eq_true, Bool.or_eq_true] at e2
    rcases e2 with h | h | h
    · rw [ratP_many (by rw [List.length_map]; have := of_decide_eq_true h; omega)]
      rfl
    · rw [ratP_bad (by simpa using h)]
      rfl
    · by_cases hb : (ps.map tl).all decB = true
      · have hs : (tl x).take 1 = [45] := by
          have h2 := beq_iff_eq.mp h
          have : (tl x).take 1 = ((tl x).take 2).take 1 := by rw [List.take_take]; rfl
          rw [this, h2]
          rfl
        rw [if_pos hs] at hy2
        cases ps with
        | nil => exact absurd rfl neS
        | cons p r =>
          have hd : decB (tl p) = true := by
            rw [List.map_cons, List.all_cons, Bool.and_eq_true] at hb
            exact hb.1
          have z := zero_sign hs hy2 (by rw [hps]; rfl) hd
          rw [h] at z
          have hz : (tl p == [48]) = true := z.symm
          rw [hs]
          match r with
          | [] =>
            show PyData.none = optD (if decB (tl p) && !(true && (tl p == [48])) then _ else none)
            rw [hz, hd]
            rfl
          | [q] =>
            show PyData.none = optD (if decB (tl p) && !(true && (tl p == [48])) then _ else none)
            rw [hz, hd]
            rfl
          | _ :: _ :: _ => rfl
      · rw [ratP_bad (by simpa using hb)]
        rfl
  rw [Bool.or_eq_false_iff, Bool.or_eq_false_iff] at e2
  obtain ⟨h1, h2, h3⟩ := e2
  have hb : (ps.map tl).all decB = true := by simpa using h2
  have hn : ps.length ≤ 2 := by
    have := of_decide_eq_false h1
    omega
  obtain ⟨p, r, rfl⟩ : ∃ p r, ps = p :: r := by
    cases ps with
    | nil => exact absurd rfl neS
    | cons p r => exact ⟨p, r, rfl⟩
  have hd : decB (tl p) = true := by
    rw [List.map_cons, List.all_cons, Bool.and_eq_true] at hb
    exact hb.1
  have hz : (((tl x).take 1 == [45]) && (tl p == [48])) = false := by
    by_cases hs : (tl x).take 1 = [45]
    · rw [if_pos hs] at hy2
      have z := zero_sign hs hy2 (by rw [hps]; rfl) hd
      rw [← z, h3, Bool.and_false]
    · have : ((tl x).take 1 == [45]) = false := by simpa using hs
      rw [this, Bool.false_and]
  generalize hneg : ((tl x).take 1 == [45]) = neg at key hz
  have lp := pl p (by simp)
  have s2 := x2.off f1.mem
  dsimp only [tNext]
  have ei : ∀ {G : Hp} {σ : L2.St} {te : TE} {w : Str}, Ev K a G te σ (· = .str w) → decB (tl w) = true → w.length ≤ 640 → Ev K a G (tCB (fun xs H Q => ∃ a n, xs = [V.str a] ∧ intText? a = some n ∧ a.length ≤ 640 ∧ Q (V.int n) H) (tCons te tNil)) σ (· = valN w) := fun h hw hl => ev_intS h (int_dec hw (by omega)) hl
  have ep : ∀ {G : Hp} {u2 u3 u4 : Option V}, Same (off S H1) G → Ev K a G (tOp (rIx K) (tVar 1) (tC (.int 0))) [some (.str x), some v1, u2, u3, u4] (· = .str p) := fun s => ev_atL (e1 s) ev_i (by rw [List.map_cons]; exact atI_zero)
  refine q_setE (K := K) (σ := [some (.str x), some v1, none, none, none]) (d := .int (if neg = true then -((digitsVal (tl p) : Nat) : Int) else (digitsVal (tl p) : Nat))) (Ev.imp (ev_ifE (b := neg) (d := .int (-((digitsVal (tl p) : Nat) : Int))) (e := .int ((digitsVal (tl p) : Nat) : Int)) (et_testE (K := K) ((ev_eqS (ev_slT (C := (· = .str (cutS x none (some 1)))) (cI := (· = 1)) e0 (ev_isI ev_i rfl) (by omega) fun i e => by rw [e]) ev_s).imp fun _ e => by rw [e, str_eq, e45, tl_cutT1, hneg])) (fun _ => ev_negE (ei (ep s2) hd (by omega))) fun _ => ei (ep s2) hd (by omega)) fun z e => by rw [e]; split <;> rfl) f2 (Same.refl _) ?_
  intro v3 H3 x3 f3 m3
  cases m3
  generalize ht : (if neg = true then -((digitsVal (tl p) : Nat) : Int) else (digitsVal (tl p) : Nat)) = top
  have s3 := s2.trans (x3.off f2.mem)
  have x03 := x1.trans (x2.trans x3)
  have hpz : (decB (tl p) && !(neg && (tl p == [48]))) = true := by rw [hd, hz]; rfl
  dsimp only
  refine q_ifE (σ := [some (.str x), some v1, none, some (.int top), none]) (b := decide (((p :: r).length : Int) = 1)) (et_testE (K := K) (ev_eqIE (el s3) ev_i)) f3 (Same.refl _) (fun H4 x4 f4 e4 => ?_) (fun H4 x4 f4 e4 => ?_)
  · refine q_retE (K := K) (σ := [some (.str x), some v1, none, some (.int top), none]) (ev_var (i := 3) rfl (.int top)) f4 (Same.refl _) fun v5 H5 x5 m5 => fin (x03.trans (x4.trans x5)) m5 ?_
    have r0 : r = [] := by
      have := of_decide_eq_true e4
      rw [List.length_cons] at this
      exact List.length_eq_zero_iff.mp (by omega)
    subst r0
    rw [key]
    show _ = optD (if decB (tl p) && !(neg && (tl p == [48])) then some (PyData.int (if neg = true then -((digitsVal (tl p) : Nat) : Int) else (digitsVal (tl p) : Nat))) else none)
    rw [hpz, ht]
    rfl
  obtain ⟨q, rfl⟩ : ∃ q, r = [q] := by
    have := of_decide_eq_false e4
    rw [List.length_cons] at this hn
    match r, hn, this with
    | [q], _, _ => exact ⟨q, rfl⟩
    | [], _, h => exact absurd rfl h
  have hq : decB (tl q) = true := by
    simp at hb
    exact hb.2
  have lq := pl q (by simp)
  have s4 := s3.trans (x4.off f3.mem)
  dsimp only [tNext]
  refine q_setE (K := K) (σ := [some (.str x), some v1, none, some (.int top), none]) (d := valN q) (ei (ev_atL (e1 s4) ev_i rfl) hq (by omega)) f4 (Same.refl _) ?_
  intro v4 H5 x5 f5 m4
  cases m4
  generalize hl : ((digitsVal (tl q) : Nat) : Int) = low
  have l0 : 0 ≤ low := by omega
  have x05 := x03.trans (x4.trans x5)
  dsimp only
  refine q_retE (K := K) (σ := [some (.str x), some v1, none, some (.int top), some (.int low)]) (d := optD (parseN x)) (Ev.imp (ev_ifE (b := decide ((1 : Int) < low) && decide (((Int.gcd top low : Nat) : Int) = 1)) (d := .tuple [.int top, .int low]) (e := .none) (et_andE (et_testE (K := K) (ev_cmpE (g := fun i j => decide (j < i)) (ev_var (i := 4) rfl (.int low)) ev_i)) fun _ => et_testE (K := K) (ev_eqIE (ev_callI (g := gcdP) (ev_var (i := 3) rfl (.int top)) (ev_var (i := 4) rfl (.int low)) l0) ev_i)) (fun _ => ev_tupE (ea_eq (ev_var (i := 3) rfl (.int top)) (ea_eq (ev_var (i := 4) rfl (.int low)) ea_nil)) (by show 2 ≤ 1000; decide)) fun _ => ev_n) fun z e => ?_) f5 (Same.refl _) fun v5 H6 x6 m5 => fin (x05.trans x6) m5 rfl
  rw [e, key]
  show _ = optD (if decB (tl p) && !(neg && (tl p == [48])) then (if decB (tl q) && isRatD (PyData.tuple [PyData.int (if neg = true then -((digitsVal (tl p) : Nat) : Int) else (digitsVal (tl p) : Nat)), PyData.int ((digitsVal (tl q) : Nat) : Int)]) then some (PyData.tuple [PyData.int (if neg = true then -((digitsVal (tl p) : Nat) : Int) else (digitsVal (tl p) : Nat)), PyData.int ((digitsVal (tl q) : Nat) : Int)]) else none) else none)
  rw [hpz, ht, hl, hq]
  have er : isRatD (PyData.tuple [PyData.int top, PyData.int low]) = (decide ((1 : Int) < low) && decide (((Int.gcd top low : Nat) : Int) = 1)) := by
    show (decide (2 ≤ low) && decide (Int.gcd top low = 1)) = _
    rw [Bool.eq_iff_iff]
    simp only [Bool.and_eq_true, decide_eq_true_eq]
    omega
  rw [er]
  simp only [if_true, Bool.true_and]
  split <;> rfl
end
end K91
set_option Elab.async false
set_option linter.all false
set_option maxRecDepth 100000
set_option maxHeartbeats 1000000
namespace K91
open PySem PySem.Spec L2 LK
open PyProof.Rows hiding St
local macro_rules | `(tactic| walk_at "ext") => `(tactic| first | exact Ext.refl | assumption | (refine Ext.trans ?_ (by assumption); walk_at "ext"))
local macro_rules | `(tactic| walk_at "sm") => `(tactic| first | exact Same.refl _ | assumption | (refine Ext.off ?_ (Fr.mem (by assumption)); walk_at "ext"))
local macro_rules | `(tactic| walk_at "dm") => `(tactic| first | assumption | exact .int _ | exact .bl _ | exact .str _ | exact .non | (refine D.mono (by assumption) ?_; walk_at "sm"))
local macro_rules | `(tactic| walk_at "sd") => `(tactic| first | assumption | rfl | decide | omega | (show _ ≤ 1000; decide))
local macro_rules | `(tactic| walk_at "ea") => `(tactic| first | exact ea_nil | (refine ea_eq ?_ ?_; (walk_at "ev"); (walk_at "ea")))
local macro_rules | `(tactic| walk_at "et") => `(tactic| first
  | (refine et_valE ?_; walk_at "ev") | (refine et_testE ?_; walk_at "ev") | (refine et_notE ?_; walk_at "et")
  | (refine et_andE ?_ (fun _ => ?_); (walk_at "et"); (walk_at "et")) | (refine et_orE ?_ (fun _ => ?_); (walk_at "et"); (walk_at "et")))
local macro_rules | `(tactic| walk_at "ev") => `(tactic| first
  | exact ev_i | exact ev_s | exact ev_b | exact ev_n | exact ev_dnew
  | (refine ev_var rfl ?_; walk_at "dm")
  | (refine ev_tupE ?_ ?_; (walk_at "ea"); (walk_at "sd")) | (refine ev_lstE ?_ ?_; (walk_at "ea"); (walk_at "sd"))
  | (refine ev_negE ?_; walk_at "ev")
  | (refine ev_isiE ?_ ?_; (walk_at "ev"); (walk_at "sd"))
  | (refine ev_lenE ?_ ?_ ?_; (walk_at "ev"); (walk_at "sd"); (walk_at "sd"))
  | (refine ev_atL ?_ ?_ ?_; (walk_at "ev"); (walk_at "ev"); (walk_at "sd")) | (refine ev_atT ?_ ?_ ?_; (walk_at "ev"); (walk_at "ev"); (walk_at "sd"))
  | (refine ev_addE ?_ ?_; (walk_at "ev"); (walk_at "ev")) | (refine ev_cmpE ?_ ?_; (walk_at "ev"); (walk_at "ev")) | (refine ev_i0E ?_ ?_; (walk_at "ev"); (walk_at "ev"))
  | (refine ev_mulE ?_ ?_ ?_; (walk_at "ev"); (walk_at "ev"); (walk_at "sd"))
  | (refine ev_eqIE ?_ ?_; (walk_at "ev"); (walk_at "ev")) | (refine ev_neIE ?_ ?_; (walk_at "ev"); (walk_at "ev"))
  | (refine ev_andE ?_ (fun _ => ?_); (walk_at "ev"); (walk_at "ev")) | (refine ev_orE ?_ (fun _ => ?_); (walk_at "ev"); (walk_at "ev")) | (refine ev_notE ?_; walk_at "ev")
  | (refine ev_fn ?_ ?_; (walk_at "ea"); (walk_at "sd")))
local macro_rules | `(tactic| walk_at "lit") => `(tactic| first | exact ev_i | exact ev_s | exact ev_b | exact ev_n | exact ev_dnew | (refine ev_negE ?_; walk_at "lit") | (refine ev_tupE ?_ (by decide); walk_at "lits") | (refine ev_lstE ?_ (by decide); walk_at "lits") | (refine ev_powE ?_ ?_ ⟨by decide, by decide, by decide⟩ <;> walk_at "lit"))
local macro_rules | `(tactic| walk_at "lits") => `(tactic| first | exact ea_nil | (refine ea_eq ?_ ?_; (walk_at "lit"); (walk_at "lits")))
section
open TL (tl numL)
open NumText (digitsVal AllDigits)
variable {P : Program} {w : World} {K : PySem.W.Frag} {mg : Str → Option Value} {c : Cls} {base : Heap} {a : Addr} {G : Hp} {S : List Addr} {H : Hp}
theorem ok_l_is_word {f : Addr} {fd : FuncData} (F : Fun K "_law_is_word" "_law_is_word" s_l_is_word f fd) (T : Txt K mg c) : FnG P w K mg base CX0 1 f fd ["_law_word_here"] (spG K preIw postIw) := by
  refine fun_okG F sc_l_is_word (fun vs H Q E h => spG_len (n := 1) (fun ds ⟨_, e, _⟩ => by rw [e]; rfl) h) (fun cdv A outer s H vs Q E hg hr h => ?_)
  obtain ⟨a, S, ds, f, m, ⟨x, rfl, hx⟩, k⟩ := h
  obtain ⟨v, rfl, mv⟩ := DA.one m
  refine ⟨_, (pss_one (ps_ret (pe_and (pe_chain op_le op_le pe_int (pe_callB (kLen (K := K)) (by rfl) T.b_len (by decide +kernel) (pa_cons (pv 0) pa_nil)) pe_int) (pe_one (pe_callB (kAll (K := K) rfl) (by rfl) T.b_all (by decide +kernel) (pa_cons (pe_lc (own := [("_law_letter", 1)]) rfl sc_l_is_word.nd (pi_str (pv 0)) (blkOk_by (N := ["_law_word_here", "_law_letter"]) (sc := defScope s_l_is_word) (by decide +kernel)) (fun _ _ _ _ _ => (pg_name (i := 1) sc_l_is_word.nd rfl (by first | exact Or.inl rfl | exact Or.inr rfl))) (fun _ _ _ _ _ => pts_nil) (fun _ _ _ _ _ => (pe_cmpR (kIn (K := K)) (pv 1) pe_str (by rfl)))) pa_nil)))))), ?_⟩
  have e0 : Ev K a (off S H) (tVar 0) [some v, none] (· = .str x) := ev_var rfl mv
  refine q_retE (K := K) (σ := [some v, none]) (d := .bool (isNameD (.str x))) (Ev.imp (ev_andE (b := decide ((1 : Int) ≤ (x.length : Nat)) && decide (((x.length : Nat) : Int) ≤ 8)) (c := x.cps.toList.all fun c => decide (c ∈ abc.cps.toList)) (ev_chainE (g := fun i j => decide (i ≤ j)) (g' := fun i j => decide (i ≤ j)) ev_i (ev_lenE (n := x.length) e0 rfl (by omega)) ev_i) fun _ => ev_allAbc e0 (by omega)) fun z e => by rw [e, isName_str]) f (Same.refl _) fun v5 H4 x4 m5 => k v5 _ H4 x4 m5 ⟨x, rfl, rfl⟩
theorem ok_l_row_note {f : Addr} {fd : FuncData} (F : Fun K "_law_row_note" "_law_row_note" s_l_row_note f fd) (T : Txt K mg c) (F_l_ratio_note : Df P w K mg base CX0 1 "_law_ratio_note" ["_law_ratio_here"] (spG K preNx (post1 fun d => .str (writtenD d)))) : FnG P w K mg base CX0 2 f fd ["_law_row"] (spG K preRn postRn) := by
  refine fun_okG F sc_l_row_note (fun vs H Q E h => spG_len (n := 1) (fun ds ⟨_, e, _⟩ => by rw [e]; rfl) h) (fun cdv A outer s H vs Q E hg hr h => ?_)
  obtain ⟨a, S, ds, f, m, ⟨r, rfl, hb⟩, k⟩ := h
  obtain ⟨v, rfl, mv⟩ := DA.one m
  refine ⟨_, (pss_one (ps_ret (pe_bmK (K := K) PySem.F.plainAttrs_str PySem.F.slot_str_join PySem.F.type_str_join (kJoin (K := K)) pe_str (pa_cons (pe_lst (pa_cons (pe_callTy call_str_int (by rfl) T.b_str (by decide +kernel) (pa_cons (pe_ix (kIx (K := K)) (pv 0) pe_int (fun _ _ => rfl)) pa_nil)) (pa_cons (pe_callTy call_str_int (by rfl) T.b_str (by decide +kernel) (pa_cons (pe_ix (kIx (K := K)) (pv 0) pe_int (fun _ _ => rfl)) pa_nil)) (pa_cons (pe_ix (kIx (K := K)) (pv 0) pe_int (fun _ _ => rfl)) (pa_cons (pe_ix (kIx (K := K)) (pv 0) pe_int (fun _ _ => rfl)) (pa_cons (pe_fn F_l_ratio_note hg (hr.mono (by decide)) (by rfl) pass0 (pa_cons (pe_ix (kIx (K := K)) (pv 0) pe_int (fun _ _ => rfl)) pa_nil)) pa_nil)))))) pa_nil)))), ?_⟩
  have e0 : Ev K a (off S H) (tVar 0) [some v] (· = r.d) := ev_var rfl mv
  have ix : ∀ {i : Int} {d : PyData}, atI [.int r.l, .int r.t, .str r.w, .str r.f, r.n] i = some d → Ev K a (off S H) (tOp (rIx K) (tVar 0) (tC (.int i))) [some v] (· = d) := fun h => ev_atT e0 ev_i h
  have up : ∀ {i : Int}, i.natAbs < 2 ^ 300 → i.natAbs < 2 ^ 1900 := fun h => Nat.lt_trans h (Nat.pow_lt_pow_right (by decide) (by decide))
  have l1 := textI_len (k := 91) (i := r.l) (by decide) (Nat.lt_trans hb.l pow_300)
  have l2 := textI_len (k := 91) (i := r.t) (by decide) (Nat.lt_trans hb.t pow_300)
  have l5 := (written_text (k := 91) (by decide) hb.n.rat (Nat.lt_trans hb.n.top pow_300) (Nat.lt_trans hb.n.low pow_300)).len
  have lw := hb.w
  have lf := hb.f
  refine q_retE (K := K) (σ := [some v]) (d := .str (noteR r)) (ev_join (C1 := (· = .str (noteR r))) (z := gap) (ev_lstE (ea_eq (ev_strI (ix rfl) (up hb.l)) (ea_eq (ev_strI (ix rfl) (up hb.t)) (ea_eq (ix rfl) (ea_eq (ix rfl) (ea_eq (ev_callG (C := (· = .str (writtenD r.n))) (ea_eq (ix rfl) ea_nil) (fun _ e => ⟨r.n, e, hb.n⟩) fun ds z e ⟨d', q, z'⟩ => by
    rw [e] at q
    injection q with q _
    rw [z', q]) ea_nil))))) (by show 5 ≤ 1000; decide)) ?_) f (Same.refl _) fun v5 H4 x4 m5 => k v5 _ H4 x4 m5 ⟨r, rfl, rfl⟩
  rintro _ rfl
  refine ⟨noteWs r, rfl, ?_, rfl⟩
  have g1 : gap.length = 1 := by decide +kernel
  simp only [noteWs, List.map_cons, List.map_nil, List.sum_cons, List.sum_nil, List.length_cons, List.length_nil, g1]
  omega
theorem ok_l_row_in {f : Addr} {fd : FuncData} (F : Fun K "_law_row_in" "_law_row_in" s_l_row_in f fd) (T : Txt K mg c) (F_l_is_digits : Df P w K mg base CX0 1 "_law_is_digits" ["_law_word_here"] (spG K preSt (post1 decD))) (F_l_ratio_in : Df P w K mg base CX0 2 "_law_ratio_in" ["_law_word_here"] (spG K preRi postRi))
    (F_l_is_word : Df P w K mg base CX0 1 "_law_is_word" ["_law_word_here"] (spG K preIw postIw)) : FnG P w K mg base CX0 3 f fd ["_law_note", "_law_labels"] (spG K preRo postRo) := by
  refine fun_okG F sc_l_row_in (fun vs H Q E h => spG_len (n := 2) (fun ds ⟨_, _, e, _⟩ => by rw [e]; rfl) h) (fun cdv A outer s H vs Q E hg hr h => ?_)
  obtain ⟨a, S, ds, f, m, ⟨x, ns, rfl, hx, ln⟩, k⟩ := h
  obtain ⟨v, w, rfl, mv, mw⟩ := DA.two m
  cases mv
  have hl := hx.len
  have fin : ∀ {v : V} {d : PyData} {H' : Hp}, Ext a H H' → D K (off S H') v d → d = optD (rowInD ns x) → Q v H' := fun {v d H'} y m e => k v d H' y m ⟨x, ns, rfl, by rw [e, row_set]⟩
  refine ⟨_, (pss_cons (ps_set (i := 2) sc_l_row_in.nd rfl (by first | exact Or.inl rfl | exact Or.inr rfl) (pe_split (pv 0) pe_str))
    (pss_cons (ps_if (PW.pt (pw_or (pt_cmpR (kNe (K := K) hr.units) (pe_callB (kLen (K := K)) (by rfl) T.b_len (by decide +kernel) (pa_cons (pv 2) pa_nil)) pe_int (nomark _)) (pw_or (pt_cmpR (kNotIn (K := K)) (pe_ix (kIx (K := K)) (pv 2) pe_int (fun _ _ => rfl)) (pe_lst (pa_cons pe_str (pa_cons pe_str (pa_cons pe_str pa_nil)))) (by rfl)) (pw_or (pt_not (pt_val (pe_fn F_l_is_digits hg (hr.mono (by decide)) (by rfl) pass0 (pa_cons (pe_ix (kIx (K := K)) (pv 2) pe_int (fun _ _ => rfl)) pa_nil)))) (pw_or1 (pt_cmpR (kEq (K := K) hr.units) (pe_ix (kIx (K := K)) (pv 2) pe_int (fun _ _ => rfl)) pe_str (nomark _)))))))
    (pss_one (ps_ret pe_non))
    pss_nil)
    (pss_cons (ps_set (i := 3) sc_l_row_in.nd rfl (by first | exact Or.inl rfl | exact Or.inr rfl) (pe_fn F_l_ratio_in hg (hr.mono (by decide)) (by rfl) pass0 (pa_cons (pe_ix (kIx (K := K)) (pv 2) pe_int (fun _ _ => rfl)) pa_nil)))
    (pss_cons (ps_if (PW.pt (pw_or (pt_not (pt_val (pe_fn F_l_is_word hg (hr.mono (by decide)) (by rfl) pass0 (pa_cons (pe_ix (kIx (K := K)) (pv 2) pe_int (fun _ _ => rfl)) pa_nil)))) (pw_or (pt_cmpR (kNotIn (K := K)) (pe_ix (kIx (K := K)) (pv 2) pe_int (fun _ _ => rfl)) (pv 1) (by rfl)) (pw_or1 (pt_cmpR op_isN (pv 3) pe_non (nomark _))))))
    (pss_one (ps_ret pe_non))
    pss_nil)
    (pss_one (ps_ret (pe_tup (pa_cons (pe_callTy call_int_str (by rfl) T.b_int (by decide +kernel) (pa_cons (pe_ix (kIx (K := K)) (pv 2) pe_int (fun _ _ => rfl)) pa_nil)) (pa_cons (pe_callTy call_int_str (by rfl) T.b_int (by decide +kernel) (pa_cons (pe_ix (kIx (K := K)) (pv 2) pe_int (fun _ _ => rfl)) pa_nil)) (pa_cons (pe_ix (kIx (K := K)) (pv 2) pe_int (fun _ _ => rfl)) (pa_cons (pe_ix (kIx (K := K)) (pv 2) pe_int (fun _ _ => rfl)) (pa_cons (pv 3) pa_nil)))))))))))), ?_⟩
  refine q_setE (K := K) (σ := [some (.str x), some w, none, none]) (ev_split (y := gap) (ev_var (i := 0) rfl (.str x)) (by decide +kernel) (by omega)) f (Same.refl _) ?_
  intro v2 H1 x1 f1 m2
  have ss := split_sum x
  have hw0 : ∀ w ∈ Txt.split x gap, TextOk 200 w := fun w mw => hx.word mw
  dsimp only
  by_cases h5 : (Txt.split x gap).length = 5
  · obtain ⟨wa, wb, wc, wd, we, hs⟩ : ∃ wa wb wc wd we, Txt.split x gap = [wa, wb, wc, wd, we] := by
      match hw : Txt.split x gap, h5 with
      | [wa, wb, wc, wd, we], _ => exact ⟨_, _, _, _, _, rfl⟩
    rw [hs] at m2 hw0
    have la := (hw0 wa (by simp)).len
    have lb := (hw0 wb (by simp)).len
    have lc := (hw0 wc (by simp)).len
    have le := (hw0 we (by simp)).len
    have e2 : ∀ {G : Hp} {u : Option V}, Same (off S H1) G → Ev K a G (tVar 2) [some (.str x), some w, some v2, u] (· = .list [.str wa, .str wb, .str wc, .str wd, .str we]) := fun {G u} s => ev_var (i := 2) rfl (m2.mono s)
    have e1 : ∀ {G : Hp} {u : Option V}, Same (off S H1) G → Ev K a G (tVar 1) [some (.str x), some w, some v2, u] (· = .list (ns.map .str)) := fun {G u} s => ev_var (i := 1) rfl ((mw.mono (x1.off f.mem)).mono s)
    have ix : ∀ {G : Hp} {u : Option V} {i : Int} {d : PyData}, Same (off S H1) G → atI [.str wa, .str wb, .str wc, .str wd, .str we] i = some d → Ev K a G (tOp (rIx K) (tVar 2) (tC (.int i))) [some (.str x), some w, some v2, u] (· = d) := fun s h => ev_atL (e2 s) ev_i h
    have erow : rowInD ns x = if ((decide (wa ∈ (["0", "1", "2"] : List Str)) && (decB (tl wb) && !decide (wb = "0"))) && (isNameD (.str wc) && decide (wd ∈ ns))) = true then (parseN we).map fun n => .tuple [valN wa, valN wb, .str wc, .str wd, n] else none := by
      unfold rowInD
      rw [hs]
    refine q_ifE (σ := [some (.str x), some w, some v2, none]) (b := !decide (((5 : Nat) : Int) = 5) || ((!decide (wa ∈ (["0", "1", "2"] : List Str))) || ((!decB (tl wb)) || decide (wb = "0")))) (et_orE (et_testE (K := K) (ev_neIE (ev_lenE (n := 5) (e2 (Same.refl _)) rfl (by decide)) ev_i)) fun _ => et_orE (et_testE (K := K) (ev_notInS (ns := ["0", "1", "2"]) (ix (Same.refl _) rfl) (ev_lstE (ea_eq ev_s (ea_eq ev_s (ea_eq ev_s ea_nil))) (by show 3 ≤ 1000; decide)))) fun _ => et_orE (et_notE (et_valE (K := K) ((ev_callS (fn := decD) (ix (Same.refl _) rfl) (by omega)).imp fun _ e => e))) fun _ => et_testE (K := K) (ev_eqS (ix (Same.refl _) rfl) ev_s)) f1 (Same.refl _) (fun H2 x2 f2 e3 => ?_) (fun H2 x2 f2 e3 => ?_)
    · refine q_retE (K := K) (σ := [some (.str x), some w, some v2, none]) ev_n f2 (Same.refl _) fun v5 H4 x4 m5 => fin (x1.trans (x2.trans x4)) m5 ?_
      rw [erow]
      have : (decide (wa ∈ (["0", "1", "2"] : List Str)) && (decB (tl wb) && !decide (wb = "0"))) = false := by
        rw [show decide (((5 : Nat) : Int) = 5) = true from rfl] at e3
        cases h1 : decide (wa ∈ (["0", "1", "2"] : List Str)) <;> cases h2 : decB (tl wb) <;> cases h3 : decide (wb = "0") <;> rw [h1, h2, h3] at e3 <;> first | rfl | cases e3
      rw [this]
      rfl
    have hg : (decide (wa ∈ (["0", "1", "2"] : List Str)) && (decB (tl wb) && !decide (wb = "0"))) = true := by
      rw [show decide (((5 : Nat) : Int) = 5) = true from rfl] at e3
      cases h1 : decide (wa ∈ (["0", "1", "2"] : List Str)) <;> cases h2 : decB (tl wb) <;> cases h3 : decide (wb = "0") <;> rw [h1, h2, h3] at e3 <;> first | rfl | cases e3
    have s2 := x2.off f1.mem
    dsimp only [tNext]
    refine q_setE (K := K) (σ := [some (.str x), some w, some v2, none]) (d := optD (parseN we)) (ev_callE (ea_eq (ix s2 rfl) ea_nil) ⟨we, rfl, by omega⟩ fun r ⟨w', q, z⟩ => by
      injection q with q _
      injection q with q
      rw [z, q]) f2 (Same.refl _) ?_
    intro v3 H3 x3 f3 m3
    have s3 := s2.trans (x3.off f2.mem)
    have x03 := x1.trans (x2.trans x3)
    have en : noneD (optD (parseN we)) = !(parseN we).isSome := by
      cases h : parseN we with
      | none => rfl
      | some d =>
        have r := (written_parse h).2
        show noneD d = false
        cases d <;> first | rfl | cases r
    dsimp only
    refine q_ifE (σ := [some (.str x), some w, some v2, some v3]) (b := (!isNameD (.str wc)) || ((!decide (wd ∈ ns)) || !(parseN we).isSome)) (et_orE (et_notE (et_valE (K := K) (ev_callE (C := (· = .bool (isNameD (.str wc)))) (ea_eq (ix s3 rfl) ea_nil) ⟨wc, rfl, by omega⟩ fun r ⟨w', q, z⟩ => by
      injection q with q _
      injection q with q
      rw [z, q]))) fun _ => et_orE (et_testE (K := K) (ev_notInS (ix s3 rfl) (e1 s3))) fun _ => et_testE (K := K) ((ev_isN (ev_var (i := 3) rfl m3)).imp fun _ e => by rw [e, en])) f3 (Same.refl _) (fun H4 x4 f4 e4 => ?_) (fun H4 x4 f4 e4 => ?_)
    · refine q_retE (K := K) (σ := [some (.str x), some w, some v2, some v3]) ev_n f4 (Same.refl _) fun v5 H5 x5 m5 => fin (x03.trans (x4.trans x5)) m5 ?_
      rw [erow, hg, Bool.true_and]
      cases h1 : isNameD (.str wc) <;> cases h2 : decide (wd ∈ ns) <;> cases h3 : parseN we <;> rw [h1, h2, h3] at e4 <;> first | rfl | cases e4
    · obtain ⟨n, hn⟩ : ∃ n, parseN we = some n := by
        cases h3 : parseN we with
        | none =>
          rw [h3] at e4
          cases h1 : isNameD (.str wc) <;> cases h2 : decide (wd ∈ ns) <;> rw [h1, h2] at e4 <;> cases e4
        | some n => exact ⟨n, rfl⟩
      have h12 : (isNameD (.str wc) && decide (wd ∈ ns)) = true := by
        cases h1 : isNameD (.str wc) <;> cases h2 : decide (wd ∈ ns) <;> rw [h1, h2] at e4 <;> first | rfl | cases e4
      have hb2 : decB (tl wb) = true := by
        simp only [Bool.and_eq_true] at hg
        exact hg.2.1
      have ha2 : decB (tl wa) = true := by
        have q : ∀ x ∈ (["0", "1", "2"] : List Str), decB (tl x) = true := by decide +kernel
        rw [Bool.and_eq_true] at hg
        exact q wa (of_decide_eq_true hg.1)
      have s4 := s3.trans (x4.off f3.mem)
      have ei : ∀ {te : TE} {z : Str}, Ev K a (off S H4) te [some (.str x), some w, some v2, some v3] (· = .str z) → decB (tl z) = true → z.length ≤ 640 → Ev K a (off S H4) (tCB (fun xs H Q => ∃ a n, xs = [V.str a] ∧ intText? a = some n ∧ a.length ≤ 640 ∧ Q (V.int n) H) (tCons te tNil)) [some (.str x), some w, some v2, some v3] (· = valN z) := fun h hw hl => ev_intS h (int_dec hw (by omega)) hl
      dsimp only [tNext]
      refine q_retE (K := K) (σ := [some (.str x), some w, some v2, some v3]) (d := .tuple [valN wa, valN wb, .str wc, .str wd, optD (parseN we)]) (ev_tupE (ea_eq (ei (ix s4 rfl) ha2 (by omega)) (ea_eq (ei (ix s4 rfl) hb2 (by omega)) (ea_eq (ix s4 rfl) (ea_eq (ix s4 rfl) (ea_eq (ev_var (i := 3) rfl (m3.mono (x4.off f3.mem))) ea_nil))))) (by show 5 ≤ 1000; decide)) f4 (Same.refl _) fun v5 H5 x5 m5 => fin (x03.trans (x4.trans x5)) m5 ?_
      rw [erow, hg, h12, hn]
      rfl
  · refine q_ifE (σ := [some (.str x), some w, some v2, none]) (b := true || true) (et_orE (et_testE (K := K) ((ev_neIE (ev_lenE (n := (Txt.split x gap).length) (ev_var (i := 2) rfl m2) (by rw [lenD, List.length_map]) (by omega)) ev_i).imp fun _ e => by rw [e, decide_eq_false (by omega)]; rfl)) fun h => nomatch h) f1 (Same.refl _) (fun H2 x2 f2 e3 => ?_) (fun H2 x2 f2 e3 => nomatch e3)
    refine q_retE (K := K) (σ := [some (.str x), some w, some v2, none]) ev_n f2 (Same.refl _) fun v5 H4 x4 m5 => fin (x1.trans (x2.trans x4)) m5 ?_
    unfold rowInD
    split
    · rename_i hs
      rw [hs] at h5
      exact absurd rfl h5
    · rfl
theorem ok_l_is_short {f : Addr} {fd : FuncData} (F : Fun K "_law_is_short" "_law_is_short" s_l_is_short f fd) (T : Txt K mg c) : FnG P w K mg base CX0 1 f fd ["_law_note"] (spG K (preTx 600) fun _ z => ∃ b, z = .bool b) := by
  refine fun_okG F sc_l_is_short (fun vs H Q E h => spG_len (n := 1) (fun ds ⟨_, e, _⟩ => by rw [e]; rfl) h) (fun cdv A outer s H vs Q E hg hr h => ?_)
  obtain ⟨a, S, ds, f, m, ⟨x, rfl, hx⟩, k⟩ := h
  obtain ⟨v, rfl, mv⟩ := DA.one m
  cases mv
  have hl := hx.len
  refine ⟨_, (pss_cons (ps_set (i := 1) sc_l_is_short.nd rfl (by first | exact Or.inl rfl | exact Or.inr rfl) pe_int)
    (pss_cons (ps_for PassesOwn.never rfl (pi_str (pv 0)) (pg_name (i := 2) sc_l_is_short.nd rfl (by first | exact Or.inl rfl | exact Or.inr rfl))
    (pss_cons (ps_set (i := 1) sc_l_is_short.nd rfl (by first | exact Or.inl rfl | exact Or.inr rfl) (pe_ifExp (pt_cmpR (kIn (K := K)) (pv 2) pe_str (by rfl)) (pe_op (kAdd (K := K)) (pv 1) pe_int) pe_int))
    (pss_one (ps_if (pt_cmpR op_gt (pv 1) pe_int (nomark _))
    (pss_one (ps_ret pe_bl))
    pss_nil))))
    (pss_one (ps_ret pe_bl)))), ?_⟩
  refine q_setE (K := K) (σ := [some (.str x), none, none]) ev_i f (Same.refl _) ?_
  intro v1 H1 x1 f1 m1
  cases m1
  dsimp only
  refine q_forW (K := K) (σ := [some (.str x), some (.int 0), none]) (walks_str (ev_var (i := 0) rfl (.str x))) f1 (Same.refl _) S fun H2 x2 f2 =>
    ⟨fun i σ' H' => ∃ (n : Int) (y : Option V), σ' = [some (.str x), some (.int n), y] ∧ Ext a H2 H' ∧ LK.Fr a S H', ⟨0, _, rfl, Ext.refl, f2⟩, fun i σ' H' ⟨_, _, _, x', f'⟩ => ⟨f', x'.off f2.mem⟩, ?_, ?_⟩
  · rintro i u d σ' H' H3 hi ⟨n, y, rfl, x', f'⟩ x'' _ mu ⟨cc, hc, rfl⟩
    cases mu
    have f3 := f'.ext x''
    have x3 := x'.trans x''
    show tSeq _ _ _ _ H3
    refine q_set (K := K) (σ := [some (.str x), some (.int n), some (.str ⟨#[cc]⟩)]) (C := IsI fun _ => True) (ev_if (B := fun _ => True) (et_test (ev_inSgn (z := digs) (P := fun _ => True) (B := fun _ => True) ((ev_var (i := 2) rfl (.str ⟨#[cc]⟩)).imp fun _ e => ⟨cc, e, True.intro⟩) ev_s fun _ _ => True.intro)) (fun _ => (ev_addE (ev_var (i := 1) rfl (.int n)) ev_i).imp fun _ e => ⟨_, e, True.intro⟩) fun _ => ev_isI ev_i True.intro) f3 (Same.refl _) ?_
    rintro v4 _ H4 x4 f4 m4 ⟨n', rfl, _⟩
    cases m4
    dsimp only
    refine q_ifE (σ := [some (.str x), some (.int n'), some (.str ⟨#[cc]⟩)]) (et_testE (K := K) (ev_cmpE (g := fun i j => decide (j < i)) (ev_var (i := 1) rfl (.int n')) ev_i)) f4 (Same.refl _) (fun H5 x5 f5 _ => ?_) (fun H5 x5 f5 _ => ?_)
    · exact q_retE (K := K) (σ := [some (.str x), some (.int n'), some (.str ⟨#[cc]⟩)]) ev_b f5 (Same.refl _) fun v5 H6 x6 m5 => k v5 _ H6 (x1.trans (x2.trans (x3.trans (x4.trans (x5.trans x6))))) m5 ⟨_, rfl⟩
    · exact ⟨_, _, rfl, x3.trans (x4.trans x5), f5⟩
  · rintro σ' H' ⟨n, y, rfl, x', f'⟩
    dsimp only
    exact q_retE (K := K) (σ := [some (.str x), some (.int n), y]) ev_b f' (Same.refl _) fun v5 H6 x6 m5 => k v5 _ H6 (x1.trans (x2.trans (x'.trans x6))) m5 ⟨_, rfl⟩
end
end K91
set_option Elab.async false
set_option linter.all false
set_option maxRecDepth 100000
set_option maxHeartbeats 1000000
namespace K91
open PySem PySem.Spec L2 LK
open PyProof.Rows hiding St
local macro_rules | `(tactic| walk_at "ext") => `(tactic| first | exact Ext.refl | assumption | (refine Ext.trans ?_ (by assumption); walk_at "ext"))
local macro_rules | `(tactic| walk_at "sm") => `(tactic| first | exact Same.refl _ | assumption | (refine Ext.off ?_ (Fr.mem (by assumption)); walk_at "ext"))
local macro_rules | `(tactic| walk_at "dm") => `(tactic| first | assumption | exact .int _ | exact .bl _ | exact .str _ | exact .non | (refine D.mono (by assumption) ?_; walk_at "sm"))
local macro_rules | `(tactic| walk_at "sd") => `(tactic| first | assumption | rfl | decide | omega | (show _ ≤ 1000; decide))
local macro_rules | `(tactic| walk_at "ea") => `(tactic| first | exact ea_nil | (refine ea_eq ?_ ?_; (walk_at "ev"); (walk_at "ea")))
local macro_rules | `(tactic| walk_at "et") => `(tactic| first
  | (refine et_valE ?_; walk_at "ev") | (refine et_testE ?_; walk_at "ev") | (refine et_notE ?_; walk_at "et")
  | (refine et_andE ?_ (fun _ => ?_); (walk_at "et"); (walk_at "et")) | (refine et_orE ?_ (fun _ => ?_); (walk_at "et"); (walk_at "et")))
local macro_rules | `(tactic| walk_at "ev") => `(tactic| first
  | exact ev_i | exact ev_s | exact ev_b | exact ev_n | exact ev_dnew
  | (refine ev_var rfl ?_; walk_at "dm")
  | (refine ev_tupE ?_ ?_; (walk_at "ea"); (walk_at "sd")) | (refine ev_lstE ?_ ?_; (walk_at "ea"); (walk_at "sd"))
  | (refine ev_negE ?_; walk_at "ev")
  | (refine ev_isiE ?_ ?_; (walk_at "ev"); (walk_at "sd"))
  | (refine ev_lenE ?_ ?_ ?_; (walk_at "ev"); (walk_at "sd"); (walk_at "sd"))
  | (refine ev_atL ?_ ?_ ?_; (walk_at "ev"); (walk_at "ev"); (walk_at "sd")) | (refine ev_atT ?_ ?_ ?_; (walk_at "ev"); (walk_at "ev"); (walk_at "sd"))
  | (refine ev_addE ?_ ?_; (walk_at "ev"); (walk_at "ev")) | (refine ev_cmpE ?_ ?_; (walk_at "ev"); (walk_at "ev")) | (refine ev_i0E ?_ ?_; (walk_at "ev"); (walk_at "ev"))
  | (refine ev_mulE ?_ ?_ ?_; (walk_at "ev"); (walk_at "ev"); (walk_at "sd"))
  | (refine ev_eqIE ?_ ?_; (walk_at "ev"); (walk_at "ev")) | (refine ev_neIE ?_ ?_; (walk_at "ev"); (walk_at "ev"))
  | (refine ev_andE ?_ (fun _ => ?_); (walk_at "ev"); (walk_at "ev")) | (refine ev_orE ?_ (fun _ => ?_); (walk_at "ev"); (walk_at "ev")) | (refine ev_notE ?_; walk_at "ev")
  | (refine ev_fn ?_ ?_; (walk_at "ea"); (walk_at "sd")))
local macro_rules | `(tactic| walk_at "lit") => `(tactic| first | exact ev_i | exact ev_s | exact ev_b | exact ev_n | exact ev_dnew | (refine ev_negE ?_; walk_at "lit") | (refine ev_tupE ?_ (by decide); walk_at "lits") | (refine ev_lstE ?_ (by decide); walk_at "lits") | (refine ev_powE ?_ ?_ ⟨by decide, by decide, by decide⟩ <;> walk_at "lit"))
local macro_rules | `(tactic| walk_at "lits") => `(tactic| first | exact ea_nil | (refine ea_eq ?_ ?_; (walk_at "lit"); (walk_at "lits")))
section
open TL (tl numL)
open NumText (digitsVal AllDigits)
variable {P : Program} {w : World} {K : PySem.W.Frag} {mg : Str → Option Value} {c : Cls} {base : Heap} {a : Addr} {G : Hp} {S : List Addr} {H : Hp}
theorem ok_l_bent {f : Addr} {fd : FuncData} (F : Fun K "_law_bent" "_law_bent" s_l_bent f fd) (T : Txt K mg c) (F_l_draw : DfD P w K mg base) : FnG P w K mg base CX0 2 f fd ["_law_pot_here", "_law_note"] (spP K (preTx 600) postBe) := by
  refine fun_okG F sc_l_bent (fun vs H Q E h => spP_len (n := 1) (fun ds ⟨_, e, _⟩ => by rw [e]; rfl) h) (fun cdv A outer s H vs Q E hg hr h => ?_)
  obtain ⟨a, S, ws, ds, rfl, f, m, ⟨x, rfl, hx⟩, k⟩ := h
  obtain ⟨v, rfl, mv⟩ := DA.one m
  cases mv
  have hl := hx.len
  refine ⟨_, (pss_cons (ps_par3 (i := 2) (j := 3) (l := 4) (by rfl) sc_l_bent.nd rfl rfl rfl (by decide) (by decide) (by decide) rfl rfl rfl (pa_cons (pe_fn F_l_draw hg (hr.mono (by decide)) (by rfl) pass0 (pa_cons (pv 0) (pa_cons (pe_op (kAdd (K := K)) (pe_callB (kLen (K := K)) (by rfl) T.b_len (by decide +kernel) (pa_cons (pv 1) pa_nil)) pe_int) pa_nil))) (pa_cons (pe_fn F_l_draw hg (hr.mono (by decide)) (by rfl) pass0 (pa_cons (pv 0) (pa_cons pe_int pa_nil))) (pa_cons (pe_ix (kIx (K := K)) pe_str (pe_fn F_l_draw hg (hr.mono (by decide)) (by rfl) pass0 (pa_cons (pv 0) (pa_cons pe_int pa_nil))) (fun _ _ => rfl)) pa_nil))) (by rfl))
    (pss_one (ps_ret (pe_op (kAdd (K := K)) (pe_op (kAdd (K := K)) (pe_slice sl_str (pv 1) po_none (po_some (pv 2))) (pe_ix (kIx (K := K)) (pe_lst (pa_cons pe_str (pa_cons (pv 4) (pa_cons (pv 4) pa_nil)))) (pv 3) (fun _ _ => rfl))) (pe_slice sl_str (pv 1) (po_some (pe_op (kAdd (K := K)) (pv 2) (pe_ix (kIx (K := K)) (pe_lst (pa_cons pe_int (pa_cons pe_int (pa_cons pe_int pa_nil)))) (pv 3) (fun _ _ => rfl)))) po_none))))), ?_⟩
  have l10 : (10 : Int) = (("az019-/ A\n" : Str).length : Nat) := by decide +kernel
  refine q_par3 (K := K) (σ := [some (.ref a), some (.str x), none, none, none]) (C1 := IsI fun k => 0 ≤ k ∧ k < (x.length : Nat) + 1) (C2 := IsI fun k => 0 ≤ k ∧ k < 3) (C3 := fun d => ∃ c, d = .str ⟨#[c]⟩ ∧ c ∈ ("az019-/ A\n" : Str).cps.toList) (ev_draw (m := (x.length : Nat) + 1) rfl (ev_addE (ev_lenE (n := x.length) (ev_var (i := 1) rfl (.str x)) rfl (by omega)) ev_i) (by omega) (by omega)) (ev_draw rfl ev_i (by decide) (by decide)) (ev_pickS (z := "az019-/ A\n") ev_s (by rw [← l10]; exact ev_draw rfl ev_i (by decide) (by decide)) (by decide +kernel)) f (Same.refl _) ?_
  rintro v2 v3 v4 _ _ _ H1 x1 f1 m2 m3 m4 ⟨at', rfl, a0, a1⟩ ⟨way, rfl, w0, w3⟩ ⟨sg, rfl, hsg⟩
  cases m2
  cases m3
  cases m4
  have ssg : Small (⟨#[sg]⟩ : Str) := fun c m => by
    have q : ∀ c ∈ ("az019-/ A\n" : Str).cps.toList, c < 16 ^ 8 := by decide +kernel
    have m : c ∈ [sg] := m
    rw [List.mem_singleton.mp m]
    exact q sg hsg
  obtain ⟨n, rfl⟩ := Int.eq_ofNat_of_zero_le a0
  have hn : n ≤ x.length := by omega
  have fin : ∀ {v : V} {d : PyData} {H' : Hp}, Ext a H1 H' → D K (off S H') v d → (∃ y : Str, d = .str y ∧ y.length ≤ x.length + 1 ∧ (Small x → Small y)) → Q v H' := fun {v d H'} z m ⟨y, e, l, s⟩ => k _ _ H' (x1.trans z) m ⟨x, y, rfl, e, l, s⟩
  have go : ∀ (mid : Str) (o : Nat), o ≤ 1 → mid.length ≤ o + 0 ∨ (mid.length ≤ 1) → Small mid → atI ([.str "", .str ⟨#[sg]⟩, .str ⟨#[sg]⟩] : List PyData) way = some (.str mid) → atI ([.int 1, .int 0, .int 1] : List PyData) way = some (.int (o : Nat)) → mid.length ≤ 1 →
      tRet (tOp (rAddA K) (tOp (rAddA K) (tSl rSlS (tVar 1) tNoPart (tPart (tVar 2))) (tOp (rIx K) (tLst (tCons (tC (.str "")) (tCons (tVar 4) (tCons (tVar 4) tNil)))) (tVar 3))) (tSl rSlS (tVar 1) (tPart (tOp (rAddA K) (tVar 2) (tOp (rIx K) (tLst (tCons (tC (.int 1)) (tCons (tC (.int 0)) (tCons (tC (.int 1)) tNil)))) (tVar 3)))) tNoPart)) { nx := fun _ H' => Q .non H', rt := Q } [some (.ref a), some (.str x), some (.int (n : Nat)), some (.int way), some (.str ⟨#[sg]⟩)] H1 := by
    intro mid o ho _ sm h1 h2 hm
    have lt := cut_to x n
    have lf := cut_from x (n + o)
    refine q_retE (K := K) (d := .str (cutS x none (some (n : Int)) ++ mid ++ cutS x (some ((n + o : Nat) : Int)) none)) (ev_catS (ev_catS (ev_slT (C := (· = .str (cutS x none (some (n : Int))))) (cI := (· = (n : Int))) (ev_var (i := 1) rfl (.str x)) (ev_isI (ev_var (i := 2) rfl (.int _)) rfl) (by omega) fun i e => by rw [e]) (ev_atL (ev_lstE (ea_eq ev_s (ea_eq (ev_var (i := 4) rfl (.str _)) (ea_eq (ev_var (i := 4) rfl (.str _)) ea_nil))) (by show 3 ≤ 1000; decide)) (ev_var (i := 3) rfl (.int way)) h1) (by omega)) (ev_slF (C := (· = .str (cutS x (some ((n + o : Nat) : Int)) none))) (cI := (· = ((n + o : Nat) : Int))) (ev_var (i := 1) rfl (.str x)) (ev_isI (ev_addE (ev_var (i := 2) rfl (.int _)) (ev_atL (ev_lstE (ea_eq ev_i (ea_eq ev_i (ea_eq ev_i ea_nil))) (by show 3 ≤ 1000; decide)) (ev_var (i := 3) rfl (.int way)) h2)) (by omega)) (by omega) fun i e => by rw [e]) (by rw [len_app]; omega)) f1 (Same.refl _) fun v5 H4 x4 m5 => fin x4 m5 ⟨_, rfl, ?_, fun hs => small_app (small_app (small_cut hs _ _) sm) (small_cut hs _ _)⟩
    rw [len_app, len_app]
    rcases Nat.le_one_iff_eq_zero_or_eq_one.mp ho with rfl | rfl
    · omega
    · omega
  have l1 : (⟨#[sg]⟩ : Str).length = 1 := rfl
  have l0 : ("" : Str).length = 0 := by decide +kernel
  have : way = 0 ∨ way = 1 ∨ way = 2 := by omega
  rcases this with rfl | rfl | rfl
  · exact go "" 1 (by decide) (.inr (by omega)) (by intro c m; exact absurd m (by show c ∉ ([] : List Nat); simp)) rfl rfl (by omega)
  · exact go ⟨#[sg]⟩ 0 (by decide) (.inr (by omega)) ssg rfl rfl (by omega)
  · exact go ⟨#[sg]⟩ 1 (by decide) (.inr (by omega)) ssg rfl rfl (by omega)
theorem ok_l_met {f : Addr} {fd : FuncData} (F : Fun K "_law_met" "_law_met" s_l_met f fd) (T : Txt K mg c) (F_parse_setting : DfX P w K mg base (L2.CX P w) 6 "parse_setting" ["sheet", "text"] [] (spMX K c.Sheet c.InvalidText "line" prePs postPs rpPs)) (F_setting_text : DfX P w K mg base (L2.CX P w) 5 "setting_text" ["sheet", "setting"] [] (spMX K c.Sheet c.InvalidSetting "value" preSx postSx rpSx)) :
    FnG P w K mg base CX0 7 f fd ["_law_home", "_law_thing", "_law_is_note"] (spM K c.Sheet preMe postMe) := by
  refine fun_okG F sc_l_met (fun vs H Q E h => spM_len (n := 2) (fun _ ds ⟨_, _, e, _⟩ => by rw [e]; rfl) h) (fun cdv A outer s H vs Q E hg hr h => ?_)
  have R_InvalidText := ok_InvalidText___init__ (P := P) (w := w) (base := base) T
  have R_InvalidSetting := ok_InvalidSetting___init__ (P := P) (w := w) (base := base) T
  obtain ⟨a, S, p, ns, ws, ds, rfl, f, sh, m, ⟨d, b, rfl, tm, hx, hb⟩, k⟩ := h
  obtain ⟨vt, w, rfl, mv, mw⟩ := DA.two m
  cases mw
  have fin : ∀ {v : V} {z : PyData} {H' : Hp}, Ext a H H' → D K (off S H') v z → z = metD ns d b → Q v H' := fun {v z H'} y m e => k v z H' y m ⟨d, b, rfl, e⟩
  refine ⟨_, (pss_cons (ps_set (i := 3) sc_l_met.nd rfl (by first | exact Or.inl rfl | exact Or.inr rfl) (pe_lst (pa_cons pe_str pa_nil)))
    (pss_cons (ps_try_ms (i := 4) rfl rfl sc_l_met.nd rfl rfl takes0 (fun W pn xe tk _ => (pss_one (ps_set (i := 3) sc_l_met.nd rfl (by first | exact Or.inl rfl | exact Or.inr rfl) (pe_lst (pa_cons pe_str (pa_cons (pe_ifExp (pt_val (pv 2)) (pe_fnX F_parse_setting hg (hr.mono (by decide)) (by rfl) (fun σ => passAt tk σ) (pa_cons (pv 0) (pa_cons (pv 1) pa_nil))) (pe_fnX F_setting_text hg (hr.mono (by decide)) (by rfl) (fun σ => passAt tk σ) (pa_cons (pv 0) (pa_cons (pv 1) pa_nil)))) pa_nil))))))
    (.cons ⟨rfl, by decide, Or.inl R_InvalidText.c.g⟩ (fun a oe cls d pn hz hf => (pss_cons (ps_set (i := 5) sc_l_met.nd rfl (by first | exact Or.inl rfl | exact Or.inr rfl) (pe_callB (kIsX (K := K) hz hf) (by rfl) T.b_isinstance (by decide +kernel) (pa_cons (pv 4) (pa_cons (pe_tup (pa_cons (pe_glob (v := .ref c.InvalidCommand) (by rfl) T.g_InvalidCommand rfl) (pa_cons (pe_glob (v := .ref c.InvalidNumber) (by rfl) T.g_InvalidNumber rfl) (pa_cons (pe_glob (v := .ref c.InvalidLevel) (by rfl) T.g_InvalidLevel rfl) (pa_cons (pe_glob (v := .ref c.InvalidSetting) (by rfl) T.g_InvalidSetting rfl) pa_nil))))) pa_nil))))
    (pss_one (ps_set (i := 3) sc_l_met.nd rfl (by first | exact Or.inl rfl | exact Or.inr rfl) (pe_ifExp (PW.pt (pw_and (pt_val (pe_callB (kIsX (K := K) hz hf) (by rfl) T.b_isinstance (by decide +kernel) (pa_cons (pv 4) (pa_cons (pe_glob (v := .ref c.LastheldError) (by rfl) T.g_LastheldError rfl) pa_nil)))) (pw_and1 (pt_not (pt_val (pv 5)))))) (pe_lst (pa_cons pe_str (pa_cons (pe_xg hz hf (pv 4)) pa_nil))) (pe_lst (pa_cons pe_str pa_nil)))))))
    (.cons ⟨rfl, by decide, Or.inl R_InvalidSetting.c.g⟩ (fun a oe cls d pn hz hf => (pss_cons (ps_set (i := 5) sc_l_met.nd rfl (by first | exact Or.inl rfl | exact Or.inr rfl) (pe_callB (kIsX (K := K) hz hf) (by rfl) T.b_isinstance (by decide +kernel) (pa_cons (pv 4) (pa_cons (pe_tup (pa_cons (pe_glob (v := .ref c.InvalidCommand) (by rfl) T.g_InvalidCommand rfl) (pa_cons (pe_glob (v := .ref c.InvalidNumber) (by rfl) T.g_InvalidNumber rfl) (pa_cons (pe_glob (v := .ref c.InvalidLevel) (by rfl) T.g_InvalidLevel rfl) (pa_cons (pe_glob (v := .ref c.InvalidText) (by rfl) T.g_InvalidText rfl) pa_nil))))) pa_nil))))
    (pss_one (ps_set (i := 3) sc_l_met.nd rfl (by first | exact Or.inl rfl | exact Or.inr rfl) (pe_ifExp (PW.pt (pw_and (pt_val (pe_callB (kIsX (K := K) hz hf) (by rfl) T.b_isinstance (by decide +kernel) (pa_cons (pv 4) (pa_cons (pe_glob (v := .ref c.LastheldError) (by rfl) T.g_LastheldError rfl) pa_nil)))) (pw_and1 (pt_not (pt_val (pv 5)))))) (pe_lst (pa_cons pe_str (pa_cons (pe_callB (kRepr (K := K) hg hr.units) (by rfl) T.b_repr (by decide +kernel) (pa_cons (pe_xg hz hf (pv 4)) pa_nil)) pa_nil))) (pe_lst (pa_cons pe_str pa_nil)))))))
    .nil)))
    (pss_one (ps_ret (pv 3))))), ?_⟩
  refine q_setE (K := K) (σ := [some (.ref p), some vt, some (.bl b), none, none, none]) (ev_lstE (ea_eq ev_s ea_nil) (by show 1 ≤ 1000; decide)) f (Same.refl _) ?_
  intro v3 H1 x1 f1 m3
  have s1 := x1.off f.mem
  dsimp only
  refine rd_done (σ := [some (.ref p), some vt, some (.bl b), some v3, none, none]) ?_
  have done : ∀ {v : V} {z : PyData} {H' : Hp}, Ext a H1 H' → LK.Fr a S H' → D K (off S H') v z → .list [.str "done", z] = metD ns d b → ∀ q, H' q = none → Q (.ref q) (upd H' q (.lst [.str "done", v])) := fun {v z H'} x' f' m' e q hq => by
    have x2 : Ext a H' (upd H' q (.lst [.str "done", v])) := Ext.new hq
    exact fin (x1.trans (x'.trans x2)) (.lst (off_mk (f'.out hq) upd_same) (.cons (.str _) (.cons (m'.mono (x2.off f'.mem)) .nil))) e
  cases b with
  | true =>
    refine tif_ok (b := true) (et_valE (K := K) (ev_var (i := 2) rfl (.bl true))) f1 (Same.refl _) (fun H2 x2 f2 _ => ?_) (fun _ _ _ e => nomatch e)
    have s2 := s1.trans (x2.off f1.mem)
    refine callMX_ok (K := K) (i := 0) (ds := [d]) rfl (sh.mono s2) (ea_eq (ev_var (i := 1) rfl (mv.mono s2)) ea_nil) f2 (Same.refl _) ⟨d, rfl, hx⟩ ?_ ?_
    · rintro v z H3 x3 f3 mz ⟨x, q, hz⟩
      injection q with q _
      subst q
      exact ⟨by decide, fun q hq => ⟨.ref q, rfl, done (x2.trans x3) f3 mz (met_done hz).symm q hq⟩⟩
    · rintro v z dd H3 x3 f3 mz hr hd hS
      refine ⟨true, T.xc_InvalidText.exm, fun _ a' ha' => ?_, fun z => by cases z⟩
      have hG : off S H3 dd = some (.xd [("line", v)]) := off_mk hS hd
      have hs : ([some (V.ref p), some vt, some (V.bl true), some v3, some (.ref a'), none] : L2.St)[4]? = some (some (.ref a')) := rfl
      refine q_setE (K := K) (σ := [some (.ref p), some vt, some (.bl true), some v3, some (.ref a'), none]) (ev_isXT (cs := [.ref c.InvalidCommand, .ref c.InvalidNumber, .ref c.InvalidLevel, .ref c.InvalidSetting]) hs T.xc_InvalidText.is hG (.cons (.own _) (.cons (.own _) (.cons (.own _) (.cons (.own _) .nil)))) (kitAny_cons T.k_InvalidText_InvalidCommand (fun _ => (kitAny_cons T.k_InvalidText_InvalidNumber (fun _ => (kitAny_cons T.k_InvalidText_InvalidLevel (fun _ => (kitAny_cons T.k_InvalidText_InvalidSetting (fun _ => kitAny_nil) nofun)) nofun)) nofun)) nofun)) f3 (Same.refl _) ?_
      intro v5 H4 x4 f4 m5
      have hG4 := x4.off f3.mem _ _ hG
      have hs : ([some (V.ref p), some vt, some (V.bl true), some v3, some (.ref a'), some v5] : L2.St)[4]? = some (some (.ref a')) := rfl
      have hG := hG4
      refine q_setE (K := K) (σ := [some (.ref p), some vt, some (.bl true), some v3, some (.ref a'), some v5]) (d := .list [.str "line", z]) (Ev.imp (ev_ifE (b := true && !false) (e := .none) (et_andE (et_valE (K := K) (ev_isX1 hs T.xc_InvalidText.is hG (.own _) T.k_InvalidText_LastheldError)) fun _ => et_notE (et_valE (K := K) (ev_var (i := 5) rfl m5))) (fun _ => ev_lstE (ea_eq ev_s (ea_eq (ev_xg rfl T.xc_InvalidText.fl T.nf_InvalidText hG rfl (mz.mono (x4.off f3.mem))) ea_nil)) (by show 2 ≤ 1000; decide)) fun h => nomatch h) fun _ e => e) f4 (Same.refl _) ?_
      intro v6 H5 x5 f5 m6
      refine ⟨v6, rfl, fin (x1.trans (x2.trans (x3.trans (x4.trans x5)))) m6 ?_⟩
      rcases hr with ⟨d', q, hd', rfl⟩ | ⟨x, q, hx', rfl⟩
      · injection q with q _
        subst q
        exact (met_line0 hd').symm
      · injection q with q _
        subst q
        exact (met_line1 hx').symm
  | false =>
    refine tif_ok (b := false) (et_valE (K := K) (ev_var (i := 2) rfl (.bl false))) f1 (Same.refl _) (fun _ _ _ e => nomatch e) (fun H2 x2 f2 _ => ?_)
    have s2 := s1.trans (x2.off f1.mem)
    refine callMX_ok (K := K) (i := 0) (ds := [d]) rfl (sh.mono s2) (ea_eq (ev_var (i := 1) rfl (mv.mono s2)) ea_nil) f2 (Same.refl _) ⟨d, rfl, tm, hb⟩ ?_ ?_
    · rintro v z H3 x3 f3 mz ⟨r, q, hs, hz⟩
      injection q with q _
      subst q
      refine ⟨by decide, fun q hq => ⟨.ref q, rfl, done (x2.trans x3) f3 mz ?_ q hq⟩⟩
      rw [hz]
      show _ = if isSettingD ns r.d = true then PyData.list [.str "done", .str (noteD r.d)] else _
      rw [if_pos hs]
      rfl
    · rintro v z dd H3 x3 f3 mz ⟨d', q, hs', rfl⟩ hd hS
      injection q with q _
      subst q
      refine ⟨false, T.e_InvalidSetting_InvalidText, fun z => (by cases z), fun _ => ⟨true, T.xc_InvalidSetting.exm, fun _ a' ha' => ?_, fun z => by cases z⟩⟩
      have hG : off S H3 dd = some (.xd [("value", v)]) := off_mk hS hd
      have hs : ([some (V.ref p), some vt, some (V.bl false), some v3, some (.ref a'), none] : L2.St)[4]? = some (some (.ref a')) := rfl
      refine q_setE (K := K) (σ := [some (.ref p), some vt, some (.bl false), some v3, some (.ref a'), none]) (ev_isXT (cs := [.ref c.InvalidCommand, .ref c.InvalidNumber, .ref c.InvalidLevel, .ref c.InvalidText]) hs T.xc_InvalidSetting.is hG (.cons (.own _) (.cons (.own _) (.cons (.own _) (.cons (.own _) .nil)))) (kitAny_cons T.k_InvalidSetting_InvalidCommand (fun _ => (kitAny_cons T.k_InvalidSetting_InvalidNumber (fun _ => (kitAny_cons T.k_InvalidSetting_InvalidLevel (fun _ => (kitAny_cons T.k_InvalidSetting_InvalidText (fun _ => kitAny_nil) nofun)) nofun)) nofun)) nofun)) f3 (Same.refl _) ?_
      intro v5 H4 x4 f4 m5
      have hG4 := x4.off f3.mem _ _ hG
      have hs : ([some (V.ref p), some vt, some (V.bl false), some v3, some (.ref a'), some v5] : L2.St)[4]? = some (some (.ref a')) := rfl
      have hG := hG4
      refine q_setE (K := K) (σ := [some (.ref p), some vt, some (.bl false), some v3, some (.ref a'), some v5]) (d := .list [.str "row", .str d.shown]) (Ev.imp (ev_ifE (b := true && !false) (e := .none) (et_andE (et_valE (K := K) (ev_isX1 hs T.xc_InvalidSetting.is hG (.own _) T.k_InvalidSetting_LastheldError)) fun _ => et_notE (et_valE (K := K) (ev_var (i := 5) rfl m5))) (fun _ => ev_lstE (ea_eq ev_s (ea_eq (ev_reprE (ev_xg rfl T.xc_InvalidSetting.fl T.nf_InvalidSetting hG rfl (mz.mono (x4.off f3.mem))) tm) ea_nil)) (by show 2 ≤ 1000; decide)) fun h => nomatch h) fun _ e => e) f4 (Same.refl _) ?_
      intro v6 H5 x5 f5 m6
      refine ⟨v6, rfl, fin (x1.trans (x2.trans (x3.trans (x4.trans x5)))) m6 ?_⟩
      show _ = if isSettingD ns d = true then _ else PyData.list [.str "row", .str d.shown]
      rw [hs', if_neg (by decide)]
end
end K91
set_option Elab.async false
set_option linter.all false
set_option maxRecDepth 100000
set_option maxHeartbeats 1000000
namespace K91
open PySem PySem.Spec L2 LK
open PyProof.Rows hiding St
local macro_rules | `(tactic| walk_at "ext") => `(tactic| first | exact Ext.refl | assumption | (refine Ext.trans ?_ (by assumption); walk_at "ext"))
local macro_rules | `(tactic| walk_at "sm") => `(tactic| first | exact Same.refl _ | assumption | (refine Ext.off ?_ (Fr.mem (by assumption)); walk_at "ext"))
local macro_rules | `(tactic| walk_at "dm") => `(tactic| first | assumption | exact .int _ | exact .bl _ | exact .str _ | exact .non | (refine D.mono (by assumption) ?_; walk_at "sm"))
local macro_rules | `(tactic| walk_at "sd") => `(tactic| first | assumption | rfl | decide | omega | (show _ ≤ 1000; decide))
local macro_rules | `(tactic| walk_at "ea") => `(tactic| first | exact ea_nil | (refine ea_eq ?_ ?_; (walk_at "ev"); (walk_at "ea")))
local macro_rules | `(tactic| walk_at "et") => `(tactic| first
  | (refine et_valE ?_; walk_at "ev") | (refine et_testE ?_; walk_at "ev") | (refine et_notE ?_; walk_at "et")
  | (refine et_andE ?_ (fun _ => ?_); (walk_at "et"); (walk_at "et")) | (refine et_orE ?_ (fun _ => ?_); (walk_at "et"); (walk_at "et")))
local macro_rules | `(tactic| walk_at "ev") => `(tactic| first
  | exact ev_i | exact ev_s | exact ev_b | exact ev_n | exact ev_dnew
  | (refine ev_var rfl ?_; walk_at "dm")
  | (refine ev_tupE ?_ ?_; (walk_at "ea"); (walk_at "sd")) | (refine ev_lstE ?_ ?_; (walk_at "ea"); (walk_at "sd"))
  | (refine ev_negE ?_; walk_at "ev")
  | (refine ev_isiE ?_ ?_; (walk_at "ev"); (walk_at "sd"))
  | (refine ev_lenE ?_ ?_ ?_; (walk_at "ev"); (walk_at "sd"); (walk_at "sd"))
  | (refine ev_atL ?_ ?_ ?_; (walk_at "ev"); (walk_at "ev"); (walk_at "sd")) | (refine ev_atT ?_ ?_ ?_; (walk_at "ev"); (walk_at "ev"); (walk_at "sd"))
  | (refine ev_addE ?_ ?_; (walk_at "ev"); (walk_at "ev")) | (refine ev_cmpE ?_ ?_; (walk_at "ev"); (walk_at "ev")) | (refine ev_i0E ?_ ?_; (walk_at "ev"); (walk_at "ev"))
  | (refine ev_mulE ?_ ?_ ?_; (walk_at "ev"); (walk_at "ev"); (walk_at "sd"))
  | (refine ev_eqIE ?_ ?_; (walk_at "ev"); (walk_at "ev")) | (refine ev_neIE ?_ ?_; (walk_at "ev"); (walk_at "ev"))
  | (refine ev_andE ?_ (fun _ => ?_); (walk_at "ev"); (walk_at "ev")) | (refine ev_orE ?_ (fun _ => ?_); (walk_at "ev"); (walk_at "ev")) | (refine ev_notE ?_; walk_at "ev")
  | (refine ev_fn ?_ ?_; (walk_at "ea"); (walk_at "sd")))
local macro_rules | `(tactic| walk_at "lit") => `(tactic| first | exact ev_i | exact ev_s | exact ev_b | exact ev_n | exact ev_dnew | (refine ev_negE ?_; walk_at "lit") | (refine ev_tupE ?_ (by decide); walk_at "lits") | (refine ev_lstE ?_ (by decide); walk_at "lits") | (refine ev_powE ?_ ?_ ⟨by decide, by decide, by decide⟩ <;> walk_at "lit"))
local macro_rules | `(tactic| walk_at "lits") => `(tactic| first | exact ea_nil | (refine ea_eq ?_ ?_; (walk_at "lit"); (walk_at "lits")))
section
open TL (tl numL)
open NumText (digitsVal AllDigits)
variable {P : Program} {w : World} {K : PySem.W.Frag} {mg : Str → Option Value} {c : Cls} {base : Heap} {a : Addr} {G : Hp} {S : List Addr} {H : Hp}
def oddsS : List Str := ["0", "3", "-1", "01", "", "A", "nineletterx", "2/4", "3/1", "1/0", "-0", "+1", "1/-2", "0/2", "--1"]
theorem odds_ok : ∀ y ∈ oddsS, y.length ≤ 11 ∧ Small y := by
  have h : (oddsS.all fun y => decide (y.length ≤ 11) && y.cps.toList.all fun c => decide (c < 16 ^ 8)) = true := by decide +kernel
  intro y m
  have := List.all_eq_true.mp h y m
  rw [Bool.and_eq_true, List.all_eq_true] at this
  exact ⟨of_decide_eq_true this.1, fun c mc => of_decide_eq_true (this.2 c mc)⟩
theorem ok_l_spoilt {f : Addr} {fd : FuncData} (F : Fun K "_law_spoilt" "_law_spoilt" s_l_spoilt f fd) (T : Txt K mg c) (F_l_draw : DfD P w K mg base) (F_l_bent : Df P w K mg base CX0 2 "_law_bent" ["_law_pot_here", "_law_note"] (spP K (preTx 600) postBe)) : FnG P w K mg base CX0 3 f fd ["_law_pot_here", "_law_note"] (spP K preSp1 postSp1) := by
  refine fun_okG F sc_l_spoilt (fun vs H Q E h => spP_len (n := 1) (fun ds ⟨_, e, _⟩ => by rw [e]; rfl) h) (fun cdv A outer s H vs Q E hg hr h => ?_)
  obtain ⟨a, S, ws0, ds, rfl, f, m, ⟨x, rfl, hx, hw⟩, k⟩ := h
  obtain ⟨v, rfl, mv⟩ := DA.one m
  cases mv
  have hl := hx.len
  have hss := split_sum x
  have hsm := small_split hx.small
  have hne : 1 ≤ (Txt.split x gap).length := List.length_pos_iff.mpr (split_ne2 x)
  have fin : ∀ {v : V} {d : PyData} {H' : Hp}, Ext a H H' → D K (off S H') v d → (∃ y : Str, d = .str y ∧ TextOk 200 y) → Q v H' := fun {v d H'} z m h => k _ d H' z m h
  refine ⟨_, (pss_cons (ps_par (i := 2) (j := 3) (by rfl) sc_l_spoilt.nd rfl rfl (by decide) rfl rfl (pa_cons (pe_split (pv 1) pe_str) (pa_cons (pe_fn F_l_draw hg (hr.mono (by decide)) (by rfl) pass0 (pa_cons (pv 0) (pa_cons pe_int pa_nil))) pa_nil)) (by rfl))
    (pss_cons (ps_par (i := 4) (j := 5) (by rfl) sc_l_spoilt.nd rfl rfl (by decide) rfl rfl (pa_cons (pe_fn F_l_draw hg (hr.mono (by decide)) (by rfl) pass0 (pa_cons (pv 0) (pa_cons (pe_callB (kLen (K := K)) (by rfl) T.b_len (by decide +kernel) (pa_cons (pv 2) pa_nil)) pa_nil))) (pa_cons (pe_fn F_l_draw hg (hr.mono (by decide)) (by rfl) pass0 (pa_cons (pv 0) (pa_cons (pe_callB (kLen (K := K)) (by rfl) T.b_len (by decide +kernel) (pa_cons (pv 2) pa_nil)) pa_nil))) pa_nil)) (by rfl))
    (pss_cons (ps_set (i := 6) sc_l_spoilt.nd rfl (by first | exact Or.inl rfl | exact Or.inr rfl) (pe_lst (pa_cons pe_str (pa_cons pe_str (pa_cons pe_str (pa_cons pe_str (pa_cons pe_str (pa_cons pe_str (pa_cons pe_str (pa_cons pe_str (pa_cons pe_str (pa_cons pe_str (pa_cons pe_str (pa_cons pe_str (pa_cons pe_str (pa_cons pe_str (pa_cons pe_str pa_nil)))))))))))))))))
    (pss_cons (ps_set (i := 7) sc_l_spoilt.nd rfl (by first | exact Or.inl rfl | exact Or.inr rfl) (pe_ix (kIx (K := K)) (pv 6) (pe_fn F_l_draw hg (hr.mono (by decide)) (by rfl) pass0 (pa_cons (pv 0) (pa_cons pe_int pa_nil))) (fun _ _ => rfl)))
    (pss_cons (ps_if (pt_cmpR op_lt (pv 3) pe_int (nomark _))
    (pss_cons (ps_set (i := 1) sc_l_spoilt.nd rfl (by first | exact Or.inl rfl | exact Or.inr rfl) (pe_fn F_l_bent hg (hr.mono (by decide)) (by rfl) pass0 (pa_cons (pv 0) (pa_cons (pv 1) pa_nil))))
    (pss_one (ps_ret (pe_ifExp (pt_cmpR (kEq (K := K) hr.units) (pv 3) pe_int (nomark _)) (pe_fn F_l_bent hg (hr.mono (by decide)) (by rfl) pass0 (pa_cons (pv 0) (pa_cons (pv 1) pa_nil))) (pv 1)))))
    pss_nil)
    (pss_cons (ps_if (pt_cmpR (kEq (K := K) hr.units) (pv 3) pe_int (nomark _))
    (pss_one (ps_ret (pe_bmK (K := K) PySem.F.plainAttrs_str PySem.F.slot_str_join PySem.F.type_str_join (kJoin (K := K)) pe_str (pa_cons (pe_op (kAdd (K := K)) (pe_op (kAdd (K := K)) (pe_slice (kSlL (K := K)) (pv 2) po_none (po_some (pv 4))) (pe_lst (pa_cons (pv 7) pa_nil))) (pe_slice (kSlL (K := K)) (pv 2) (po_some (pe_op (kAdd (K := K)) (pv 4) pe_int)) po_none)) pa_nil))))
    pss_nil)
    (pss_cons (ps_if (pt_cmpR (kEq (K := K) hr.units) (pv 3) pe_int (nomark _))
    (pss_one (ps_ret (pe_bmK (K := K) PySem.F.plainAttrs_str PySem.F.slot_str_join PySem.F.type_str_join (kJoin (K := K)) pe_str (pa_cons (pe_op (kAdd (K := K)) (pe_slice (kSlL (K := K)) (pv 2) po_none (po_some (pe_op (kAdd (K := K)) (pv 4) pe_int))) (pe_slice (kSlL (K := K)) (pv 2) (po_some (pv 4)) po_none)) pa_nil))))
    pss_nil)
    (pss_cons (ps_if (pt_cmpR (kEq (K := K) hr.units) (pv 3) pe_int (nomark _))
    (pss_one (ps_ret (pe_bmK (K := K) PySem.F.plainAttrs_str PySem.F.slot_str_join PySem.F.type_str_join (kJoin (K := K)) pe_str (pa_cons (pe_op (kAdd (K := K)) (pe_slice (kSlL (K := K)) (pv 2) po_none (po_some (pv 4))) (pe_slice (kSlL (K := K)) (pv 2) (po_some (pe_op (kAdd (K := K)) (pv 4) pe_int)) po_none)) pa_nil))))
    pss_nil)
    (pss_cons (ps_asg (pe_tup (pa_cons (pe_ix (kIx (K := K)) (pv 2) (pv 5) (fun _ _ => rfl)) (pa_cons (pe_ix (kIx (K := K)) (pv 2) (pv 4) (fun _ _ => rfl)) pa_nil))) (pg_tupK (K := K) (n := 2) (by rfl) (by rfl) (pgs_cons (pg_sub (pv 2) (pv 4) set_list) (pgs_cons (pg_sub (pv 2) (pv 5) set_list) pgs_nil))))
    (pss_one (ps_ret (pe_bmK (K := K) PySem.F.plainAttrs_str PySem.F.slot_str_join PySem.F.type_str_join (kJoin (K := K)) pe_str (pa_cons (pv 2) pa_nil))))))))))))), ?_⟩
  refine q_parSplit (K := K) (z := gap) (σ := [some (.ref a), some (.str x), none, none, none, none, none, none]) (C := IsI fun k => 0 ≤ k ∧ k < 7) (ev_var (i := 1) rfl (.str x)) (by decide +kernel) (by omega) (ev_draw rfl ev_i (by decide) (by decide)) f (Same.refl _) ?_
  rintro L vw _ H1 x1 f1 nL hL mw ⟨way, rfl, w0, w7⟩
  cases mw
  have La := f.ne nL
  have LS := f.out nL
  generalize hws : Txt.split x gap = ws at hL hss hsm hne hw
  have mws : D K (off S H1) (.ref L) (.list (ws.map .str)) := .lst (off_mk LS hL) (DA.of_strs ws)
  have lw : lenD (.list (ws.map .str)) = some ws.length := by rw [lenD, List.length_map]
  dsimp only
  refine q_par2 (K := K) (σ := [some (.ref a), some (.str x), some (.ref L), some (.int way), none, none, none, none]) (C1 := IsI fun k => 0 ≤ k ∧ k < (ws.length : Nat)) (C2 := IsI fun k => 0 ≤ k ∧ k < (ws.length : Nat)) (ev_draw rfl (ev_lenE (n := ws.length) (ev_var (i := 2) rfl mws) lw (by omega)) (by omega) (by omega)) (ev_draw rfl (ev_lenE (n := ws.length) (ev_var (i := 2) rfl mws) lw (by omega)) (by omega) (by omega)) f1 (Same.refl _) ?_
  rintro v4 v5 _ _ H2 x2 f2 m4 m5 ⟨p, rfl, p0, p1⟩ ⟨q, rfl, q0, q1⟩
  cases m4
  cases m5
  obtain ⟨p, rfl⟩ := Int.eq_ofNat_of_zero_le p0
  obtain ⟨q, rfl⟩ := Int.eq_ofNat_of_zero_le q0
  have hp : p < ws.length := by omega
  have hq : q < ws.length := by omega
  dsimp only
  refine q_setE (K := K) (σ := [some (.ref a), some (.str x), some (.ref L), some (.int way), some (.int (p : Nat)), some (.int (q : Nat)), none, none]) (d := .list (oddsS.map .str)) (ev_lstE (ea_eq ev_s (ea_eq ev_s (ea_eq ev_s (ea_eq ev_s (ea_eq ev_s (ea_eq ev_s (ea_eq ev_s (ea_eq ev_s (ea_eq ev_s (ea_eq ev_s (ea_eq ev_s (ea_eq ev_s (ea_eq ev_s (ea_eq ev_s (ea_eq ev_s ea_nil))))))))))))))) (by show 15 ≤ 1000; decide)) f2 (Same.refl _) ?_
  intro v6 H3 x3 f3 m6
  dsimp only
  refine q_set (K := K) (σ := [some (.ref a), some (.str x), some (.ref L), some (.int way), some (.int (p : Nat)), some (.int (q : Nat)), some v6, none]) (C := fun d => ∃ y : Str, d = .str y ∧ y.length ≤ 11 ∧ Small y) (Ev.imp (ev_pick (ds := oddsS.map .str) (ev_var (i := 6) rfl m6) (ev_draw rfl ev_i (by decide) (by decide))) fun d hd => ?_) f3 (Same.refl _) ?_
  · obtain ⟨y, my, rfl⟩ := List.mem_map.mp hd
    exact ⟨y, rfl, odds_ok y my⟩
  rintro v7 _ H4 x4 f4 m7 ⟨y, rfl, ly, sy⟩
  cases m7
  have x14 := x2.trans (x3.trans x4)
  have x04 := x1.trans x14
  have hL4 := x14.keep _ _ La hL
  have mw4 : D K (off S H4) (.ref L) (.list (ws.map .str)) := mws.mono (x14.off f1.mem)
  have e2 : ∀ {G : Hp}, Same (off S H4) G → Ev K a G (tVar 2) [some (.ref a), some (.str x), some (.ref L), some (.int way), some (.int (p : Nat)), some (.int (q : Nat)), some v6, some (.str y)] (· = .list (ws.map .str)) := fun s => ev_var (i := 2) rfl (mw4.mono s)
  have e4 : ∀ {G : Hp}, Ev K a G (tVar 4) [some (.ref a), some (.str x), some (.ref L), some (.int way), some (.int (p : Nat)), some (.int (q : Nat)), some v6, some (.str y)] (· = .int (p : Nat)) := ev_var (i := 4) rfl (.int _)
  have c1 : cutD (ws.map PyData.str) none (some (p : Int)) = (ws.take p).map .str := by rw [cut_map, cut_take (by omega)]
  have c2 : cutD (ws.map PyData.str) (some ((p : Int) + 1)) none = (ws.drop (p + 1)).map .str := by
    have := cut_drop (xs := ws) (n := p + 1) (by omega)
    rw [cut_map, ← this]
    rfl
  have c3 : cutD (ws.map PyData.str) none (some ((p : Int) + 1)) = (ws.take (p + 1)).map .str := by
    have := cut_take (xs := ws) (n := p + 1) (by omega)
    rw [cut_map, ← this]
    rfl
  have c4 : cutD (ws.map PyData.str) (some (p : Int)) none = (ws.drop p).map .str := by rw [cut_map, cut_drop (by omega)]
  have t1 := sum_split ws p
  have t2 := sum_split ws (p + 1)
  have t3 : ws.take (p + 1) = ws.take p ++ [ws[p]] := by rw [List.take_succ, List.getElem?_eq_getElem hp]; rfl
  have t4 := congrArg (fun l : List Str => (l.map (·.length)).sum) t3
  have t5 := hw ws[p] (List.getElem_mem hp)
  simp only [sum_app, List.map_cons, List.map_nil, List.sum_cons, List.sum_nil] at t4
  have s4 : ∀ {zs : List Str}, (∀ z ∈ zs, z ∈ ws ∨ z = y) → ∀ z ∈ zs, Small z := fun h z mz => by
    rcases h z mz with h | rfl
    · exact hsm z h
    · exact sy
  have ask : ∀ {H' : Hp} (j : Int), Ext a H4 H' → EvT a (off S H') (tTest (tOp (rEqA K) (tVar 3) (tC (.int j)))) [some (.ref a), some (.str x), some (.ref L), some (.int way), some (.int (p : Nat)), some (.int (q : Nat)), some v6, some (.str y)] (· = decide (way = j)) := fun j x => et_testE (K := K) (ev_eqIE (ev_var (i := 3) rfl (.int _)) ev_i)
  have jn : ∀ {H' : Hp} {te : TE} {zs : List Str}, Ext a H4 H' → LK.Fr a S H' → Ev K a (off S H') te [some (.ref a), some (.str x), some (.ref L), some (.int way), some (.int (p : Nat)), some (.int (q : Nat)), some v6, some (.str y)] (· = .list (zs.map .str)) → (∀ z ∈ zs, z ∈ ws ∨ z = y) → (zs.map (·.length)).sum + zs.length ≤ 200 →
      tRet (tBM K "str" (rJoin K) (tC (.str gap)) (tCons te tNil)) { nx := fun _ H' => Q .non H', rt := Q } [some (.ref a), some (.str x), some (.ref L), some (.int way), some (.int (p : Nat)), some (.int (q : Nat)), some v6, some (.str y)] H' := by
    intro H' te zs x' f' he hz hs
    refine q_retE (K := K) (d := .str (Txt.join gap zs)) (ev_join (C1 := (· = .str (Txt.join gap zs))) (z := gap) he ?_) f' (Same.refl _) fun v8 H8 x8 m8 => fin (x04.trans (x'.trans x8)) m8 ⟨_, rfl, joined_ok (s4 hz) hs⟩
    rintro _ rfl
    refine ⟨zs, rfl, ?_, rfl⟩
    have g1 : gap.length = 1 := by decide +kernel
    rw [g1]
    omega
  dsimp only
  refine q_ifE (b := decide (way < 3)) (et_testE (K := K) (ev_cmpE (g := fun i j => decide (i < j)) (ev_var (i := 3) rfl (.int _)) ev_i)) f4 (Same.refl _) (fun H5 x5 f5 e5 => ?_) (fun H5 x5 f5 e5 => ?_)
  · show tSeq _ _ _ _ H5
    refine q_set (K := K) (σ := [some (.ref a), some (.str x), some (.ref L), some (.int way), some (.int (p : Nat)), some (.int (q : Nat)), some v6, some (.str y)]) (C := fun d => ∃ z : Str, d = .str z ∧ z.length ≤ 131 ∧ Small z) (ev_callP rfl (ea_eq (ev_var (i := 1) rfl (.str x)) ea_nil) (fun _ e => ⟨x, e, by omega, hx.small⟩) fun ds z e ⟨x', z', q', e', l', s'⟩ => ?_) f5 (Same.refl _) ?_
    · rw [e] at q'
      injection q' with q' _
      injection q' with q'
      subst q'
      exact ⟨z', e', by omega, s' hx.small⟩
    rintro v8 _ H6 x6 f6 m8 ⟨z, rfl, lz, sz⟩
    cases m8
    dsimp only
    refine q_ret (K := K) (σ := [some (.ref a), some (.str z), some (.ref L), some (.int way), some (.int (p : Nat)), some (.int (q : Nat)), some v6, some (.str y)]) (C := fun d => ∃ y : Str, d = .str y ∧ TextOk 200 y) (ev_if (B := fun _ => True) (et_test ((ev_eqIE (ev_var (i := 3) rfl (.int way)) ev_i).imp fun _ e => ⟨_, e, True.intro⟩)) (fun _ => ev_callP rfl (ea_eq (ev_var (i := 1) rfl (.str z)) ea_nil) (fun _ e => ⟨z, e, by omega, sz⟩) fun ds u e ⟨x', z', q', e', l', s'⟩ => ?_) fun _ => (ev_var (i := 1) rfl (.str z)).imp fun _ e => ⟨z, e, by omega, sz⟩) f6 (Same.refl _) fun v9 d H8 x8 m9 hd => fin (x04.trans (x5.trans (x6.trans x8))) m9 hd
    rw [e] at q'
    injection q' with q' _
    injection q' with q'
    subst q'
    exact ⟨z', e', by omega, s' sz⟩
  dsimp only [tNext]
  refine q_ifE (ask 3 x5) f5 (Same.refl _) (fun H6 x6 f6 e6 => ?_) (fun H6 x6 f6 e6 => ?_)
  · have x56 := x5.trans x6
    have s6 := x56.off f4.mem
    refine jn (zs := ws.take p ++ [y] ++ ws.drop (p + 1)) x56 f6 (Ev.imp (ev_catL (ev_catL (ev_slLD (e2 s6) eo_no (eo_at (K := K) e4)) (ev_lstE (ea_eq (ev_var (i := 7) rfl (.str y)) ea_nil) (by show 1 ≤ 1000; decide)) ?_) (ev_slLD (e2 s6) (eo_at (K := K) (ev_addE e4 ev_i)) eo_no) ?_) fun d e => ?_) (fun z mz => ?_) ?_
    · have := cutD_len (xs := ws.map PyData.str) (lo := none) (hi := some (p : Int))
      rw [List.length_map] at this
      show _ + 1 ≤ _
      omega
    · have h1 := cutD_len (xs := ws.map PyData.str) (lo := none) (hi := some (p : Int))
      have h2 := cutD_len (xs := ws.map PyData.str) (lo := some ((p : Int) + 1)) (hi := none)
      rw [List.length_map] at h1 h2
      rw [List.length_append]
      show _ + 1 + _ ≤ _
      omega
    · rw [e, c1, c2, List.map_append, List.map_append]
      rfl
    · rcases List.mem_append.mp mz with mz | mz
      · rcases List.mem_append.mp mz with mz | mz
        · exact .inl (List.mem_of_mem_take mz)
        · exact .inr (List.mem_singleton.mp mz)
      · exact .inl (List.mem_of_mem_drop mz)
    · rw [sum_app, sum_app]
      simp only [List.map_cons, List.map_nil, List.sum_cons, List.sum_nil, List.length_append, List.length_cons, List.length_nil, List.length_take, List.length_drop]
      omega
  dsimp only [tNext]
  have x46 := x5.trans x6
  refine q_ifE (ask 4 x46) f6 (Same.refl _) (fun H7 x7 f7 e7 => ?_) (fun H7 x7 f7 e7 => ?_)
  · have x57 := x46.trans x7
    have s6 := x57.off f4.mem
    refine jn (zs := ws.take (p + 1) ++ ws.drop p) x57 f7 (Ev.imp (ev_catL (ev_slLD (e2 s6) eo_no (eo_at (K := K) (ev_addE e4 ev_i))) (ev_slLD (e2 s6) (eo_at (K := K) e4) eo_no) ?_) fun d e => ?_) (fun z mz => ?_) ?_
    · have h1 := cutD_len (xs := ws.map PyData.str) (lo := none) (hi := some ((p : Int) + 1))
      have h2 := cutD_len (xs := ws.map PyData.str) (lo := some (p : Int)) (hi := none)
      rw [List.length_map] at h1 h2
      omega
    · rw [e, c3, c4, List.map_append]
    · rcases List.mem_append.mp mz with mz | mz
      · exact .inl (List.mem_of_mem_take mz)
      · exact .inl (List.mem_of_mem_drop mz)
    · rw [sum_app]
      simp only [List.length_append, List.length_take, List.length_drop]
      omega
  dsimp only [tNext]
  have x47 := x46.trans x7
  refine q_ifE (ask 5 x47) f7 (Same.refl _) (fun H8 x8 f8 e8 => ?_) (fun H8 x8 f8 e8 => ?_)
  · have x57 := x47.trans x8
    have s6 := x57.off f4.mem
    refine jn (zs := ws.take p ++ ws.drop (p + 1)) x57 f8 (Ev.imp (ev_catL (ev_slLD (e2 s6) eo_no (eo_at (K := K) e4)) (ev_slLD (e2 s6) (eo_at (K := K) (ev_addE e4 ev_i)) eo_no) ?_) fun d e => ?_) (fun z mz => ?_) ?_
    · have h1 := cutD_len (xs := ws.map PyData.str) (lo := none) (hi := some (p : Int))
      have h2 := cutD_len (xs := ws.map PyData.str) (lo := some ((p : Int) + 1)) (hi := none)
      rw [List.length_map] at h1 h2
      omega
    · rw [e, c1, c2, List.map_append]
    · rcases List.mem_append.mp mz with mz | mz
      · exact .inl (List.mem_of_mem_take mz)
      · exact .inl (List.mem_of_mem_drop mz)
    · rw [sum_app]
      simp only [List.length_append, List.length_take, List.length_drop]
      omega
  dsimp only [tNext]
  have x48 := x47.trans x8
  have hL8 := x48.keep _ _ La hL4
  have gp : ∀ {j : Nat} (h : j < ws.length), (ws.map V.str)[j]? = some (.str ws[j]) := fun {j} h => by rw [List.getElem?_map, List.getElem?_eq_getElem h]; rfl
  refine q_swap (K := K) (i := 2) (j := 4) (l := 5) (p := p) (q := q) (σ := [some (.ref a), some (.str x), some (.ref L), some (.int way), some (.int (p : Nat)), some (.int (q : Nat)), some v6, some (.str y)]) rfl rfl rfl hL8 (gp hp) (gp hq) (by rw [List.length_map]; omega) ?_
  intro t ht
  have z0 : Ext a H8 (upd H8 t (.tup [.str ws[q], .str ws[p]])) := Ext.new ht
  have y1 : Ext a H (upd H8 t (.tup [.str ws[q], .str ws[p]])) := (x04.trans x48).trans z0
  have g1 := f8.ext z0
  have y2 := y1.store nL La (o := .lst ((ws.map V.str).set p (.str ws[q])))
  have g2 := g1.upd La (o := .lst ((ws.map V.str).set p (.str ws[q])))
  have y3 := y2.store nL La (o := .lst (((ws.map V.str).set p (.str ws[q])).set q (.str ws[p])))
  have g3 := g2.upd La (o := .lst (((ws.map V.str).set p (.str ws[q])).set q (.str ws[p])))
  have hL9 : (upd (upd (upd H8 t (.tup [.str ws[q], .str ws[p]])) L (.lst ((ws.map V.str).set p (.str ws[q])))) L (.lst (((ws.map V.str).set p (.str ws[q])).set q (.str ws[p])))) L = some (.lst (((ws.set p ws[q]).set q ws[p]).map V.str)) := by
    rw [upd_same, List.map_set, List.map_set]
  generalize (upd (upd (upd H8 t (.tup [.str ws[q], .str ws[p]])) L (.lst ((ws.map V.str).set p (.str ws[q])))) L (.lst (((ws.map V.str).set p (.str ws[q])).set q (.str ws[p])))) = H9 at y3 g3 hL9
  dsimp only
  refine q_retE (K := K) (σ := [some (.ref a), some (.str x), some (.ref L), some (.int way), some (.int (p : Nat)), some (.int (q : Nat)), some v6, some (.str y)]) (d := .str (Txt.join gap ((ws.set p ws[q]).set q ws[p]))) (ev_join (C1 := (· = .str (Txt.join gap ((ws.set p ws[q]).set q ws[p])))) (z := gap) (ev_var (i := 2) (d := .list (((ws.set p ws[q]).set q ws[p]).map .str)) rfl (.lst (off_mk LS hL9) (DA.of_strs _))) ?_) g3 (Same.refl _) fun v8 H10 x10 m8 => fin (y3.trans x10) m8 ⟨_, rfl, joined_ok (s4 fun z mz => .inl ?_) ?_⟩
  · rintro _ rfl
    refine ⟨_, rfl, ?_, rfl⟩
    have g1 : gap.length = 1 := by decide +kernel
    have := set_sum (List.getElem?_eq_getElem hp) (List.getElem?_eq_getElem hq)
    rw [g1, this, List.length_set, List.length_set]
    omega
  · rcases List.mem_or_eq_of_mem_set mz with mz | rfl
    · rcases List.mem_or_eq_of_mem_set mz with mz | rfl
      · exact mz
      · exact List.getElem_mem hq
    · exact List.getElem_mem hp
  · have := set_sum (List.getElem?_eq_getElem hp) (List.getElem?_eq_getElem hq)
    rw [this, List.length_set, List.length_set]
    omega
end
end K91
set_option Elab.async false
set_option linter.all false
set_option maxRecDepth 100000
set_option maxHeartbeats 1000000
namespace K91
open PySem PySem.Spec L2 LK
open PyProof.Rows hiding St
local macro_rules | `(tactic| walk_at "ext") => `(tactic| first | exact Ext.refl | assumption | (refine Ext.trans ?_ (by assumption); walk_at "ext"))
local macro_rules | `(tactic| walk_at "sm") => `(tactic| first | exact Same.refl _ | assumption | (refine Ext.off ?_ (Fr.mem (by assumption)); walk_at "ext"))
local macro_rules | `(tactic| walk_at "dm") => `(tactic| first | assumption | exact .int _ | exact .bl _ | exact .str _ | exact .non | (refine D.mono (by assumption) ?_; walk_at "sm"))
local macro_rules | `(tactic| walk_at "sd") => `(tactic| first | assumption | rfl | decide | omega | (show _ ≤ 1000; decide))
local macro_rules | `(tactic| walk_at "ea") => `(tactic| first | exact ea_nil | (refine ea_eq ?_ ?_; (walk_at "ev"); (walk_at "ea")))
local macro_rules | `(tactic| walk_at "et") => `(tactic| first
  | (refine et_valE ?_; walk_at "ev") | (refine et_testE ?_; walk_at "ev") | (refine et_notE ?_; walk_at "et")
  | (refine et_andE ?_ (fun _ => ?_); (walk_at "et"); (walk_at "et")) | (refine et_orE ?_ (fun _ => ?_); (walk_at "et"); (walk_at "et")))
local macro_rules | `(tactic| walk_at "ev") => `(tactic| first
  | exact ev_i | exact ev_s | exact ev_b | exact ev_n | exact ev_dnew
  | (refine ev_var rfl ?_; walk_at "dm")
  | (refine ev_tupE ?_ ?_; (walk_at "ea"); (walk_at "sd")) | (refine ev_lstE ?_ ?_; (walk_at "ea"); (walk_at "sd"))
  | (refine ev_negE ?_; walk_at "ev")
  | (refine ev_isiE ?_ ?_; (walk_at "ev"); (walk_at "sd"))
  | (refine ev_lenE ?_ ?_ ?_; (walk_at "ev"); (walk_at "sd"); (walk_at "sd"))
  | (refine ev_atL ?_ ?_ ?_; (walk_at "ev"); (walk_at "ev"); (walk_at "sd")) | (refine ev_atT ?_ ?_ ?_; (walk_at "ev"); (walk_at "ev"); (walk_at "sd"))
  | (refine ev_addE ?_ ?_; (walk_at "ev"); (walk_at "ev")) | (refine ev_cmpE ?_ ?_; (walk_at "ev"); (walk_at "ev")) | (refine ev_i0E ?_ ?_; (walk_at "ev"); (walk_at "ev"))
  | (refine ev_mulE ?_ ?_ ?_; (walk_at "ev"); (walk_at "ev"); (walk_at "sd"))
  | (refine ev_eqIE ?_ ?_; (walk_at "ev"); (walk_at "ev")) | (refine ev_neIE ?_ ?_; (walk_at "ev"); (walk_at "ev"))
  | (refine ev_andE ?_ (fun _ => ?_); (walk_at "ev"); (walk_at "ev")) | (refine ev_orE ?_ (fun _ => ?_); (walk_at "ev"); (walk_at "ev")) | (refine ev_notE ?_; walk_at "ev")
  | (refine ev_fn ?_ ?_; (walk_at "ea"); (walk_at "sd")))
local macro_rules | `(tactic| walk_at "lit") => `(tactic| first | exact ev_i | exact ev_s | exact ev_b | exact ev_n | exact ev_dnew | (refine ev_negE ?_; walk_at "lit") | (refine ev_tupE ?_ (by decide); walk_at "lits") | (refine ev_lstE ?_ (by decide); walk_at "lits") | (refine ev_powE ?_ ?_ ⟨by decide, by decide, by decide⟩ <;> walk_at "lit"))
local macro_rules | `(tactic| walk_at "lits") => `(tactic| first | exact ea_nil | (refine ea_eq ?_ ?_; (walk_at "lit"); (walk_at "lits")))
section
open TL (tl numL)
open NumText (digitsVal AllDigits)
variable {P : Program} {w : World} {K : PySem.W.Frag} {mg : Str → Option Value} {c : Cls} {base : Heap} {a : Addr} {G : Hp} {S : List Addr} {H : Hp}
theorem ok_l_odd_rows {f : Addr} {fd : FuncData} (F : Fun K "_law_odd_rows" "_law_odd_rows" s_l_odd_rows f fd) (T : Txt K mg c) (F_l_draw : DfD P w K mg base) (F_l_row_note : Df P w K mg base CX0 2 "_law_row_note" ["_law_row"] (spG K preRn postRn)) : FnG P w K mg base CX0 3 f fd ["_law_pot_here", "_law_labels", "_law_row"] (spP K preOr postOr) := by
  refine fun_okG F sc_l_odd_rows (fun vs H Q E h => spP_len (n := 2) (fun ds ⟨_, _, e, _⟩ => by rw [e]; rfl) h) (fun cdv A outer s H vs Q E hg hr h => ?_)
  obtain ⟨a, S, ws0, ds, rfl, f, m, ⟨dl, r, rfl, hb⟩, k⟩ := h
  obtain ⟨vl, vr, rfl, ml, mr⟩ := DA.two m
  refine ⟨_, (pss_cons (ps_par (i := 3) (j := 4) (by rfl) sc_l_odd_rows.nd rfl rfl (by decide) rfl rfl (pa_cons (pe_fn F_l_draw hg (hr.mono (by decide)) (by rfl) pass0 (pa_cons (pv 0) (pa_cons pe_int pa_nil))) (pa_cons (pe_ix (kIx (K := K)) (pe_lst (pa_cons pe_non (pa_cons pe_bl (pa_cons pe_str (pa_cons (pe_un un_neg pe_int) (pa_cons (pe_tup (pa_cons pe_int (pa_cons pe_int pa_nil))) (pa_cons (pe_tup pa_nil) pa_nil))))))) (pe_fn F_l_draw hg (hr.mono (by decide)) (by rfl) pass0 (pa_cons (pv 0) (pa_cons pe_int pa_nil))) (fun _ _ => rfl)) pa_nil)) (by rfl))
    (pss_one (ps_ret (pe_lst (pa_cons (pe_op (kCatG (K := K)) (pe_op (kCatG (K := K)) (pe_slice (kSlA (K := K)) (pv 2) po_none (po_some (pv 3))) (pe_tup (pa_cons (pv 4) pa_nil))) (pe_slice (kSlA (K := K)) (pv 2) (po_some (pe_op (kAdd (K := K)) (pv 3) pe_int)) po_none)) (pa_cons (pe_callTy (kToL (K := K)) (by rfl) T.b_list (by decide +kernel) (pa_cons (pv 2) pa_nil)) (pa_cons (pe_slice (kSlA (K := K)) (pv 2) po_none (po_some pe_int)) (pa_cons (pe_op (kCatG (K := K)) (pv 2) (pe_tup (pa_cons pe_int pa_nil))) (pa_cons pe_non (pa_cons (pe_fn F_l_row_note hg (hr.mono (by decide)) (by rfl) pass0 (pa_cons (pv 2) pa_nil)) (pa_cons pe_int pa_nil))))))))))), ?_⟩
  refine q_par2 (K := K) (σ := [some (.ref a), some vl, some vr, none, none]) (C1 := IsI fun k => 0 ≤ k ∧ k < 5) (C2 := (· ∈ sixD)) (ev_draw rfl ev_i (by decide) (by decide)) (ev_pick (ds := sixD) (ev_lstE (ea_eq ev_n (ea_eq ev_b (ea_eq ev_s (ea_eq (ev_negE ev_i) (ea_eq (ev_tupE (ea_eq ev_i (ea_eq ev_i ea_nil)) (by show 2 ≤ 1000; decide)) (ea_eq (ev_tupE ea_nil (by show 0 ≤ 1000; decide)) ea_nil)))))) (by show 6 ≤ 1000; decide)) (ev_draw rfl ev_i (by decide) (by decide))) f (Same.refl _) ?_
  rintro v3 v4 _ z H1 x1 f1 m3 m4 ⟨n, rfl, n0, n5⟩ hz
  cases m3
  obtain ⟨n, rfl⟩ := Int.eq_ofNat_of_zero_le n0
  have hn : n < 5 := by omega
  have er : Ev K a (off S H1) (tVar 2) [some (.ref a), some vl, some vr, some (.int (n : Nat)), some v4] (· = .tuple (fiveD r)) := ev_var (i := 2) rfl (mr.mono (x1.off f.mem))
  have en : Ev K a (off S H1) (tVar 3) [some (.ref a), some vl, some vr, some (.int (n : Nat)), some v4] (· = .int (n : Nat)) := ev_var (i := 3) rfl (.int _)
  have l5 : (fiveD r).length = 5 := rfl
  have c1 : cutD (fiveD r) none (some (n : Int)) = (fiveD r).take n := cut_take (by omega)
  have c2 : cutD (fiveD r) (some ((n : Int) + 1)) none = (fiveD r).drop (n + 1) := cut_drop (n := n + 1) (by omega)
  dsimp only
  refine q_retE (K := K) (σ := [some (.ref a), some vl, some vr, some (.int (n : Nat)), some v4]) (d := .list (thingsD r n z)) (ev_lstE (ea_eq (Ev.imp (ev_catG (ev_catG (ev_slA er eo_no (eo_at (K := K) en)) (ev_tupE (ea_eq (ev_var (i := 4) rfl m4) ea_nil) (by show 1 ≤ 1000; decide)) ?_) (ev_slA er (eo_at (K := K) (ev_addE en ev_i)) eo_no) ?_) fun d e => by rw [e, c1, c2]) (ea_eq (ev_toLT er) (ea_eq (ev_slA er eo_no (eo_at (K := K) ev_i)) (ea_eq (ev_catG er (ev_tupE (ea_eq ev_i ea_nil) (by show 1 ≤ 1000; decide)) (by show 5 + 1 ≤ 1000000; decide)) (ea_eq ev_n (ea_eq (ev_callE (C := (· = .str (noteR r))) (ea_eq er ea_nil) ⟨r, rfl, hb⟩ fun u ⟨r', q, e⟩ => by
    injection q with q _
    rw [e, Row.d_inj q]) (ea_eq ev_i ea_nil))))))) (by show 7 ≤ 1000; decide)) f1 (Same.refl _) fun v5 H4 x4 m5 => k v5 _ H4 (x1.trans x4) m5 ⟨dl, r, n, z, rfl, hn, hz, rfl⟩
  · have := cutD_len (xs := fiveD r) (lo := none) (hi := some (n : Int))
    rw [l5] at this
    show _ + 1 ≤ _
    omega
  · have h1 := cutD_len (xs := fiveD r) (lo := none) (hi := some (n : Int))
    have h2 := cutD_len (xs := fiveD r) (lo := some ((n : Int) + 1)) (hi := none)
    rw [l5] at h1 h2
    rw [List.length_append]
    show _ + 1 + _ ≤ _
    omega
theorem ok_l_is_row {f : Addr} {fd : FuncData} (F : Fun K "_law_is_row" "_law_is_row" s_l_is_row f fd) (T : Txt K mg c) (F_l_ratio : FRa P w K mg base) : FnG P w K mg base CX0 3 f fd ["_law_thing", "_law_labels"] (spG K preIr postIr) := by
  refine fun_okG F sc_l_is_row (fun vs H Q E h => spG_len (n := 2) (fun ds ⟨_, _, e, _⟩ => by rw [e]; rfl) h) (fun cdv A outer s H vs Q E hg hr h => ?_)
  obtain ⟨a, S, ds, f, m, ⟨d, e, rfl, tm, hpar⟩, k⟩ := h
  obtain ⟨v, w, rfl, mv, mw⟩ := DA.two m
  refine ⟨_, (pss_cons (ps_if (PW.pt (pw_or (pt_not (pt_val (pe_callB (kIsi (K := K)) (by rfl) T.b_isinstance (by decide +kernel) (pa_cons (pv 0) (pa_cons (pe_bltn (v := .ty "tuple") (by rfl) T.b_tuple (by decide +kernel) rfl) pa_nil))))) (pw_or1 (pt_cmpR (kNe (K := K) hr.units) (pe_callB (kLen (K := K)) (by rfl) T.b_len (by decide +kernel) (pa_cons (pv 0) pa_nil)) pe_int (nomark _)))))
    (pss_one (ps_ret pe_bl))
    pss_nil)
    (pss_cons (ps_if (pt_not (pt_val (pe_callB (kAll (K := K) rfl) (by rfl) T.b_all (by decide +kernel) (pa_cons (pe_lc (own := [("_law_part", 2)]) rfl sc_l_is_row.nd (pi_seq (pe_slice (kSlA (K := K)) (pv 0) po_none (po_some pe_int))) (blkOk_by (N := ["_law_thing", "_law_labels", "_law_part"]) (sc := defScope s_l_is_row) (by decide +kernel)) (fun _ _ _ _ _ => (pg_name (i := 2) sc_l_is_row.nd rfl (by first | exact Or.inl rfl | exact Or.inr rfl))) (fun _ _ _ _ _ => pts_nil) (fun _ _ _ _ _ => (pe_and (pe_callB (kIsi (K := K)) (by rfl) T.b_isinstance (by decide +kernel) (pa_cons (pv 2) (pa_cons (pe_bltn (v := .ty "int") (by rfl) T.b_int (by decide +kernel) rfl) pa_nil))) (pe_one (pe_not (pe_callB (kIsi (K := K)) (by rfl) T.b_isinstance (by decide +kernel) (pa_cons (pv 2) (pa_cons (pe_bltn (v := .ty "bool") (by rfl) T.b_bool (by decide +kernel) rfl) pa_nil)))))))) pa_nil))))
    (pss_one (ps_ret pe_bl))
    pss_nil)
    (pss_cons (ps_if (PW.pt (pw_or (pt_not (pt_chain op_le op_le pe_int (pe_ix (kIx (K := K)) (pv 0) pe_int (fun _ _ => rfl)) pe_int)) (pw_or (pt_cmpR op_lt (pe_ix (kIx (K := K)) (pv 0) pe_int (fun _ _ => rfl)) pe_int (nomark _)) (pw_or1 (pt_not (pt_val (pe_callB (kAll (K := K) rfl) (by rfl) T.b_all (by decide +kernel) (pa_cons (pe_lc (own := [("_law_part", 2)]) rfl sc_l_is_row.nd (pi_seq (pe_slice (kSlA (K := K)) (pv 0) (po_some pe_int) (po_some pe_int))) (blkOk_by (N := ["_law_thing", "_law_labels", "_law_part"]) (sc := defScope s_l_is_row) (by decide +kernel)) (fun _ _ _ _ _ => (pg_name (i := 2) sc_l_is_row.nd rfl (by first | exact Or.inl rfl | exact Or.inr rfl))) (fun _ _ _ _ _ => pts_nil) (fun _ _ _ _ _ => (pe_callB (kIsi (K := K)) (by rfl) T.b_isinstance (by decide +kernel) (pa_cons (pv 2) (pa_cons (pe_bltn (v := .ty "str") (by rfl) T.b_str (by decide +kernel) rfl) pa_nil))))) pa_nil))))))))
    (pss_one (ps_ret pe_bl))
    pss_nil)
    (pss_cons (ps_if (pt_val (pe_callB (kIsi (K := K)) (by rfl) T.b_isinstance (by decide +kernel) (pa_cons (pe_ix (kIx (K := K)) (pv 0) pe_int (fun _ _ => rfl)) (pa_cons (pe_bltn (v := .ty "tuple") (by rfl) T.b_tuple (by decide +kernel) rfl) pa_nil))))
    (pss_one (ps_ret (pe_and (pe_cmpR (kEq (K := K) hr.units) (pe_callB (kLen (K := K)) (by rfl) T.b_len (by decide +kernel) (pa_cons (pe_ix (kIx (K := K)) (pv 0) pe_int (fun _ _ => rfl)) pa_nil)) pe_int (nomark _)) (pe_one (pe_cmpR (kEq (K := K) hr.units) (pe_fn F_l_ratio hg (hr.mono (by decide)) (by rfl) pass0 (pa_cons (pe_ix (kIx (K := K)) (pe_ix (kIx (K := K)) (pv 0) pe_int (fun _ _ => rfl)) pe_int (fun _ _ => rfl)) (pa_cons (pe_ix (kIx (K := K)) (pe_ix (kIx (K := K)) (pv 0) pe_int (fun _ _ => rfl)) pe_int (fun _ _ => rfl)) pa_nil))) (pe_ix (kIx (K := K)) (pv 0) pe_int (fun _ _ => rfl)) (nomark _))))))
    pss_nil)
    (pss_one (ps_ret (pe_and (pe_callB (kIsi (K := K)) (by rfl) T.b_isinstance (by decide +kernel) (pa_cons (pe_ix (kIx (K := K)) (pv 0) pe_int (fun _ _ => rfl)) (pa_cons (pe_bltn (v := .ty "int") (by rfl) T.b_int (by decide +kernel) rfl) pa_nil))) (pe_one (pe_not (pe_callB (kIsi (K := K)) (by rfl) T.b_isinstance (by decide +kernel) (pa_cons (pe_ix (kIx (K := K)) (pv 0) pe_int (fun _ _ => rfl)) (pa_cons (pe_bltn (v := .ty "bool") (by rfl) T.b_bool (by decide +kernel) rfl) pa_nil)))))))))))), ?_⟩
  have fin : ∀ {b : Bool} {H' : Hp}, Ext a H H' → b = isRowB d → Q (.bl b) H' := fun {b H'} x z => by
    subst z
    exact k _ _ H' x (.bl _) ⟨d, e, rfl, rfl⟩
  have e0 : Ev K a (off S H) (tVar 0) [some v, some w, none] (· = d) := ev_var rfl mv
  cases ht : tupD d with
  | false =>
    refine q_ifE (b := (!false) || false) (et_orE (et_notE (et_valE (K := K) ((ev_isTupE e0).imp fun _ z => by rw [z, ht]))) (fun h => nomatch h)) f (Same.refl _) (fun H1 x1 f1 _ => ?_) (fun H1 x1 f1 e1 => nomatch e1)
    refine fin x1 ?_
    cases d <;> first | rfl | cases ht
  | true =>
  obtain ⟨es, rfl⟩ := tup_of ht
  have hlen := tm.tupLen
  by_cases hl : es.length = 5
  rotate_left
  · refine q_ifE (b := (!true) || true) (et_orE (et_notE (et_valE (K := K) (ev_isTupE e0))) (fun _ => et_testE (K := K) ((ev_neIE (ev_lenE e0 rfl (by omega)) ev_i).imp fun _ z => by rw [z, decide_eq_false (by omega)]; rfl))) f (Same.refl _) (fun H1 x1 f1 e1 => ?_) (fun H1 x1 f1 e1 => nomatch e1)
    refine fin x1 ?_
    rcases es with _ | ⟨_, _ | ⟨_, _ | ⟨_, _ | ⟨_, _ | ⟨_, _ | ⟨_, _⟩⟩⟩⟩⟩⟩ <;> first | rfl | exact absurd rfl hl
  obtain ⟨l, t, r, g, n, rfl⟩ : ∃ l t r g n, es = [l, t, r, g, n] := by
    match es, hl with
    | [l, t, r, g, n], _ => exact ⟨_, _, _, _, _, rfl⟩
  have hp := hpar l t r g n rfl
  refine q_ifE (b := (!true) || !decide (((5 : Nat) : Int) = 5)) (et_orE (et_notE (et_valE (K := K) (ev_isTupE e0))) (fun _ => et_testE (K := K) (ev_neIE (ev_lenE (n := 5) e0 rfl (by decide)) ev_i))) f (Same.refl _) (fun H1 x1 f1 e1 => nomatch e1) (fun H1 x1 f1 _ => ?_)
  have ix : ∀ {H' : Hp} {i : Int} {z : PyData}, Ext a H H' → atI [l, t, r, g, n] i = some z → Ev K a (off S H') (tOp (rIx K) (tVar 0) (tC (.int i))) [some v, some w, none] (· = z) := fun x h => ev_atT (e0.at (x.off f.mem)) ev_i h
  have erow : isRowB (.tuple [l, t, r, g, n]) = (((isIntD l && isIntD t) && ((isLevelD l && timeB t) && (isStrD r && isStrD g))) && isRatD n) := rfl
  dsimp only [tNext]
  refine q_ifE (b := !([l, t].all isIntD)) (et_notE (et_valE (K := K) (ev_allE (p := isIntD) (ev_lcM (es := [l, t]) (g := fun e => .bool (isIntD e)) ((ev_slA (e0.at (x1.off f.mem)) eo_no (eo_at (K := K) ev_i)).imp fun _ z => .inr z) (by show 2 < 100000; decide) (fun _ => rfl) fun e z G' _ sG mz => ev_isInteger (ev_var (i := 2) rfl mz))))) f1 (Same.refl _) (fun H2 x2 f2 e2 => ?_) (fun H2 x2 f2 e2 => ?_)
  · refine q_retE (K := K) (σ := [some v, some w, none]) ev_b f2 (Same.refl _) fun v5 H4 x4 m5 => ?_
    cases m5
    refine fin (x1.trans (x2.trans x4)) ?_
    rw [erow]
    have : (isIntD l && isIntD t) = false := by
      cases h1 : isIntD l <;> cases h2 : isIntD t <;> first | rfl | (simp [h1, h2] at e2; done)
    rw [this]
    rfl
  have hint : isIntD l = true ∧ isIntD t = true := by simpa using e2
  obtain ⟨li, rfl⟩ : ∃ i, l = .int i := by
    have := hint.1
    cases l <;> first | exact ⟨_, rfl⟩ | cases this
  obtain ⟨ti, rfl⟩ : ∃ i, t = .int i := by
    have := hint.2
    cases t <;> first | exact ⟨_, rfl⟩ | cases this
  have x12 := x1.trans x2
  dsimp only [tNext]
  refine q_ifE (b := (!(decide (0 ≤ li) && decide (li ≤ 2))) || (decide (ti < 1) || !([r, g].all isStrD))) (et_orE (et_notE (et_chainE (g := fun i j => decide (i ≤ j)) (g' := fun i j => decide (i ≤ j)) ev_i (ix x12 rfl) ev_i)) fun _ => et_orE (et_testE (K := K) (ev_cmpE (g := fun i j => decide (i < j)) (ix x12 rfl) ev_i)) fun _ => et_notE (et_valE (K := K) (ev_allE (p := isStrD) (ev_lcM (es := [r, g]) (g := fun e => .bool (isStrD e)) ((ev_slA (e0.at (x12.off f.mem)) (eo_at (K := K) ev_i) (eo_at (K := K) ev_i)).imp fun _ z => .inr z) (by show 2 < 100000; decide) (fun _ => rfl) fun e z G' _ sG mz => ev_isStrE (ev_var (i := 2) rfl mz))))) f2 (Same.refl _) (fun H3 x3 f3 e3 => ?_) (fun H3 x3 f3 e3 => ?_)
  · refine q_retE (K := K) (σ := [some v, some w, none]) ev_b f3 (Same.refl _) fun v5 H4 x4 m5 => ?_
    cases m5
    refine fin (x12.trans (x3.trans x4)) ?_
    rw [erow]
    have : ((isLevelD (.int li) && timeB (.int ti)) && (isStrD r && isStrD g)) = false := by
      show (((decide (0 ≤ li) && decide (li ≤ 2)) && decide (1 ≤ ti)) && (isStrD r && isStrD g)) = false
      by_cases h1 : (decide (0 ≤ li) && decide (li ≤ 2)) = true
      · by_cases h2 : ti < 1
        · rw [decide_eq_false (show ¬ (1 : Int) ≤ ti by omega), Bool.and_false]
          rfl
        · rw [h1, decide_eq_false h2] at e3
          cases h3 : isStrD r <;> cases h4 : isStrD g <;> first | (simp [h3, h4] at e3; done) | simp
      · rw [Bool.not_eq_true] at h1
        rw [h1]
        rfl
    rw [this]
    rfl
  have hmid : ((isLevelD (.int li) && timeB (.int ti)) && (isStrD r && isStrD g)) = true := by
    show (((decide (0 ≤ li) && decide (li ≤ 2)) && decide (1 ≤ ti)) && (isStrD r && isStrD g)) = true
    rw [Bool.or_eq_false_iff, Bool.or_eq_false_iff] at e3
    obtain ⟨h1, h2, h3⟩ := e3
    have h2 := of_decide_eq_false h2
    rw [decide_eq_true (show (1 : Int) ≤ ti by omega), Bool.and_true]
    have h1 : (decide (0 ≤ li) && decide (li ≤ 2)) = true := by simpa using h1
    have h3 : (isStrD r && isStrD g) = true := by simpa using h3
    rw [h1, h3]
    rfl
  have efin : isRowB (.tuple [.int li, .int ti, r, g, n]) = isRatD n := by
    rw [erow, hmid]
    show (((true && true) && true) && isRatD n) = isRatD n
    rfl
  have x03 := x12.trans x3
  dsimp only [tNext]
  refine q_ifE (b := tupD n) (et_valE (K := K) (ev_isTupE (ix x03 rfl))) f3 (Same.refl _) (fun H4 x4 f4 e4 => ?_) (fun H4 x4 f4 e4 => ?_)
  · obtain ⟨ns, rfl⟩ := tup_of e4
    have x04 := x03.trans x4
    have hnl : ns.length ≤ 8000 := by
      have := tm.tupItem (.tuple ns) (by simp)
      exact this.tupLen
    by_cases h2 : ns.length = 2
    · obtain ⟨u, y, rfl⟩ : ∃ u y, ns = [u, y] := by
        match ns, h2 with
        | [u, y], _ => exact ⟨_, _, rfl⟩
      obtain ⟨i, j, rfl, rfl, hs⟩ := hp u y rfl
      have en : Ev K a (off S H4) (tOp (rIx K) (tVar 0) (tC (.int 4))) [some v, some w, none] (· = .tuple [.int i, .int j]) := ix x04 rfl
      have hq : EqOk (.tuple [.int i, .int j]) := ⟨rfl, by simp [SeqAt.shaped, PyData.canLay0, PyData.canLayAll0, PyData.depth, PyData.depthAll]⟩
      refine q_retE (K := K) (σ := [some v, some w, none]) (d := .bool (isRatD (.tuple [.int i, .int j]))) (Ev.imp (ev_andE (b := decide (((2 : Nat) : Int) = 2)) (c := PyData.eqv (ratioD i j) (.tuple [.int i, .int j])) (ev_eqIE (ev_lenE (n := 2) en rfl (by decide)) ev_i) fun _ => ev_eqDE (ev_callI (g := ratioD) (ev_atT en ev_i rfl) (ev_atT en ev_i rfl) hs) en (rat_eqok (ratio_rat hs.1)) hq) fun z e => by rw [e, ratio_eqv hs.1]; rfl) f4 (Same.refl _) fun v5 H5 x5 m5 => ?_
      cases m5
      exact fin (x04.trans x5) efin.symm
    · refine q_retE (K := K) (σ := [some v, some w, none]) (d := .bool false) (Ev.imp (ev_andE (b := false) (c := false) ((ev_eqIE (ev_lenE (n := ns.length) (ix x04 rfl) rfl (by omega)) ev_i).imp fun _ z => by rw [z, decide_eq_false (by omega)]) fun h => nomatch h) fun z e => e) f4 (Same.refl _) fun v5 H5 x5 m5 => ?_
      cases m5
      exact fin (x04.trans x5) (by rw [efin, isRat_len h2])
  · dsimp only [tNext]
    have x04 := x03.trans x4
    refine q_retE (K := K) (σ := [some v, some w, none]) (d := .bool (isIntD n)) (ev_isInteger (ix x04 rfl)) f4 (Same.refl _) fun v5 H5 x5 m5 => ?_
    cases m5
    refine fin (x04.trans x5) ?_
    rw [efin]
    cases n <;> first | rfl | cases e4
end
end K91
set_option Elab.async false
set_option linter.all false
set_option maxRecDepth 100000
set_option maxHeartbeats 1000000
namespace K91
open PySem PySem.Spec L2 LK
open PyProof.Rows hiding St
local macro_rules | `(tactic| walk_at "ext") => `(tactic| first | exact Ext.refl | assumption | (refine Ext.trans ?_ (by assumption); walk_at "ext"))
local macro_rules | `(tactic| walk_at "sm") => `(tactic| first | exact Same.refl _ | assumption | (refine Ext.off ?_ (Fr.mem (by assumption)); walk_at "ext"))
local macro_rules | `(tactic| walk_at "dm") => `(tactic| first | assumption | exact .int _ | exact .bl _ | exact .str _ | exact .non | (refine D.mono (by assumption) ?_; walk_at "sm"))
local macro_rules | `(tactic| walk_at "sd") => `(tactic| first | assumption | rfl | decide | omega | (show _ ≤ 1000; decide))
local macro_rules | `(tactic| walk_at "ea") => `(tactic| first | exact ea_nil | (refine ea_eq ?_ ?_; (walk_at "ev"); (walk_at "ea")))
local macro_rules | `(tactic| walk_at "et") => `(tactic| first
  | (refine et_valE ?_; walk_at "ev") | (refine et_testE ?_; walk_at "ev") | (refine et_notE ?_; walk_at "et")
  | (refine et_andE ?_ (fun _ => ?_); (walk_at "et"); (walk_at "et")) | (refine et_orE ?_ (fun _ => ?_); (walk_at "et"); (walk_at "et")))
local macro_rules | `(tactic| walk_at "ev") => `(tactic| first
  | exact ev_i | exact ev_s | exact ev_b | exact ev_n | exact ev_dnew
  | (refine ev_var rfl ?_; walk_at "dm")
  | (refine ev_tupE ?_ ?_; (walk_at "ea"); (walk_at "sd")) | (refine ev_lstE ?_ ?_; (walk_at "ea"); (walk_at "sd"))
  | (refine ev_negE ?_; walk_at "ev")
  | (refine ev_isiE ?_ ?_; (walk_at "ev"); (walk_at "sd"))
  | (refine ev_lenE ?_ ?_ ?_; (walk_at "ev"); (walk_at "sd"); (walk_at "sd"))
  | (refine ev_atL ?_ ?_ ?_; (walk_at "ev"); (walk_at "ev"); (walk_at "sd")) | (refine ev_atT ?_ ?_ ?_; (walk_at "ev"); (walk_at "ev"); (walk_at "sd"))
  | (refine ev_addE ?_ ?_; (walk_at "ev"); (walk_at "ev")) | (refine ev_cmpE ?_ ?_; (walk_at "ev"); (walk_at "ev")) | (refine ev_i0E ?_ ?_; (walk_at "ev"); (walk_at "ev"))
  | (refine ev_mulE ?_ ?_ ?_; (walk_at "ev"); (walk_at "ev"); (walk_at "sd"))
  | (refine ev_eqIE ?_ ?_; (walk_at "ev"); (walk_at "ev")) | (refine ev_neIE ?_ ?_; (walk_at "ev"); (walk_at "ev"))
  | (refine ev_andE ?_ (fun _ => ?_); (walk_at "ev"); (walk_at "ev")) | (refine ev_orE ?_ (fun _ => ?_); (walk_at "ev"); (walk_at "ev")) | (refine ev_notE ?_; walk_at "ev")
  | (refine ev_fn ?_ ?_; (walk_at "ea"); (walk_at "sd")))
local macro_rules | `(tactic| walk_at "lit") => `(tactic| first | exact ev_i | exact ev_s | exact ev_b | exact ev_n | exact ev_dnew | (refine ev_negE ?_; walk_at "lit") | (refine ev_tupE ?_ (by decide); walk_at "lits") | (refine ev_lstE ?_ (by decide); walk_at "lits") | (refine ev_powE ?_ ?_ ⟨by decide, by decide, by decide⟩ <;> walk_at "lit"))
local macro_rules | `(tactic| walk_at "lits") => `(tactic| first | exact ea_nil | (refine ea_eq ?_ ?_; (walk_at "lit"); (walk_at "lits")))
section
open TL (tl numL)
open NumText (digitsVal AllDigits)
variable {P : Program} {w : World} {K : PySem.W.Frag} {mg : Str → Option Value} {c : Cls} {base : Heap} {a : Addr} {G : Hp} {S : List Addr} {H : Hp}
def preOn (ns : List Str) (ds : List PyData) : Prop := ∃ r : LK.Row, ds = [.list (ns.map .str), r.d] ∧ RowG ns r ∧ NamesOk ns
theorem ok_l_one_right {f : Addr} {fd : FuncData} (F : Fun K "_law_one_right" "_law_one_right" s_l_one_right f fd) (T : Txt K mg c) (F_l_row_note : Df P w K mg base CX0 2 "_law_row_note" ["_law_row"] (spG K preRn postRn)) (F_l_met : Df P w K mg base CX0 7 "_law_met" ["_law_home", "_law_thing", "_law_is_note"] (spM K c.Sheet preMe postMe))
    (F_l_spoilt : Df P w K mg base CX0 3 "_law_spoilt" ["_law_pot_here", "_law_note"] (spP K preSp1 postSp1)) (F_l_row_in : Df P w K mg base CX0 3 "_law_row_in" ["_law_note", "_law_labels"] (spG K preRo postRo)) (F_l_is_short : Df P w K mg base CX0 1 "_law_is_short" ["_law_note"] (spG K (preTx 600) fun _ z => ∃ b, z = .bool b))
    (F_l_odd_rows : Df P w K mg base CX0 3 "_law_odd_rows" ["_law_pot_here", "_law_labels", "_law_row"] (spP K preOr postOr)) (F_l_is_row : Df P w K mg base CX0 3 "_law_is_row" ["_law_thing", "_law_labels"] (spG K preIr postIr)) :
    FnG P w K mg base CX0 8 f fd ["_law_pot_here", "_law_home", "_law_labels", "_law_row"] (spPM K c.Sheet preOn fun _ _ z => z = .bool true) := by
  refine fun_okG F sc_l_one_right (fun vs H Q E h => spPM_len (n := 2) (fun _ ds ⟨_, e, _⟩ => by rw [e]; rfl) h) (fun cdv A outer s H vs Q E hg hr h => ?_)
  obtain ⟨a, S, p, ns, ws0, ds, rfl, f, sh, m, ⟨r, rfl, g, nok⟩, k⟩ := h
  obtain ⟨vl, vr, rfl, ml, mr⟩ := DA.two m
  have tx := g.text
  have tx2 : TextOk 200 (noteR r) := ⟨by have := tx.len; omega, tx.small⟩
  have trow : Tame r.d := g.sz.tame
  have tnote : Tame (.str (noteR r)) := ((str_szS tx.small).up (m := 200) tx2.len (Nat.le_refl _)).tame
  have hsn := set_note g.set (no_gap_name g.f)
  have nl : ns.length ≤ 100 := by have := nok.most; omega
  -- a call of met
  have met : ∀ {H' : Hp} {σ : L2.St} {te tb : TE} {d : PyData} {b : Bool} {E' : XK}, σ[1]? = some (some (.ref p)) → Same (off S H) (off S H') → Ev K a (off S H') te σ (· = d) → Ev K a (off S H') tb σ (· = .bool b) → Tame d → (∀ x, d = .str x → TextOk 200 x) → (∀ q : LK.Row, d = q.d → isSettingD ns d = true → q.t.natAbs < 2 ^ 300 ∧ Num 300 q.n ∧ q.f.length ≤ 8) → Ev K a (off S H') (tCall (spM K c.Sheet preMe postMe) [] E' (tCons (tVar 1) (tCons te (tCons tb tNil)))) σ (· = metD ns d b) := fun hi s' he hb t1 t2 t3 =>
    ev_callM (C := c.Sheet) (i := 1) hi (sh.mono s') (ea_eq he (ea_eq hb ea_nil)) (fun _ e => ⟨_, _, e, t1, t2, t3⟩) fun ds z e ⟨d', b', q, z'⟩ => by
      rw [e] at q
      injection q with q1 q
      injection q with q2 _
      injection q2 with q2
      rw [z', q1, q2]
  have rowb : ∀ q : LK.Row, r.d = q.d → isSettingD ns r.d = true → q.t.natAbs < 2 ^ 300 ∧ Num 300 q.n ∧ q.f.length ≤ 8 := fun q e _ => by
    rw [← Row.d_inj e]
    exact ⟨g.rowB.t, g.rowB.n, (name_len g.f).2⟩
  have m0 : metD ns r.d false = .list [.str "done", .str (noteR r)] := by
    show (if isSettingD ns r.d = true then PyData.list [.str "done", .str (noteD r.d)] else _) = _
    rw [if_pos g.set]
    rfl
  refine ⟨_, (pss_cons (ps_set (i := 4) sc_l_one_right.nd rfl (by first | exact Or.inl rfl | exact Or.inr rfl) (pe_fn F_l_row_note hg (hr.mono (by decide)) (by rfl) pass0 (pa_cons (pv 3) pa_nil)))
    (pss_cons (ps_if (PW.pt (pw_or (pt_cmpR (kNeF (K := K) hr.units) (pe_fn F_l_met hg (hr.mono (by decide)) (by rfl) pass0 (pa_cons (pv 1) (pa_cons (pv 3) (pa_cons pe_bl pa_nil)))) (pe_lst (pa_cons pe_str (pa_cons (pv 4) pa_nil))) (nomark _)) (pw_or1 (pt_cmpR (kNeF (K := K) hr.units) (pe_callB (kRepr (K := K) hg hr.units) (by rfl) T.b_repr (by decide +kernel) (pa_cons (pe_fn F_l_met hg (hr.mono (by decide)) (by rfl) pass0 (pa_cons (pv 1) (pa_cons (pv 4) (pa_cons pe_bl pa_nil)))) pa_nil)) (pe_callB (kRepr (K := K) hg hr.units) (by rfl) T.b_repr (by decide +kernel) (pa_cons (pe_lst (pa_cons pe_str (pa_cons (pv 3) pa_nil))) pa_nil)) (nomark _)))))
    (pss_one (ps_ret pe_bl))
    pss_nil)
    (pss_cons (ps_for PassesOwn.never rfl (pi_range1 (by rfl) T.b_range (pa_cons pe_int pa_nil)) (pg_name (i := 5) sc_l_one_right.nd rfl (by first | exact Or.inl rfl | exact Or.inr rfl))
    (pss_cons (ps_set (i := 6) sc_l_one_right.nd rfl (by first | exact Or.inl rfl | exact Or.inr rfl) (pe_fn F_l_spoilt hg (hr.mono (by decide)) (by rfl) pass0 (pa_cons (pv 0) (pa_cons (pv 4) pa_nil))))
    (pss_cons (ps_set (i := 7) sc_l_one_right.nd rfl (by first | exact Or.inl rfl | exact Or.inr rfl) (pe_fn F_l_row_in hg (hr.mono (by decide)) (by rfl) pass0 (pa_cons (pv 6) (pa_cons (pv 2) pa_nil))))
    (pss_cons (ps_set (i := 8) sc_l_one_right.nd rfl (by first | exact Or.inl rfl | exact Or.inr rfl) (pe_ifExp (pt_cmpR op_notN (pv 7) pe_non (nomark _)) (pe_lst (pa_cons pe_str (pa_cons (pv 7) pa_nil))) (pe_lst (pa_cons pe_str (pa_cons pe_int pa_nil)))))
    (pss_one (ps_if (PW.pt (pw_and (pt_val (pe_fn F_l_is_short hg (hr.mono (by decide)) (by rfl) pass0 (pa_cons (pv 6) pa_nil))) (pw_and1 (pt_cmpR (kNeF (K := K) hr.units) (pe_callB (kRepr (K := K) hg hr.units) (by rfl) T.b_repr (by decide +kernel) (pa_cons (pe_fn F_l_met hg (hr.mono (by decide)) (by rfl) pass0 (pa_cons (pv 1) (pa_cons (pv 6) (pa_cons pe_bl pa_nil)))) pa_nil)) (pe_callB (kRepr (K := K) hg hr.units) (by rfl) T.b_repr (by decide +kernel) (pa_cons (pv 8) pa_nil)) (nomark _)))))
    (pss_one (ps_ret pe_bl))
    pss_nil))))))
    (pss_cons (ps_for PassesOwn.never rfl (pi_seq (pe_fn F_l_odd_rows hg (hr.mono (by decide)) (by rfl) pass0 (pa_cons (pv 0) (pa_cons (pv 2) (pa_cons (pv 3) pa_nil))))) (pg_name (i := 9) sc_l_one_right.nd rfl (by first | exact Or.inl rfl | exact Or.inr rfl))
    (pss_cons (ps_set (i := 10) sc_l_one_right.nd rfl (by first | exact Or.inl rfl | exact Or.inr rfl) (pe_and (pe_fn F_l_is_row hg (hr.mono (by decide)) (by rfl) pass0 (pa_cons (pv 9) (pa_cons (pv 2) pa_nil))) (pe_one (pe_cmpR op_notN (pe_fn F_l_row_in hg (hr.mono (by decide)) (by rfl) pass0 (pa_cons (pe_fn F_l_row_note hg (hr.mono (by decide)) (by rfl) pass0 (pa_cons (pv 9) pa_nil)) (pa_cons (pv 2) pa_nil))) pe_non (nomark _)))))
    (pss_one (ps_if (PW.pt (pw_and (pt_not (pt_val (pv 10))) (pw_and1 (pt_cmpR (kNeF (K := K) hr.units) (pe_fn F_l_met hg (hr.mono (by decide)) (by rfl) pass0 (pa_cons (pv 1) (pa_cons (pv 9) (pa_cons pe_bl pa_nil)))) (pe_lst (pa_cons pe_str (pa_cons (pe_callB (kRepr (K := K) hg hr.units) (by rfl) T.b_repr (by decide +kernel) (pa_cons (pv 9) pa_nil)) pa_nil))) (nomark _)))))
    (pss_one (ps_ret pe_bl))
    pss_nil))))
    (pss_one (ps_ret (pe_callB (kAll (K := K) rfl) (by rfl) T.b_all (by decide +kernel) (pa_cons (pe_lc (own := [("_law_thing", 9)]) rfl sc_l_one_right.nd (pi_seq (pe_lst (pa_cons pe_non (pa_cons pe_int (pa_cons pe_bl (pa_cons (pv 3) (pa_cons (pe_lst (pa_cons (pv 4) pa_nil)) (pa_cons pe_dnewK pa_nil)))))))) (blkOk_by (N := ["_law_pot_here", "_law_home", "_law_labels", "_law_row", "_law_note", "_law_turn", "_law_bent_here", "_law_found", "_law_due", "_law_thing", "_law_is_good"]) (sc := defScope s_l_one_right) (by decide +kernel)) (fun _ _ _ _ _ => (pg_name (i := 9) sc_l_one_right.nd rfl (by first | exact Or.inl rfl | exact Or.inr rfl))) (fun _ _ _ _ _ => pts_nil) (fun _ _ _ _ _ => (pe_cmpR (kEqF (K := K) hr.units) (pe_fn F_l_met hg (hr.mono (by decide)) (by rfl) pass0 (pa_cons (pv 1) (pa_cons (pv 9) (pa_cons pe_bl pa_nil)))) (pe_lst (pa_cons pe_str (pa_cons pe_int pa_nil))) (nomark _)))) pa_nil)))))))), ?_⟩
  refine q_setE (K := K) (σ := [some (.ref a), some (.ref p), some vl, some vr, none, none, none, none, none, none, none]) (d := .str (noteR r)) (ev_callE (ea_eq (ev_var (i := 3) rfl mr) ea_nil) ⟨r, rfl, g.rowB⟩ fun u ⟨r', q, e⟩ => by
    injection q with q _
    rw [e, Row.d_inj q]) f (Same.refl _) ?_
  intro v4 H1 x1 f1 m4
  have s1 := x1.off f.mem
  have flat2 : ∀ d ∈ ([.str "done", .str (noteR r)] : List PyData), flatD d = true := fun d m => by
    simp only [List.mem_cons, List.not_mem_nil, or_false] at m
    rcases m with rfl | rfl <;> rfl
  have td : Tame (.list [.str "done", r.d]) := (sz_list (n := 60) (m := 200) (k := 2) (fun d m => by
    simp only [List.mem_cons, List.not_mem_nil, or_false] at m
    rcases m with rfl | rfl
    · exact Sz.of (by decide +kernel)
    · exact g.sz) (by show 2 * 61 ≤ 200; decide)).tame
  dsimp only
  refine q_ifE (b := false || false) (σ := [some (.ref a), some (.ref p), some vl, some vr, some v4, none, none, none, none, none, none]) (et_orE (et_testE (K := K) (ev_neFl (ds := [.str "done", .str (noteR r)]) ((met rfl s1 (ev_var (i := 3) rfl (mr.mono s1)) ev_b trow (fun x e => by cases e) rowb).imp fun _ e => by rw [e, m0]) (ev_lstE (ea_eq ev_s (ea_eq (ev_var (i := 4) rfl m4) ea_nil)) (by show 2 ≤ 1000; decide)) flat2)) fun _ => et_testE (K := K) (ev_neFs (d := .list [.str "done", r.d]) (e := .list [.str "done", r.d]) (ev_reprE ((met rfl s1 (ev_var (i := 4) rfl m4) ev_b tnote (fun x e => by injection e with e; rw [← e]; exact tx2) fun q e => by cases e).imp fun _ e => by rw [e, met_done hsn]) td) (ev_reprE (ev_lstE (ea_eq ev_s (ea_eq (ev_var (i := 3) rfl (mr.mono s1)) ea_nil)) (by show 2 ≤ 1000; decide)) td) rfl)) f1 (Same.refl _) (fun H2 x2 f2 e => nomatch e) (fun H2 x2 f2 _ => ?_)
  have s2 := x2.off f1.mem
  dsimp only [tNext]
  refine q_forW (K := K) (σ := [some (.ref a), some (.ref p), some vl, some vr, some v4, none, none, none, none, none, none]) (n := 4) (walks_range ev_i (by decide)) f2 (Same.refl _) S fun H3 x3 f3 =>
    ⟨fun i σ' H' => ∃ y5 y6 y7 y8, σ' = [some (.ref a), some (.ref p), some vl, some vr, some v4, y5, y6, y7, y8, none, none] ∧ Ext a H3 H' ∧ LK.Fr a S H', ⟨_, _, _, _, rfl, Ext.refl, f3⟩, fun i σ' H' ⟨_, _, _, _, _, x', f'⟩ => ⟨f', x'.off f3.mem⟩, ?_, ?_⟩
  · rintro i x d σ' H' H4 hi ⟨y5, y6, y7, y8, rfl, x', f'⟩ x'' _ mx rfl
    have f4 := f'.ext x''
    have x34 := x'.trans x''
    have s4 := (x3.trans x34).off f2.mem
    show tSeq _ _ _ _ H4
    refine q_set (K := K) (σ := [some (.ref a), some (.ref p), some vl, some vr, some v4, some x, y6, y7, y8, none, none]) (C := fun d => ∃ y : Str, d = .str y ∧ TextOk 200 y) (ev_callP rfl (ea_eq (ev_var (i := 4) rfl (m4.mono (s2.trans s4))) ea_nil) (fun _ e => ⟨noteR r, e, tx, g.words⟩) fun _ _ _ h => h) f4 (Same.refl _) ?_
    rintro v6 _ H5 x5 f5 m6 ⟨y, rfl, ty⟩
    have s5 := s4.trans (x5.off f4.mem)
    have ml5 := ml.mono (s1.trans (s2.trans s5))
    have tyd : Tame (.str y) := ((str_szS ty.small).up (m := 200) ty.len (Nat.le_refl _)).tame
    dsimp only
    refine q_setE (K := K) (σ := [some (.ref a), some (.ref p), some vl, some vr, some v4, some x, some v6, y7, y8, none, none]) (d := optD (setOfD ns y)) (ev_callE (ea_eq (ev_var (i := 6) rfl m6) (ea_eq (ev_var (i := 2) rfl ml5) ea_nil)) ⟨y, ns, rfl, ty, nl⟩ fun u ⟨y', ns', q, e⟩ => by
      injection q with q1 q
      injection q with q2 _
      injection q1 with q1
      injection q2 with q2
      rw [e, q1, strs_inj q2]) f5 (Same.refl _) ?_
    intro v7 H6 x6 f6 m7
    have s6 := x6.off f5.mem
    have due : metD ns (.str y) true = if (!noneD (optD (setOfD ns y))) = true then .list [.str "done", optD (setOfD ns y)] else .list [.str "line", .int 1] := by
      cases h : setOfD ns y with
      | none => rw [met_line1 h]; rfl
      | some z =>
        rw [met_done h]
        obtain ⟨q, rfl, _⟩ := set_row (set_tup h)
        rfl
    have tm : Tame (metD ns (.str y) true) := by
      cases h : setOfD ns y with
      | none =>
        rw [met_line1 h]
        exact (Sz.of (n := 100) (k := 3) (by decide +kernel)).tame
      | some z =>
        rw [met_done h]
        refine (sz_list (n := 1100) (m := 2300) (k := 2) (fun d m => ?_) (by show 2 * 1101 ≤ 2300; decide)).tame
        simp only [List.mem_cons, List.not_mem_nil, or_false] at m
        rcases m with rfl | rfl
        · exact (Sz.of (n := 100) (k := 2) (by decide +kernel)).up (by decide) (by decide)
        · exact set_sz h ty
    dsimp only
    refine q_setE (K := K) (σ := [some (.ref a), some (.ref p), some vl, some vr, some v4, some x, some v6, some v7, y8, none, none]) (d := metD ns (.str y) true) (Ev.imp (ev_ifE (b := !noneD (optD (setOfD ns y))) (et_testE (K := K) (ev_notN (ev_var (i := 7) rfl m7))) (fun _ => ev_lstE (ea_eq ev_s (ea_eq (ev_var (i := 7) rfl m7) ea_nil)) (by show 2 ≤ 1000; decide)) fun _ => ev_lstE (ea_eq ev_s (ea_eq ev_i ea_nil)) (by show 2 ≤ 1000; decide)) fun _ e => by rw [e, due]) f6 (Same.refl _) ?_
    intro v8 H7 x7 f7 m8
    have s7 := s6.trans (x7.off f6.mem)
    dsimp only
    refine q_ifE (b := false) (σ := [some (.ref a), some (.ref p), some vl, some vr, some v4, some x, some v6, some v7, some v8, none, none]) (et_and (B1 := fun _ => True) (et_val (ev_callG (C := fun d => ∃ b, d = .bool b ∧ True) (ea_eq (ev_var (i := 6) rfl (m6.mono s7)) ea_nil) (fun _ e => ⟨y, e, by have := ty.len; omega, ty.small⟩) fun _ _ _ ⟨b, e⟩ => ⟨b, e, True.intro⟩)) (fun _ => et_testE (K := K) (ev_neFs (d := metD ns (.str y) true) (e := metD ns (.str y) true) (ev_reprE (met rfl (s1.trans (s2.trans (s5.trans s7))) (ev_var (i := 6) rfl (m6.mono s7)) ev_b tyd (fun x e => by injection e with e; rw [← e]; exact ty) fun q e => by cases e) tm) (ev_reprE (ev_var (i := 8) rfl m8) tm) rfl)) fun _ => rfl) f7 (Same.refl _) (fun H8 x8 f8 e => nomatch e) (fun H8 x8 f8 _ => ?_)
    exact ⟨_, _, _, _, rfl, x34.trans (x5.trans (x6.trans (x7.trans x8))), f8⟩
  rintro σ' H3 ⟨y5, y6, y7, y8, rfl, x', f3⟩
  have x23 := x3.trans x'
  have s3 := x23.off f2.mem
  have s03 := s1.trans (s2.trans s3)
  dsimp only
  refine q_forD (K := K) (σ := [some (.ref a), some (.ref p), some vl, some vr, some v4, y5, y6, y7, y8, none, none]) (P := fun es => ∀ d ∈ es, ThG d) (ev_callP rfl (ea_eq (ev_var (i := 2) rfl (ml.mono s03)) (ea_eq (ev_var (i := 3) rfl (mr.mono s03)) ea_nil)) (fun _ e => ⟨_, r, e, g.rowB⟩) fun ds u e ⟨d', r', n, z, q, hn, hz, eu⟩ => ?_) f3 (Same.refl _) S ?_
  · rw [e] at q
    injection q with _ q
    injection q with q _
    rw [← Row.d_inj q] at eu
    exact ⟨_, .inl eu, things_ok g hz hn⟩
  intro things H4 hth x4 f4
  refine ⟨fun i σ' H' => ∃ y9 y10, σ' = [some (.ref a), some (.ref p), some vl, some vr, some v4, y5, y6, y7, y8, y9, y10] ∧ Ext a H4 H' ∧ LK.Fr a S H', ⟨_, _, rfl, Ext.refl, f4⟩, fun i σ' H' ⟨_, _, _, x', f'⟩ => ⟨f', x'.off f4.mem⟩, ?_, ?_⟩
  · rintro i x d σ' H' H5 hi ⟨y9, y10, rfl, x', f'⟩ x'' md ed
    have hd := hth d (List.mem_of_getElem? ed)
    have f5 := f'.ext x''
    have x45 := x'.trans x''
    have s5 := (x4.trans x45).off f3.mem
    have ml5 := ml.mono (s03.trans s5)
    show tSeq _ _ _ _ H5
    refine q_set (K := K) (σ := [some (.ref a), some (.ref p), some vl, some vr, some v4, y5, y6, y7, y8, some x, y10]) (C := IsB fun b => isSettingD ns d = true → b = true) (ev_andV (B := (· = isRowB d)) ((ev_callE (C := (· = .bool (isRowB d))) (ea_eq (ev_var (i := 9) rfl md) (ea_eq (ev_var (i := 2) rfl ml5) ea_nil)) ⟨d, _, rfl, hd.tm, hd.par⟩ fun u ⟨d', e', q, e⟩ => by
      injection q with q _
      rw [e, q]).imp fun _ e => ⟨_, e, rfl⟩) (fun hb => ?_) fun hb => ⟨false, rfl, fun h => by rw [set_rowB h] at hb; cases hb⟩) f5 (Same.refl _) ?_
    · have hb : isRowB d = true := hb.symm
      obtain ⟨q, rfl⟩ := rowB_row hb
      obtain ⟨b1, b2, b3⟩ := hd.row q rfl hb
      refine Ev.imp (ev_notN (d := optD (setOfD ns (noteR q))) (ev_callE (ea_eq (ev_callE (C := (· = .str (noteR q))) (ea_eq (ev_var (i := 9) rfl md) ea_nil) ⟨q, rfl, b1⟩ fun u ⟨q', e', e⟩ => by
        injection e' with e' _
        rw [e, Row.d_inj e']) (ea_eq (ev_var (i := 2) rfl ml5) ea_nil)) ⟨noteR q, ns, rfl, b2, nl⟩ fun u ⟨y', ns', e', e⟩ => by
        injection e' with q1 e'
        injection e' with q2 _
        injection q1 with q1
        injection q2 with q2
        rw [e, q1, strs_inj q2])) fun z e => ⟨_, e, fun h => ?_⟩
      obtain ⟨q', eq, _, _, _, hw, hf, hn⟩ := set_row h
      rw [Row.d_inj eq] at h ⊢
      rw [set_note h (no_gap_name (nok.ok _ hf))]
      rfl
    rintro v10 _ H6 x6 f6 m10 ⟨b, rfl, hb⟩
    have s6 := x6.off f5.mem
    dsimp only
    refine q_ifE (b := false) (σ := [some (.ref a), some (.ref p), some vl, some vr, some v4, y5, y6, y7, y8, some x, some v10]) (et_and (B1 := (· = !b)) (et_notE (et_valE (K := K) (ev_var (i := 10) rfl m10))) (fun h => ?_) fun _ => rfl) f6 (Same.refl _) (fun H7 x7 f7 e => nomatch e) (fun H7 x7 f7 _ => ?_)
    · have hs : isSettingD ns d = false := by
        cases e : isSettingD ns d with
        | false => rfl
        | true =>
          rw [hb e] at h
          cases h
      have em : metD ns d false = .list [.str "row", .str d.shown] := by
        show (if isSettingD ns d = true then _ else PyData.list [.str "row", .str d.shown]) = _
        rw [hs]
        rfl
      refine et_testE (K := K) (ev_neFl (ds := [.str "row", .str d.shown]) ((met rfl (s03.trans (s5.trans s6)) (ev_var (i := 9) rfl (md.mono s6)) ev_b hd.tm hd.tx fun q e z => by rw [hs] at z; cases z).imp fun _ e => by rw [e, em]) (ev_lstE (ea_eq ev_s (ea_eq (ev_reprE (ev_var (i := 9) rfl (md.mono s6)) hd.tm) ea_nil)) (by show 2 ≤ 1000; decide)) fun d m => ?_)
      simp only [List.mem_cons, List.not_mem_nil, or_false] at m
      rcases m with rfl | rfl <;> rfl
    · exact ⟨_, _, rfl, x45.trans (x6.trans x7), f7⟩
  rintro σ' H5 ⟨y9, y10, rfl, x', f5⟩
  have x35 := x4.trans x'
  have s5 := s03.trans (x35.off f3.mem)
  have s15 := s2.trans (s3.trans (x35.off f3.mem))
  have tl1 : Tame (.list [.str (noteR r)]) := (sz_list (n := 200) (m := 300) (k := 0) (fun d m => by
    rw [List.mem_singleton.mp m]
    exact (str_szS tx.small).up tx2.len (Nat.le_refl _)) (by show 1 * 201 ≤ 300; decide)).tame
  dsimp only
  refine q_retE (K := K) (σ := [some (.ref a), some (.ref p), some vl, some vr, some v4, y5, y6, y7, y8, y9, y10]) (d := .bool true) (Ev.imp (ev_allE (ds := [.none, .int 0, .bool true, r.d, .list [.str (noteR r)], .dict []]) (p := fun _ => true) (ev_lcM (es := [.none, .int 0, .bool true, r.d, .list [.str (noteR r)], .dict []]) (g := fun _ => .bool true) ((ev_lstE (ea_eq ev_n (ea_eq ev_i (ea_eq ev_b (ea_eq (ev_var (i := 3) rfl (mr.mono s5)) (ea_eq (ev_lstE (ea_eq (ev_var (i := 4) rfl (m4.mono s15)) ea_nil) (by show 1 ≤ 1000; decide)) (ea_eq ev_dnew ea_nil)))))) (by show 6 ≤ 1000; decide)).imp fun _ z => .inl z) (by show 6 < 100000; decide) (fun _ => rfl) fun e z G' hm sG mz => ?_)) fun _ e => by rw [e]; rfl) f5 (Same.refl _) fun v H6 x6 mv => k _ _ H6 (x1.trans (x2.trans (x23.trans (x35.trans x6)))) mv rfl
  have hes : isStrD e = false ∧ Tame e ∧ (∀ q : LK.Row, e = q.d → isSettingD ns e = true → q.t.natAbs < 2 ^ 300 ∧ Num 300 q.n ∧ q.f.length ≤ 8) := by
    simp only [List.mem_cons, List.not_mem_nil, or_false] at hm
    rcases hm with rfl | rfl | rfl | rfl | rfl | rfl
    · exact ⟨rfl, (Sz.of (n := 0) (k := 0) (by decide +kernel)).tame, fun q e => by cases e⟩
    · exact ⟨rfl, (Sz.of (n := 0) (k := 0) (by decide +kernel)).tame, fun q e => by cases e⟩
    · exact ⟨rfl, (Sz.of (n := 0) (k := 0) (by decide +kernel)).tame, fun q e => by cases e⟩
    · exact ⟨rfl, trow, rowb⟩
    · exact ⟨rfl, tl1, fun q e => by cases e⟩
    · exact ⟨rfl, (Sz.of (n := 10) (k := 3) (by decide +kernel)).tame, fun q e => by cases e⟩
  have metG : Ev K a G' (tCall (spM K c.Sheet preMe postMe) [] E0 (tCons (tVar 1) (tCons (tVar 9) (tCons (tC (.bl true)) tNil)))) (List.set (wipe [some (.ref a), some (.ref p), some vl, some vr, some v4, y5, y6, y7, y8, y9, y10] [9]) 9 (some z)) (· = metD ns e true) := ev_callM (C := c.Sheet) (i := 1) rfl (sh.mono (s5.trans sG)) (ea_eq (ev_var (i := 9) rfl mz) (ea_eq ev_b ea_nil)) (fun _ q => ⟨_, _, q, hes.2.1, (fun x q => by rw [q] at hes; cases hes.1), hes.2.2⟩) fun ds z e ⟨d', b', q, z'⟩ => by
      rw [e] at q
      injection q with q1 q
      injection q with q2 _
      injection q2 with q2
      rw [z', q1, q2]
  refine ev_eqFl (ds := [.str "line", .int 0]) (metG.imp fun _ q => by rw [q, met_line0 hes.1]) (ev_lstE (ea_eq ev_s (ea_eq ev_i ea_nil)) (by show 2 ≤ 1000; decide)) fun d m => ?_
  simp only [List.mem_cons, List.not_mem_nil, or_false] at m
  rcases m with rfl | rfl <;> rfl
end
end K91
set_option Elab.async false
set_option linter.all false
set_option maxRecDepth 100000
set_option maxHeartbeats 1000000
namespace K91
open PySem PySem.Spec L2 LK
open PyProof.Rows hiding St
local macro_rules | `(tactic| walk_at "ext") => `(tactic| first | exact Ext.refl | assumption | (refine Ext.trans ?_ (by assumption); walk_at "ext"))
local macro_rules | `(tactic| walk_at "sm") => `(tactic| first | exact Same.refl _ | assumption | (refine Ext.off ?_ (Fr.mem (by assumption)); walk_at "ext"))
local macro_rules | `(tactic| walk_at "dm") => `(tactic| first | assumption | exact .int _ | exact .bl _ | exact .str _ | exact .non | (refine D.mono (by assumption) ?_; walk_at "sm"))
local macro_rules | `(tactic| walk_at "sd") => `(tactic| first | assumption | rfl | decide | omega | (show _ ≤ 1000; decide))
local macro_rules | `(tactic| walk_at "ea") => `(tactic| first | exact ea_nil | (refine ea_eq ?_ ?_; (walk_at "ev"); (walk_at "ea")))
local macro_rules | `(tactic| walk_at "et") => `(tactic| first
  | (refine et_valE ?_; walk_at "ev") | (refine et_testE ?_; walk_at "ev") | (refine et_notE ?_; walk_at "et")
  | (refine et_andE ?_ (fun _ => ?_); (walk_at "et"); (walk_at "et")) | (refine et_orE ?_ (fun _ => ?_); (walk_at "et"); (walk_at "et")))
local macro_rules | `(tactic| walk_at "ev") => `(tactic| first
  | exact ev_i | exact ev_s | exact ev_b | exact ev_n | exact ev_dnew
  | (refine ev_var rfl ?_; walk_at "dm")
  | (refine ev_tupE ?_ ?_; (walk_at "ea"); (walk_at "sd")) | (refine ev_lstE ?_ ?_; (walk_at "ea"); (walk_at "sd"))
  | (refine ev_negE ?_; walk_at "ev")
  | (refine ev_isiE ?_ ?_; (walk_at "ev"); (walk_at "sd"))
  | (refine ev_lenE ?_ ?_ ?_; (walk_at "ev"); (walk_at "sd"); (walk_at "sd"))
  | (refine ev_atL ?_ ?_ ?_; (walk_at "ev"); (walk_at "ev"); (walk_at "sd")) | (refine ev_atT ?_ ?_ ?_; (walk_at "ev"); (walk_at "ev"); (walk_at "sd"))
  | (refine ev_addE ?_ ?_; (walk_at "ev"); (walk_at "ev")) | (refine ev_cmpE ?_ ?_; (walk_at "ev"); (walk_at "ev")) | (refine ev_i0E ?_ ?_; (walk_at "ev"); (walk_at "ev"))
  | (refine ev_mulE ?_ ?_ ?_; (walk_at "ev"); (walk_at "ev"); (walk_at "sd"))
  | (refine ev_eqIE ?_ ?_; (walk_at "ev"); (walk_at "ev")) | (refine ev_neIE ?_ ?_; (walk_at "ev"); (walk_at "ev"))
  | (refine ev_andE ?_ (fun _ => ?_); (walk_at "ev"); (walk_at "ev")) | (refine ev_orE ?_ (fun _ => ?_); (walk_at "ev"); (walk_at "ev")) | (refine ev_notE ?_; walk_at "ev")
  | (refine ev_fn ?_ ?_; (walk_at "ea"); (walk_at "sd")))
local macro_rules | `(tactic| walk_at "lit") => `(tactic| first | exact ev_i | exact ev_s | exact ev_b | exact ev_n | exact ev_dnew | (refine ev_negE ?_; walk_at "lit") | (refine ev_tupE ?_ (by decide); walk_at "lits") | (refine ev_lstE ?_ (by decide); walk_at "lits") | (refine ev_powE ?_ ?_ ⟨by decide, by decide, by decide⟩ <;> walk_at "lit"))
local macro_rules | `(tactic| walk_at "lits") => `(tactic| first | exact ea_nil | (refine ea_eq ?_ ?_; (walk_at "lit"); (walk_at "lits")))
section
variable {P : Program} {w : World} {K : PySem.W.Frag} {mg : Str → Option Value} {c : Cls} {base : Heap} {a : Addr} {G : Hp} {S : List Addr} {H : Hp}
theorem ok_law {f : Addr} {fd : FuncData} (F : Fun K "law" "law" s_law f fd) (T : Txt K mg c) (F_l_pot : Df P w K mg base CX0 1 "_law_pot" ["_law_script", "_law_k"] (spPot K)) (F_l_draw : DfD P w K mg base) (F_l_words : FWs P w K mg base) (MK_Sheet : MMk P w K mg base c.Sheet)
    (F_l_told : Df P w K mg base CX0 4 "_law_told" ["_law_pot_here", "_law_labels", "_law_folk", "_law_many"] (spP K preTl postTl3)) (F_l_one_right : Df P w K mg base CX0 8 "_law_one_right" ["_law_pot_here", "_law_home", "_law_labels", "_law_row"] (spPM K c.Sheet preOn fun _ _ z => z = .bool true)) :
    FnG P w K mg base CX0 9 f fd ["_law_script"] (spLaw K) := by
  refine fun_okG F sc_law (fun vs H Q E h => ?_) (fun cdv A outer s H vs Q E hg hr h => ?_)
  · obtain ⟨s, ns, rfl, _⟩ := h
    rfl
  obtain ⟨s, ns, rfl, hs, hl, k⟩ := h
  refine ⟨_, (pss_cons (ps_for PassesOwn.never rfl (pi_range1 (by rfl) T.b_range (pa_cons (pe_callB (call_max2 rfl) (by rfl) T.b_max (by decide +kernel) (pa_cons pe_int (pa_cons (pe_callB (call_min2 rfl) (by rfl) T.b_min (by decide +kernel) (pa_cons pe_int (pa_cons (pe_callB (kLen (K := K)) (by rfl) T.b_len (by decide +kernel) (pa_cons (pv 0) pa_nil)) pa_nil))) pa_nil))) pa_nil)) (pg_name (i := 1) sc_law.nd rfl (by first | exact Or.inl rfl | exact Or.inr rfl))
    (pss_cons (ps_set (i := 2) sc_law.nd rfl (by first | exact Or.inl rfl | exact Or.inr rfl) (pe_fn F_l_pot hg (hr.mono (by decide)) (by rfl) pass0 (pa_cons (pv 0) (pa_cons (pv 1) pa_nil))))
    (pss_cons (ps_set (i := 3) sc_law.nd rfl (by first | exact Or.inl rfl | exact Or.inr rfl) (pe_op (kAdd (K := K)) pe_int (pe_fn F_l_draw hg (hr.mono (by decide)) (by rfl) pass0 (pa_cons (pv 2) (pa_cons pe_int pa_nil)))))
    (pss_cons (ps_set (i := 4) sc_law.nd rfl (by first | exact Or.inl rfl | exact Or.inr rfl) (pe_fn F_l_words hg (hr.mono (by decide)) (by rfl) pass0 (pa_cons (pv 2) (pa_cons (pv 3) pa_nil))))
    (pss_cons (ps_par (i := 5) (j := 6) (by rfl) sc_law.nd rfl rfl (by decide) rfl rfl (pa_cons (pe_makeX (E := fun _ => E0) MK_Sheet T.kp_Sheet hg (hr.mono (by decide)) (by rfl) (fun _ _ _ _ _ _ _ h => h.elim) (pa_cons (pv 4) pa_nil)) (pa_cons (pe_fn F_l_words hg (hr.mono (by decide)) (by rfl) pass0 (pa_cons (pv 2) (pa_cons pe_int pa_nil))) pa_nil)) (by rfl))
    (pss_one (ps_for PassesOwn.never rfl (pi_seq (pe_fn F_l_told hg (hr.mono (by decide)) (by rfl) pass0 (pa_cons (pv 2) (pa_cons (pv 4) (pa_cons (pv 6) (pa_cons pe_int pa_nil)))))) (pg_name (i := 7) sc_law.nd rfl (by first | exact Or.inl rfl | exact Or.inr rfl))
    (pss_cons (ps_set (i := 8) sc_law.nd rfl (by first | exact Or.inl rfl | exact Or.inr rfl) (pe_tup (pa_cons (pe_ix (kIx (K := K)) (pv 7) pe_int (fun _ _ => rfl)) (pa_cons (pe_op oMul (pe_ix (kIx (K := K)) (pv 7) pe_int (fun _ _ => rfl)) (pe_ix (kIx (K := K)) (pe_lst (pa_cons pe_int (pa_cons pe_int (pa_cons (pe_op (kAdd (K := K)) (pe_op op_pow pe_int pe_int) pe_int) pa_nil)))) (pe_fn F_l_draw hg (hr.mono (by decide)) (by rfl) pass0 (pa_cons (pv 2) (pa_cons pe_int pa_nil))) (fun _ _ => rfl))) (pa_cons (pe_ix (kIx (K := K)) (pv 7) pe_int (fun _ _ => rfl)) (pa_cons (pe_ix (kIx (K := K)) (pv 7) pe_int (fun _ _ => rfl)) (pa_cons (pe_ix (kIx (K := K)) (pv 7) pe_int (fun _ _ => rfl)) pa_nil)))))))
    (pss_one (ps_if (pt_not (pt_val (pe_fn F_l_one_right hg (hr.mono (by decide)) (by rfl) pass0 (pa_cons (pv 2) (pa_cons (pv 5) (pa_cons (pv 4) (pa_cons (pv 8) pa_nil)))))))
    (pss_one (ps_ret pe_bl))
    pss_nil))))))))))
    (pss_one (ps_ret pe_bl))), ?_⟩
  refine rd_lawFor (K := K) (m := 9) (σ := [some (.ref s), none, none, none, none, none, none, none, none]) (hi := rfl) (by decide) hs rfl (fun R r => ?_) ?_ fun σ' H' => k H'
  · refine ⟨.ref s, rfl, .ref s, _, rfl, .inl ⟨_, hs, rfl⟩, _, _, rfl, _, _, rfl, r _ ?_ ?_⟩
    · split <;> omega
    · rw [List.length_map]
      split <;> split <;> omega
  intro Dn' p H0 H1 σ' s1 np pot l' e0 e2 fin
  match σ', l' with
  | [y0, y1, y2, y3, y4, y5, y6, y7, y8], _ =>
  injection e0 with e0
  injection e2 with e2
  subst e0 e2
  have f1 := Fr.one pot
  refine q_set (K := K) (a := p) (S := [p]) (σ := [some (.ref s), y1, some (.ref p), y3, y4, y5, y6, y7, y8]) (C := IsI fun i => 1 ≤ i ∧ i ≤ (6 : Nat)) (ev_addI (cI := (· = 1)) (cJ := fun k => 0 ≤ k ∧ k < 6) (ev_isI ev_i rfl) (ev_draw rfl ev_i (by decide) (by decide)) ?_) f1 (Same.refl _) ?_
  · rintro _ j rfl hj
    omega
  rintro _ _ H2 x2 f2 m3 ⟨n, rfl, n1, n6⟩
  cases m3
  obtain ⟨n, rfl⟩ := Int.eq_ofNat_of_zero_le (show 0 ≤ n by omega)
  dsimp only
  refine q_set (K := K) (σ := [some (.ref s), y1, some (.ref p), some (.int n), y4, y5, y6, y7, y8]) (C := fun d => ∃ ls : List Str, d = .list (ls.map .str) ∧ WordsOk n ls) (ev_callP rfl (ea_eq (ev_var (i := 3) rfl (.int _)) ea_nil) (fun _ e => ⟨n, by omega, e⟩) fun _ z e ⟨n', ls, q, hz, h⟩ => ?_) f2 (Same.refl _) ?_
  · rw [e] at q
    injection q with q _
    injection q with q
    obtain rfl : n = n' := by omega
    exact ⟨ls, hz, h⟩
  rintro v4 _ H3 x3 f3 m4 ⟨ls, rfl, wl⟩
  have nok := wl.names (by omega) (by omega)
  dsimp only
  refine q_parSC (K := K) (C := c.Sheet) (σ := [some (.ref s), y1, some (.ref p), some (.int n), some v4, y5, y6, y7, y8]) (Cn := (· = ls)) (Cd := fun d => ∃ fs : List Str, d = .list (fs.map .str) ∧ WordsOk 3 fs) (evs_make (K := K) (Ev.imp (ev_var (i := 4) rfl m4) fun d e => ⟨ls, e, nok, rfl⟩)) (ev_callP rfl (ea_eq ev_i ea_nil) (fun _ e => ⟨3, by decide, e⟩) fun _ z e ⟨n', ls, q, hz, h⟩ => ?_) f3 (Same.refl _) ?_
  · rw [e] at q
    injection q with q _
    injection q with q
    obtain rfl : 3 = n' := by omega
    exact ⟨ls, hz, h⟩
  rintro ph ls' v6 _ H4 x4 f4 sh e6 m6 ⟨fs, rfl, wf⟩
  subst ls'
  have s4 := x4.off f3.mem
  dsimp only
  refine q_forD (K := K) (σ := [some (.ref s), y1, some (.ref p), some (.int n), some v4, some (.ref ph), some v6, y7, y8]) (P := fun es => es.length ≤ 40 ∧ ∀ e ∈ es, RowSm ls e) (ev_callP rfl (ea_eq (ev_var (i := 4) rfl (m4.mono s4)) (ea_eq (ev_var (i := 6) rfl m6) (ea_eq ev_i ea_nil))) (fun _ e => ⟨n, 3, ls, fs, 5, e, wl, wf, by omega, by decide, by omega, by decide, by decide⟩) fun _ z e ⟨ls', _, _, es, q, hz, h5, h⟩ => ?_) f4 (Same.refl _) [p] ?_
  · rw [e] at q
    injection q with q _
    injection q with q
    exact ⟨es, .inl hz, h5, (strs_inj q) ▸ h⟩
  rintro es H5 ⟨e5, hes⟩ x5 f5
  refine ⟨fun i σ' H' => ∃ y7 y8, σ' = [some (.ref s), y1, some (.ref p), some (.int n), some v4, some (.ref ph), some v6, y7, y8] ∧ Ext p H5 H' ∧ LK.Fr p [p] H', ⟨_, _, rfl, Ext.refl, f5⟩, fun i σ' H' ⟨_, _, _, x', f'⟩ => ⟨f', x'.off f5.mem⟩, ?_, ?_⟩
  · rintro i x d σ' H' H6 hi ⟨y7, y8, rfl, x', f'⟩ x'' md ed
    obtain ⟨r, rfl, ok, r8⟩ := hes d (List.mem_of_getElem? ed)
    have f6 := f'.ext x''
    have x56 := x'.trans x''
    have s6 := (x5.trans x56).off f4.mem
    have er : ∀ {u : Option V}, Ev K p (off [p] H6) (tVar 7) [some (.ref s), y1, some (.ref p), some (.int n), some v4, some (.ref ph), some v6, some x, u] (· = .tuple (fiveD r)) := ev_var rfl md
    show tSeq _ _ _ _ H6
    have t1 := ok.ok.t1
    refine q_set (K := K) (σ := [some (.ref s), y1, some (.ref p), some (.int n), some v4, some (.ref ph), some v6, some x, y8]) (C := fun d => ∃ t : Int, d = Row.d ⟨r.l, t, r.w, r.f, r.n⟩ ∧ 1 ≤ t ∧ t.natAbs < 10 ^ 40) (Ev.imp (ev_tup (ea_cons (C := (· = .int r.l)) (ev_atT er ev_i rfl) (ea_cons (C := IsI fun t => 1 ≤ t ∧ t.natAbs < 10 ^ 40) (ev_mulI (cI := fun t => 1 ≤ t ∧ t ≤ 8) (cJ := fun t => 1 ≤ t ∧ t ≤ 10 ^ 20 + 7) (ev_isI (ev_atT er ev_i rfl) ⟨t1, r8⟩) (Ev.imp (ev_pick (ds := [.int 1, .int 1, .int (10 ^ (20 : Int).toNat + 7)]) (ev_lstE (ea_eq ev_i (ea_eq ev_i (ea_eq (ev_addE (ev_powE ev_i ev_i ⟨by decide, by decide, by decide⟩) ev_i) ea_nil))) (by show 3 ≤ 1000; decide)) (ev_draw rfl ev_i (by decide) (by decide))) ?_) ?_) (ea_cons (C := (· = .str r.w)) (ev_atT er ev_i rfl) (ea_cons (C := (· = .str r.f)) (ev_atT er ev_i rfl) (ea_one (C := (· = r.n)) (ev_atT er ev_i rfl)))))) ?_) ?_) f6 (Same.refl _) ?_
    · intro d m
      simp only [List.mem_cons, List.not_mem_nil, or_false] at m
      rcases m with rfl | rfl | rfl
      · exact ⟨_, rfl, by decide⟩
      · exact ⟨_, rfl, by decide⟩
      · exact ⟨_, rfl, by decide⟩
    · rintro i j ⟨i1, i8⟩ ⟨j1, j2⟩
      have b1 : i.natAbs ≤ 8 := by omega
      have b2 : j.natAbs ≤ 10 ^ 20 + 7 := by omega
      refine ⟨mulx_ok (a := 8) (b := 100) (by omega) (Nat.lt_of_le_of_lt b2 (by decide)) (by decide), by have := Int.mul_le_mul i1 j1 (by decide) (by omega); omega, ?_⟩
      rw [Int.natAbs_mul]
      exact Nat.lt_of_le_of_lt (Nat.mul_le_mul b1 b2) (by decide)
    · rintro _ ⟨_, _, rfl, _, _, _, rfl, _, _, _, rfl, _, _, _, rfl, _, _, rfl, _⟩
      show 5 ≤ 1000
      decide
    · rintro _ ⟨_, rfl, _, _, rfl, rfl, _, _, rfl, ⟨t, rfl, ht⟩, _, _, rfl, rfl, _, _, rfl, rfl, _, rfl, rfl⟩
      exact ⟨t, rfl, ht⟩
    rintro v8 _ H7 x7 f7 m8 ⟨t, rfl, ht1, htb⟩
    have s7 := x7.off f6.mem
    have g : RowG ls ⟨r.l, t, r.w, r.f, r.n⟩ := by
      refine ⟨?_, htb, ok.n1, ok.ok.w, ok.ok.fo, ok.ok.l0, ok.ok.l2⟩
      show (isLevelD (.int r.l) && (decide (1 ≤ t) && (isNameD (.str r.w) && (decide (r.f ∈ ls) && isRatD r.n)))) = true
      rw [decide_eq_true ht1, ok.ok.w, decide_eq_true ok.ok.f, ok.ok.n.rat]
      show ((decide (0 ≤ r.l) && decide (r.l ≤ 2)) && _) = true
      rw [decide_eq_true ok.ok.l0, decide_eq_true ok.ok.l2]
      rfl
    dsimp only
    refine q_ifE (b := !true) (σ := [some (.ref s), y1, some (.ref p), some (.int n), some v4, some (.ref ph), some v6, some x, some v8]) (et_notE (et_valE (K := K) (ev_callPM (C := c.Sheet) (i := 2) (j := 5) rfl rfl (sh.mono (s6.trans s7)) (ea_eq (ev_var (i := 4) rfl (m4.mono (s4.trans (s6.trans s7)))) (ea_eq (ev_var (i := 8) rfl m8) ea_nil)) (fun _ e => ⟨_, e, g, nok⟩) fun _ _ _ e => e))) f7 (Same.refl _) (fun H8 x8 f8 e => nomatch e) (fun H8 x8 f8 _ => ?_)
    exact ⟨_, _, rfl, x56.trans (x7.trans x8), f8⟩
  · rintro σ' H6 ⟨y7, y8, rfl, x', f6⟩
    exact fin _ H6 rfl rfl (x2.trans (x3.trans (x4.trans (x5.trans x'))))
end
end K91
set_option Elab.async false
set_option linter.all false
set_option maxRecDepth 100000
set_option maxHeartbeats 1000000
namespace K91
open PySem PySem.Spec L2 LK
open PyProof.Rows hiding St
/-! ### the end -/
theorem all_mk {l : PySem.W.OpenLaw} {w : World} {K : PySem.W.Frag} {h : Heap} {mg : Str → Option Value} {fa : Addr} (X : K.In h) (G : h.Ns mainGlobals mg) (hfa : mg "law" = some (.ref fa))
    {f0 f1 f2 f3 f4 f5 f6 f7 f8 f9 f10 f11 f12 f13 f14 f15 f16 f17 f18 f19 f20 f21 f22 f23 f24 f25 f26 f27 f28 f29 f30 f31 f32 f33 f34 f35 f36 f37 f38 f39 : Addr} {od0 an0 od1 an1 od2 an2 od3 an3 od4 an4 od5 an5 od6 an6 od7 an7 od8 an8 od9 an9 od10 an10 od11 an11 od12 an12 od13 an13 od14 an14 od15 an15 od16 an16 od17 an17 od18 an18 od19 an19 od20 an20 od21 an21 od22 an22 od23 an23 od24 an24 od25 an25 od26 an26 od27 an27 od28 an28 od29 an29 od30 an30 od31 an31 od32 an32 od33 an33 od34 an34 od35 an35 od36 an36 od37 an37 od38 an38 od39 an39 : Option Addr} {sl0 sl1 sl2 sl3 sl4 sl5 sl6 sl7 sl8 sl9 sl10 sl11 sl12 sl13 sl14 sl15 sl16 sl17 sl18 sl19 sl20 sl21 sl22 sl23 sl24 sl25 sl26 sl27 sl28 sl29 sl30 sl31 sl32 sl33 sl34 sl35 sl36 sl37 sl38 sl39 : Array (Option Value)} {oc0 kV0 dc0 pm0 cd0 ct0 oc1 kV1 dc1 pm1 cd1 ct1 oc2 kV2 dc2 pm2 cd2 ct2 oc3 kV3 dc3 pm3 cd3 ct3 oc4 kV4 dc4 pm4 cd4 ct4 oc5 kV5 dc5 pm5 cd5 ct5 oc6 kV6 dc6 pm6 cd6 ct6 oc7 kV7 dc7 pm7 cd7 ct7 oc8 kV8 dc8 pm8 cd8 ct8 oc9 kV9 dc9 pm9 cd9 ct9 oc10 kV10 dc10 pm10 cd10 ct10 oc11 kV11 dc11 pm11 cd11 ct11 oc12 kV12 dc12 pm12 cd12 ct12 oc13 kV13 dc13 pm13 cd13 ct13 oc14 kV14 dc14 pm14 cd14 ct14 oc15 kV15 dc15 pm15 cd15 ct15 oc16 kV16 dc16 pm16 cd16 ct16 oc17 kV17 dc17 pm17 cd17 ct17 oc18 kV18 dc18 pm18 cd18 ct18 oc19 kV19 dc19 pm19 cd19 ct19 oc20 kV20 dc20 pm20 cd20 ct20 oc21 kV21 dc21 pm21 cd21 ct21 oc22 kV22 dc22 pm22 cd22 ct22 oc23 kV23 dc23 pm23 cd23 ct23 oc24 kV24 dc24 pm24 cd24 ct24 oc25 kV25 dc25 pm25 cd25 ct25 oc26 kV26 dc26 pm26 cd26 ct26 oc27 kV27 dc27 pm27 cd27 ct27 oc28 kV28 dc28 pm28 cd28 ct28 oc29 kV29 dc29 pm29 cd29 ct29 oc30 kV30 dc30 pm30 cd30 ct30 oc31 kV31 dc31 pm31 cd31 ct31 oc32 kV32 dc32 pm32 cd32 ct32 oc33 kV33 dc33 pm33 cd33 ct33 oc34 kV34 dc34 pm34 cd34 ct34 oc35 kV35 dc35 pm35 cd35 ct35 oc36 kV36 dc36 pm36 cd36 ct36 oc37 kV37 dc37 pm37 cd37 ct37 oc38 kV38 dc38 pm38 cd38 ct38 oc39 kV39 dc39 pm39 cd39 ct39 : Value}
    {C_LastheldError : Addr} (a_LastheldError : PySem.W.nsIn K mainGlobals "LastheldError" = some (some (.ref C_LastheldError)))
    {C_InvalidNumber : Addr} (a_InvalidNumber : PySem.W.nsIn K mainGlobals "InvalidNumber" = some (some (.ref C_InvalidNumber)))
    {C_InvalidLevel : Addr} (a_InvalidLevel : PySem.W.nsIn K mainGlobals "InvalidLevel" = some (some (.ref C_InvalidLevel)))
    {C_InvalidFields : Addr} (a_InvalidFields : PySem.W.nsIn K mainGlobals "InvalidFields" = some (some (.ref C_InvalidFields)))
    {C_InvalidSetting : Addr} (a_InvalidSetting : PySem.W.nsIn K mainGlobals "InvalidSetting" = some (some (.ref C_InvalidSetting)))
    {C_InvalidText : Addr} (a_InvalidText : PySem.W.nsIn K mainGlobals "InvalidText" = some (some (.ref C_InvalidText)))
    {C_InvalidCommand : Addr} (a_InvalidCommand : PySem.W.nsIn K mainGlobals "InvalidCommand" = some (some (.ref C_InvalidCommand)))
    {C_Sheet : Addr} (a_Sheet : PySem.W.nsIn K mainGlobals "Sheet" = some (some (.ref C_Sheet)))
    (rd_LastheldError : PySem.W.readsIn K C_LastheldError (.type "type") = true) (ga_LastheldError : PySem.W.specialIn K (.ref C_LastheldError) "__getattribute__" = some (some (.builtin "type.__getattribute__"))) (it_LastheldError : PySem.W.findCls K (.ref C_LastheldError) (.type "type") "__init__" = some (.val (.builtin "ValueError.__init__")))
    (pg_Sheet : PySem.W.plainGet K C_Sheet Str.empty = true)
    (hd_Sheet : PySem.W.hasDictIn K C_Sheet = true)
    (po_Sheet : PySem.W.plainOver K C_Sheet = true)
    (sa_Sheet : PySem.W.findIn K (.ref C_Sheet) "__setattr__" = some (some (.builtin "object.__setattr__")))
    (ca_Sheet : PySem.W.findIn K (.ref C_Sheet) "__class__" = some (some (.builtin "object.__class__")))
    (mo_Sheet : PySem.W.mroIn K C_Sheet (.type "object") = some true)
    (ic_Sheet : PySem.W.isClsIn K C_Sheet = true)
    (ty_Sheet : PySem.W.typeIn K (.ref C_Sheet) = some (.type "type"))
    (kp_Sheet : PySem.W.keepIn K (.ref C_Sheet) = true)
    (rd_Sheet : PySem.W.readsIn K C_Sheet (.type "type") = true)
    (ga_Sheet : PySem.W.specialIn K (.ref C_Sheet) "__getattribute__" = some (some (.builtin "type.__getattribute__")))
    (mk_Sheet : PySem.W.makesIn K C_Sheet = true)
    (se_Sheet : PySem.W.subIn K (.ref C_Sheet) (.ref C_Sheet) = some true)
    {t_Sheet_MAX_FIELDS : Tok} (cv_Sheet_MAX_FIELDS : PySem.W.findCls K (.ref C_Sheet) (.type "type") "MAX_FIELDS" = some (.val (.int 12 t_Sheet_MAX_FIELDS)))
    (na_Sheet_own_fields : PySem.W.findIn K (.ref C_Sheet) "own_fields" = some none)
    (na_Sheet_own_places : PySem.W.findIn K (.ref C_Sheet) "own_places" = some none)
    {fm_Sheet___init__ : Addr} {om_Sheet___init__ km_Sheet___init__ dm_Sheet___init__ pm_Sheet___init__ cm_Sheet___init__ tm_Sheet___init__ : Value} {em_Sheet___init__ am_Sheet___init__ : Option Addr} {lm_Sheet___init__ : Array (Option Value)} (fa_Sheet___init__ : PySem.W.findIn K (.ref C_Sheet) "__init__" = some (some (.ref fm_Sheet___init__))) (is_Sheet___init__ : PySem.W.isFn K (.ref fm_Sheet___init__) = true)
    (lk_Sheet___init__ : K.lookup fm_Sheet___init__ = some ⟨om_Sheet___init__, em_Sheet___init__, .func (PySem.W.fnOf "__init__" "Sheet.__init__" (defArgs s_Sheet___init__) (defBody s_Sheet___init__) (defScope s_Sheet___init__) .none km_Sheet___init__ dm_Sheet___init__ pm_Sheet___init__ am_Sheet___init__ cm_Sheet___init__ tm_Sheet___init__), lm_Sheet___init__⟩) (cd_Sheet___init__ : PySem.W.codeIn K cm_Sheet___init__ "Sheet.__init__" = true) (kf_Sheet___init__ : PySem.W.keepIn K (.ref fm_Sheet___init__) = true)
    {fm_Sheet_has_field : Addr} {om_Sheet_has_field km_Sheet_has_field dm_Sheet_has_field pm_Sheet_has_field cm_Sheet_has_field tm_Sheet_has_field : Value} {em_Sheet_has_field am_Sheet_has_field : Option Addr} {lm_Sheet_has_field : Array (Option Value)} (fa_Sheet_has_field : PySem.W.findIn K (.ref C_Sheet) "has_field" = some (some (.ref fm_Sheet_has_field))) (is_Sheet_has_field : PySem.W.isFn K (.ref fm_Sheet_has_field) = true)
    (lk_Sheet_has_field : K.lookup fm_Sheet_has_field = some ⟨om_Sheet_has_field, em_Sheet_has_field, .func (PySem.W.fnOf "has_field" "Sheet.has_field" (defArgs s_Sheet_has_field) (defBody s_Sheet_has_field) (defScope s_Sheet_has_field) .none km_Sheet_has_field dm_Sheet_has_field pm_Sheet_has_field am_Sheet_has_field cm_Sheet_has_field tm_Sheet_has_field), lm_Sheet_has_field⟩) (cd_Sheet_has_field : PySem.W.codeIn K cm_Sheet_has_field "Sheet.has_field" = true) (kf_Sheet_has_field : PySem.W.keepIn K (.ref fm_Sheet_has_field) = true)
    (occ1 : PySem.W.specialIn K (.builtin "object.__class__") "__get__" = some (some (.builtin "getset_descriptor.__get__"))) (occ2 : PySem.W.takesIn K (.builtin "object.__class__") = some true)
    (ic_InvalidCommand : PySem.W.isClsIn K C_InvalidCommand = true) (ty_InvalidCommand : PySem.W.typeIn K (.ref C_InvalidCommand) = some (.type "type"))
    (ic_InvalidNumber : PySem.W.isClsIn K C_InvalidNumber = true) (ty_InvalidNumber : PySem.W.typeIn K (.ref C_InvalidNumber) = some (.type "type"))
    (ic_InvalidLevel : PySem.W.isClsIn K C_InvalidLevel = true) (ty_InvalidLevel : PySem.W.typeIn K (.ref C_InvalidLevel) = some (.type "type"))
    (ic_InvalidSetting : PySem.W.isClsIn K C_InvalidSetting = true) (ty_InvalidSetting : PySem.W.typeIn K (.ref C_InvalidSetting) = some (.type "type"))
    (ic_InvalidText : PySem.W.isClsIn K C_InvalidText = true) (ty_InvalidText : PySem.W.typeIn K (.ref C_InvalidText) = some (.type "type"))
    (ic_LastheldError : PySem.W.isClsIn K C_LastheldError = true) (ty_LastheldError : PySem.W.typeIn K (.ref C_LastheldError) = some (.type "type"))
    {nm_InvalidNumber q_InvalidNumber : Str} {N_InvalidNumber : Addr} {bs_InvalidNumber sb_InvalidNumber : List Value} {sn_InvalidNumber : List Str} {ab_InvalidNumber : Bool} {co_InvalidNumber : Option Bool} {dd_InvalidNumber : Option Addr} {m0_InvalidNumber m1_InvalidNumber m2_InvalidNumber m3_InvalidNumber m5_InvalidNumber : Option Value}
    (x_InvalidNumber : K.lookup C_InvalidNumber = some (excClassObj nm_InvalidNumber q_InvalidNumber C_InvalidNumber N_InvalidNumber bs_InvalidNumber [(.ref C_LastheldError), (.type "ValueError"), (.type "Exception"), (.type "BaseException"), (.type "object")] true sn_InvalidNumber sb_InvalidNumber ab_InvalidNumber co_InvalidNumber dd_InvalidNumber m0_InvalidNumber m1_InvalidNumber m2_InvalidNumber m3_InvalidNumber m5_InvalidNumber "ValueError.__new__"))
    (sa_InvalidNumber : PySem.W.findIn K (.ref C_InvalidNumber) "__setattr__" = some (some (.builtin "object.__setattr__")))
    (xa_InvalidNumber : PySem.W.findIn K (.ref C_InvalidNumber) "__getattribute__" = some (some (.builtin "BaseException.__getattribute__")))
    (xg_InvalidNumber : PySem.W.findIn K (.ref C_InvalidNumber) "__getattr__" = some none)
    (ex_InvalidNumber : PySem.W.subIn K (.ref C_InvalidNumber) (.type "BaseException") = some true)
    (tp_InvalidNumber : PySem.W.typeIn K (.ref C_InvalidNumber) = some (.type "type"))
    (kp_InvalidNumber : PySem.W.keepIn K (.ref C_InvalidNumber) = true)
    (hd_InvalidNumber : PySem.W.hasDictIn K C_InvalidNumber = true)
    (ca_InvalidNumber : PySem.W.findIn K (.ref C_InvalidNumber) "__class__" = some (some (.builtin "object.__class__")))
    (mo_InvalidNumber : PySem.W.mroIn K C_InvalidNumber (.type "object") = some true)
    (se_InvalidNumber : PySem.W.subIn K (.ref C_InvalidNumber) (.ref C_InvalidNumber) = some true) (nf_InvalidNumber : PySem.W.findIn K (.ref C_InvalidNumber) "value" = some none)
    {fi_InvalidNumber : Addr} {oi_InvalidNumber ki_InvalidNumber di_InvalidNumber pi_InvalidNumber ci_InvalidNumber ti_InvalidNumber : Value} {ei_InvalidNumber ai_InvalidNumber : Option Addr} {li_InvalidNumber : Array (Option Value)} (fn_InvalidNumber : PySem.W.findIn K (.ref C_InvalidNumber) "__init__" = some (some (.ref fi_InvalidNumber))) (tf_InvalidNumber : PySem.W.typeIn K (.ref fi_InvalidNumber) = some (.type "function"))
    (lk_InvalidNumber : K.lookup fi_InvalidNumber = some ⟨oi_InvalidNumber, ei_InvalidNumber, .func (PySem.W.fnOf "__init__" "InvalidNumber.__init__" (defArgs s_InvalidNumber___init__) (defBody s_InvalidNumber___init__) (defScope s_InvalidNumber___init__) .none ki_InvalidNumber di_InvalidNumber pi_InvalidNumber ai_InvalidNumber ci_InvalidNumber ti_InvalidNumber), li_InvalidNumber⟩) (cd_InvalidNumber : PySem.W.codeIn K ci_InvalidNumber "InvalidNumber.__init__" = true) (kf_InvalidNumber : PySem.W.keepIn K (.ref fi_InvalidNumber) = true)
    (u_InvalidNumber_InvalidCommand : PySem.W.subIn K (.ref C_InvalidNumber) (.ref C_InvalidCommand) = some false)
    (u_InvalidNumber_InvalidNumber : PySem.W.subIn K (.ref C_InvalidNumber) (.ref C_InvalidNumber) = some true)
    (u_InvalidNumber_InvalidLevel : PySem.W.subIn K (.ref C_InvalidNumber) (.ref C_InvalidLevel) = some false)
    (u_InvalidNumber_InvalidSetting : PySem.W.subIn K (.ref C_InvalidNumber) (.ref C_InvalidSetting) = some false)
    (u_InvalidNumber_InvalidText : PySem.W.subIn K (.ref C_InvalidNumber) (.ref C_InvalidText) = some false)
    (u_InvalidNumber_LastheldError : PySem.W.subIn K (.ref C_InvalidNumber) (.ref C_LastheldError) = some true)
    {nm_InvalidText q_InvalidText : Str} {N_InvalidText : Addr} {bs_InvalidText sb_InvalidText : List Value} {sn_InvalidText : List Str} {ab_InvalidText : Bool} {co_InvalidText : Option Bool} {dd_InvalidText : Option Addr} {m0_InvalidText m1_InvalidText m2_InvalidText m3_InvalidText m5_InvalidText : Option Value}
    (x_InvalidText : K.lookup C_InvalidText = some (excClassObj nm_InvalidText q_InvalidText C_InvalidText N_InvalidText bs_InvalidText [(.ref C_LastheldError), (.type "ValueError"), (.type "Exception"), (.type "BaseException"), (.type "object")] true sn_InvalidText sb_InvalidText ab_InvalidText co_InvalidText dd_InvalidText m0_InvalidText m1_InvalidText m2_InvalidText m3_InvalidText m5_InvalidText "ValueError.__new__"))
    (sa_InvalidText : PySem.W.findIn K (.ref C_InvalidText) "__setattr__" = some (some (.builtin "object.__setattr__")))
    (xa_InvalidText : PySem.W.findIn K (.ref C_InvalidText) "__getattribute__" = some (some (.builtin "BaseException.__getattribute__")))
    (xg_InvalidText : PySem.W.findIn K (.ref C_InvalidText) "__getattr__" = some none)
    (ex_InvalidText : PySem.W.subIn K (.ref C_InvalidText) (.type "BaseException") = some true)
    (tp_InvalidText : PySem.W.typeIn K (.ref C_InvalidText) = some (.type "type"))
    (kp_InvalidText : PySem.W.keepIn K (.ref C_InvalidText) = true)
    (hd_InvalidText : PySem.W.hasDictIn K C_InvalidText = true)
    (ca_InvalidText : PySem.W.findIn K (.ref C_InvalidText) "__class__" = some (some (.builtin "object.__class__")))
    (mo_InvalidText : PySem.W.mroIn K C_InvalidText (.type "object") = some true)
    (se_InvalidText : PySem.W.subIn K (.ref C_InvalidText) (.ref C_InvalidText) = some true) (nf_InvalidText : PySem.W.findIn K (.ref C_InvalidText) "line" = some none)
    {fi_InvalidText : Addr} {oi_InvalidText ki_InvalidText di_InvalidText pi_InvalidText ci_InvalidText ti_InvalidText : Value} {ei_InvalidText ai_InvalidText : Option Addr} {li_InvalidText : Array (Option Value)} (fn_InvalidText : PySem.W.findIn K (.ref C_InvalidText) "__init__" = some (some (.ref fi_InvalidText))) (tf_InvalidText : PySem.W.typeIn K (.ref fi_InvalidText) = some (.type "function"))
    (lk_InvalidText : K.lookup fi_InvalidText = some ⟨oi_InvalidText, ei_InvalidText, .func (PySem.W.fnOf "__init__" "InvalidText.__init__" (defArgs s_InvalidText___init__) (defBody s_InvalidText___init__) (defScope s_InvalidText___init__) .none ki_InvalidText di_InvalidText pi_InvalidText ai_InvalidText ci_InvalidText ti_InvalidText), li_InvalidText⟩) (cd_InvalidText : PySem.W.codeIn K ci_InvalidText "InvalidText.__init__" = true) (kf_InvalidText : PySem.W.keepIn K (.ref fi_InvalidText) = true)
    (u_InvalidText_InvalidCommand : PySem.W.subIn K (.ref C_InvalidText) (.ref C_InvalidCommand) = some false)
    (u_InvalidText_InvalidNumber : PySem.W.subIn K (.ref C_InvalidText) (.ref C_InvalidNumber) = some false)
    (u_InvalidText_InvalidLevel : PySem.W.subIn K (.ref C_InvalidText) (.ref C_InvalidLevel) = some false)
    (u_InvalidText_InvalidSetting : PySem.W.subIn K (.ref C_InvalidText) (.ref C_InvalidSetting) = some false)
    (u_InvalidText_InvalidText : PySem.W.subIn K (.ref C_InvalidText) (.ref C_InvalidText) = some true)
    (u_InvalidText_LastheldError : PySem.W.subIn K (.ref C_InvalidText) (.ref C_LastheldError) = some true)
    {nm_InvalidFields q_InvalidFields : Str} {N_InvalidFields : Addr} {bs_InvalidFields sb_InvalidFields : List Value} {sn_InvalidFields : List Str} {ab_InvalidFields : Bool} {co_InvalidFields : Option Bool} {dd_InvalidFields : Option Addr} {m0_InvalidFields m1_InvalidFields m2_InvalidFields m3_InvalidFields m5_InvalidFields : Option Value}
    (x_InvalidFields : K.lookup C_InvalidFields = some (excClassObj nm_InvalidFields q_InvalidFields C_InvalidFields N_InvalidFields bs_InvalidFields [(.ref C_LastheldError), (.type "ValueError"), (.type "Exception"), (.type "BaseException"), (.type "object")] true sn_InvalidFields sb_InvalidFields ab_InvalidFields co_InvalidFields dd_InvalidFields m0_InvalidFields m1_InvalidFields m2_InvalidFields m3_InvalidFields m5_InvalidFields "ValueError.__new__"))
    (sa_InvalidFields : PySem.W.findIn K (.ref C_InvalidFields) "__setattr__" = some (some (.builtin "object.__setattr__")))
    (xa_InvalidFields : PySem.W.findIn K (.ref C_InvalidFields) "__getattribute__" = some (some (.builtin "BaseException.__getattribute__")))
    (xg_InvalidFields : PySem.W.findIn K (.ref C_InvalidFields) "__getattr__" = some none)
    (ex_InvalidFields : PySem.W.subIn K (.ref C_InvalidFields) (.type "BaseException") = some true)
    (tp_InvalidFields : PySem.W.typeIn K (.ref C_InvalidFields) = some (.type "type"))
    (kp_InvalidFields : PySem.W.keepIn K (.ref C_InvalidFields) = true)
    (hd_InvalidFields : PySem.W.hasDictIn K C_InvalidFields = true)
    (ca_InvalidFields : PySem.W.findIn K (.ref C_InvalidFields) "__class__" = some (some (.builtin "object.__class__")))
    (mo_InvalidFields : PySem.W.mroIn K C_InvalidFields (.type "object") = some true)
    (se_InvalidFields : PySem.W.subIn K (.ref C_InvalidFields) (.ref C_InvalidFields) = some true) (nf_InvalidFields : PySem.W.findIn K (.ref C_InvalidFields) "index" = some none)
    {fi_InvalidFields : Addr} {oi_InvalidFields ki_InvalidFields di_InvalidFields pi_InvalidFields ci_InvalidFields ti_InvalidFields : Value} {ei_InvalidFields ai_InvalidFields : Option Addr} {li_InvalidFields : Array (Option Value)} (fn_InvalidFields : PySem.W.findIn K (.ref C_InvalidFields) "__init__" = some (some (.ref fi_InvalidFields))) (tf_InvalidFields : PySem.W.typeIn K (.ref fi_InvalidFields) = some (.type "function"))
    (lk_InvalidFields : K.lookup fi_InvalidFields = some ⟨oi_InvalidFields, ei_InvalidFields, .func (PySem.W.fnOf "__init__" "InvalidFields.__init__" (defArgs s_InvalidFields___init__) (defBody s_InvalidFields___init__) (defScope s_InvalidFields___init__) .none ki_InvalidFields di_InvalidFields pi_InvalidFields ai_InvalidFields ci_InvalidFields ti_InvalidFields), li_InvalidFields⟩) (cd_InvalidFields : PySem.W.codeIn K ci_InvalidFields "InvalidFields.__init__" = true) (kf_InvalidFields : PySem.W.keepIn K (.ref fi_InvalidFields) = true)
    (u_InvalidFields_InvalidCommand : PySem.W.subIn K (.ref C_InvalidFields) (.ref C_InvalidCommand) = some false)
    (u_InvalidFields_InvalidNumber : PySem.W.subIn K (.ref C_InvalidFields) (.ref C_InvalidNumber) = some false)
    (u_InvalidFields_InvalidLevel : PySem.W.subIn K (.ref C_InvalidFields) (.ref C_InvalidLevel) = some false)
    (u_InvalidFields_InvalidSetting : PySem.W.subIn K (.ref C_InvalidFields) (.ref C_InvalidSetting) = some false)
    (u_InvalidFields_InvalidText : PySem.W.subIn K (.ref C_InvalidFields) (.ref C_InvalidText) = some false)
    (u_InvalidFields_LastheldError : PySem.W.subIn K (.ref C_InvalidFields) (.ref C_LastheldError) = some true)
    {nm_InvalidSetting q_InvalidSetting : Str} {N_InvalidSetting : Addr} {bs_InvalidSetting sb_InvalidSetting : List Value} {sn_InvalidSetting : List Str} {ab_InvalidSetting : Bool} {co_InvalidSetting : Option Bool} {dd_InvalidSetting : Option Addr} {m0_InvalidSetting m1_InvalidSetting m2_InvalidSetting m3_InvalidSetting m5_InvalidSetting : Option Value}
    (x_InvalidSetting : K.lookup C_InvalidSetting = some (excClassObj nm_InvalidSetting q_InvalidSetting C_InvalidSetting N_InvalidSetting bs_InvalidSetting [(.ref C_LastheldError), (.type "ValueError"), (.type "Exception"), (.type "BaseException"), (.type "object")] true sn_InvalidSetting sb_InvalidSetting ab_InvalidSetting co_InvalidSetting dd_InvalidSetting m0_InvalidSetting m1_InvalidSetting m2_InvalidSetting m3_InvalidSetting m5_InvalidSetting "ValueError.__new__"))
    (sa_InvalidSetting : PySem.W.findIn K (.ref C_InvalidSetting) "__setattr__" = some (some (.builtin "object.__setattr__")))
    (xa_InvalidSetting : PySem.W.findIn K (.ref C_InvalidSetting) "__getattribute__" = some (some (.builtin "BaseException.__getattribute__")))
    (xg_InvalidSetting : PySem.W.findIn K (.ref C_InvalidSetting) "__getattr__" = some none)
    (ex_InvalidSetting : PySem.W.subIn K (.ref C_InvalidSetting) (.type "BaseException") = some true)
    (tp_InvalidSetting : PySem.W.typeIn K (.ref C_InvalidSetting) = some (.type "type"))
    (kp_InvalidSetting : PySem.W.keepIn K (.ref C_InvalidSetting) = true)
    (hd_InvalidSetting : PySem.W.hasDictIn K C_InvalidSetting = true)
    (ca_InvalidSetting : PySem.W.findIn K (.ref C_InvalidSetting) "__class__" = some (some (.builtin "object.__class__")))
    (mo_InvalidSetting : PySem.W.mroIn K C_InvalidSetting (.type "object") = some true)
    (se_InvalidSetting : PySem.W.subIn K (.ref C_InvalidSetting) (.ref C_InvalidSetting) = some true) (nf_InvalidSetting : PySem.W.findIn K (.ref C_InvalidSetting) "value" = some none)
    {fi_InvalidSetting : Addr} {oi_InvalidSetting ki_InvalidSetting di_InvalidSetting pi_InvalidSetting ci_InvalidSetting ti_InvalidSetting : Value} {ei_InvalidSetting ai_InvalidSetting : Option Addr} {li_InvalidSetting : Array (Option Value)} (fn_InvalidSetting : PySem.W.findIn K (.ref C_InvalidSetting) "__init__" = some (some (.ref fi_InvalidSetting))) (tf_InvalidSetting : PySem.W.typeIn K (.ref fi_InvalidSetting) = some (.type "function"))
    (lk_InvalidSetting : K.lookup fi_InvalidSetting = some ⟨oi_InvalidSetting, ei_InvalidSetting, .func (PySem.W.fnOf "__init__" "InvalidSetting.__init__" (defArgs s_InvalidSetting___init__) (defBody s_InvalidSetting___init__) (defScope s_InvalidSetting___init__) .none ki_InvalidSetting di_InvalidSetting pi_InvalidSetting ai_InvalidSetting ci_InvalidSetting ti_InvalidSetting), li_InvalidSetting⟩) (cd_InvalidSetting : PySem.W.codeIn K ci_InvalidSetting "InvalidSetting.__init__" = true) (kf_InvalidSetting : PySem.W.keepIn K (.ref fi_InvalidSetting) = true)
    (u_InvalidSetting_InvalidCommand : PySem.W.subIn K (.ref C_InvalidSetting) (.ref C_InvalidCommand) = some false)
    (u_InvalidSetting_InvalidNumber : PySem.W.subIn K (.ref C_InvalidSetting) (.ref C_InvalidNumber) = some false)
    (u_InvalidSetting_InvalidLevel : PySem.W.subIn K (.ref C_InvalidSetting) (.ref C_InvalidLevel) = some false)
    (u_InvalidSetting_InvalidSetting : PySem.W.subIn K (.ref C_InvalidSetting) (.ref C_InvalidSetting) = some true)
    (u_InvalidSetting_InvalidText : PySem.W.subIn K (.ref C_InvalidSetting) (.ref C_InvalidText) = some false)
    (u_InvalidSetting_LastheldError : PySem.W.subIn K (.ref C_InvalidSetting) (.ref C_LastheldError) = some true)
    (w_InvalidNumber_InvalidText : PySem.W.subIn K (.ref C_InvalidNumber) (.ref C_InvalidText) = some false)
    (w_InvalidNumber_InvalidSetting : PySem.W.subIn K (.ref C_InvalidNumber) (.ref C_InvalidSetting) = some false)
    (w_InvalidText_InvalidSetting : PySem.W.subIn K (.ref C_InvalidText) (.ref C_InvalidSetting) = some false)
    (w_InvalidFields_InvalidText : PySem.W.subIn K (.ref C_InvalidFields) (.ref C_InvalidText) = some false)
    (w_InvalidFields_InvalidSetting : PySem.W.subIn K (.ref C_InvalidFields) (.ref C_InvalidSetting) = some false)
    (w_InvalidSetting_InvalidText : PySem.W.subIn K (.ref C_InvalidSetting) (.ref C_InvalidText) = some false)
    (a0 : PySem.W.nsIn K mainGlobals "is_name" = some (some (.ref f0))) (l0 : K.lookup f0 = some ⟨oc0, od0, .func (PySem.W.fnOf "is_name" "is_name" (defArgs s_is_name) (defBody s_is_name) (defScope s_is_name) .none kV0 dc0 pm0 an0 cd0 ct0), sl0⟩) (c0 : PySem.W.codeIn K cd0 "is_name" = true) (k0 : PySem.W.keepIn K (.ref f0) = true)
    (a1 : PySem.W.nsIn K mainGlobals "is_integer" = some (some (.ref f1))) (l1 : K.lookup f1 = some ⟨oc1, od1, .func (PySem.W.fnOf "is_integer" "is_integer" (defArgs s_is_integer) (defBody s_is_integer) (defScope s_is_integer) .none kV1 dc1 pm1 an1 cd1 ct1), sl1⟩) (c1 : PySem.W.codeIn K cd1 "is_integer" = true) (k1 : PySem.W.keepIn K (.ref f1) = true)
    (a2 : PySem.W.nsIn K mainGlobals "common_divisor" = some (some (.ref f2))) (l2 : K.lookup f2 = some ⟨oc2, od2, .func (PySem.W.fnOf "common_divisor" "common_divisor" (defArgs s_common_divisor) (defBody s_common_divisor) (defScope s_common_divisor) .none kV2 dc2 pm2 an2 cd2 ct2), sl2⟩) (c2 : PySem.W.codeIn K cd2 "common_divisor" = true) (k2 : PySem.W.keepIn K (.ref f2) = true)
    (a3 : PySem.W.nsIn K mainGlobals "is_number" = some (some (.ref f3))) (l3 : K.lookup f3 = some ⟨oc3, od3, .func (PySem.W.fnOf "is_number" "is_number" (defArgs s_is_number) (defBody s_is_number) (defScope s_is_number) .none kV3 dc3 pm3 an3 cd3 ct3), sl3⟩) (c3 : PySem.W.codeIn K cd3 "is_number" = true) (k3 : PySem.W.keepIn K (.ref f3) = true)
    (a4 : PySem.W.nsIn K mainGlobals "check_numbers" = some (some (.ref f4))) (l4 : K.lookup f4 = some ⟨oc4, od4, .func (PySem.W.fnOf "check_numbers" "check_numbers" (defArgs s_check_numbers) (defBody s_check_numbers) (defScope s_check_numbers) .none kV4 dc4 pm4 an4 cd4 ct4), sl4⟩) (c4 : PySem.W.codeIn K cd4 "check_numbers" = true) (k4 : PySem.W.keepIn K (.ref f4) = true)
    (a5 : PySem.W.nsIn K mainGlobals "top_and_low" = some (some (.ref f5))) (l5 : K.lookup f5 = some ⟨oc5, od5, .func (PySem.W.fnOf "top_and_low" "top_and_low" (defArgs s_top_and_low) (defBody s_top_and_low) (defScope s_top_and_low) .none kV5 dc5 pm5 an5 cd5 ct5), sl5⟩) (c5 : PySem.W.codeIn K cd5 "top_and_low" = true) (k5 : PySem.W.keepIn K (.ref f5) = true)
    (a6 : PySem.W.nsIn K mainGlobals "number_text" = some (some (.ref f6))) (l6 : K.lookup f6 = some ⟨oc6, od6, .func (PySem.W.fnOf "number_text" "number_text" (defArgs s_number_text) (defBody s_number_text) (defScope s_number_text) .none kV6 dc6 pm6 an6 cd6 ct6), sl6⟩) (c6 : PySem.W.codeIn K cd6 "number_text" = true) (k6 : PySem.W.keepIn K (.ref f6) = true)
    (a7 : PySem.W.nsIn K mainGlobals "is_decimal" = some (some (.ref f7))) (l7 : K.lookup f7 = some ⟨oc7, od7, .func (PySem.W.fnOf "is_decimal" "is_decimal" (defArgs s_is_decimal) (defBody s_is_decimal) (defScope s_is_decimal) .none kV7 dc7 pm7 an7 cd7 ct7), sl7⟩) (c7 : PySem.W.codeIn K cd7 "is_decimal" = true) (k7 : PySem.W.keepIn K (.ref f7) = true)
    (a8 : PySem.W.nsIn K mainGlobals "parse_integer" = some (some (.ref f8))) (l8 : K.lookup f8 = some ⟨oc8, od8, .func (PySem.W.fnOf "parse_integer" "parse_integer" (defArgs s_parse_integer) (defBody s_parse_integer) (defScope s_parse_integer) .none kV8 dc8 pm8 an8 cd8 ct8), sl8⟩) (c8 : PySem.W.codeIn K cd8 "parse_integer" = true) (k8 : PySem.W.keepIn K (.ref f8) = true)
    (a9 : PySem.W.nsIn K mainGlobals "parse_number" = some (some (.ref f9))) (l9 : K.lookup f9 = some ⟨oc9, od9, .func (PySem.W.fnOf "parse_number" "parse_number" (defArgs s_parse_number) (defBody s_parse_number) (defScope s_parse_number) .none kV9 dc9 pm9 an9 cd9 ct9), sl9⟩) (c9 : PySem.W.codeIn K cd9 "parse_number" = true) (k9 : PySem.W.keepIn K (.ref f9) = true)
    (a10 : PySem.W.nsIn K mainGlobals "is_level" = some (some (.ref f10))) (l10 : K.lookup f10 = some ⟨oc10, od10, .func (PySem.W.fnOf "is_level" "is_level" (defArgs s_is_level) (defBody s_is_level) (defScope s_is_level) .none kV10 dc10 pm10 an10 cd10 ct10), sl10⟩) (c10 : PySem.W.codeIn K cd10 "is_level" = true) (k10 : PySem.W.keepIn K (.ref f10) = true)
    (a11 : PySem.W.nsIn K mainGlobals "is_setting" = some (some (.ref f11))) (l11 : K.lookup f11 = some ⟨oc11, od11, .func (PySem.W.fnOf "is_setting" "is_setting" (defArgs s_is_setting) (defBody s_is_setting) (defScope s_is_setting) .none kV11 dc11 pm11 an11 cd11 ct11), sl11⟩) (c11 : PySem.W.codeIn K cd11 "is_setting" = true) (k11 : PySem.W.keepIn K (.ref f11) = true)
    (a12 : PySem.W.nsIn K mainGlobals "check_fields" = some (some (.ref f12))) (l12 : K.lookup f12 = some ⟨oc12, od12, .func (PySem.W.fnOf "check_fields" "check_fields" (defArgs s_check_fields) (defBody s_check_fields) (defScope s_check_fields) .none kV12 dc12 pm12 an12 cd12 ct12), sl12⟩) (c12 : PySem.W.codeIn K cd12 "check_fields" = true) (k12 : PySem.W.keepIn K (.ref f12) = true)
    (a13 : PySem.W.nsIn K mainGlobals "setting_text" = some (some (.ref f13))) (l13 : K.lookup f13 = some ⟨oc13, od13, .func (PySem.W.fnOf "setting_text" "setting_text" (defArgs s_setting_text) (defBody s_setting_text) (defScope s_setting_text) .none kV13 dc13 pm13 an13 cd13 ct13), sl13⟩) (c13 : PySem.W.codeIn K cd13 "setting_text" = true) (k13 : PySem.W.keepIn K (.ref f13) = true)
    (a14 : PySem.W.nsIn K mainGlobals "count_of" = some (some (.ref f14))) (l14 : K.lookup f14 = some ⟨oc14, od14, .func (PySem.W.fnOf "count_of" "count_of" (defArgs s_count_of) (defBody s_count_of) (defScope s_count_of) .none kV14 dc14 pm14 an14 cd14 ct14), sl14⟩) (c14 : PySem.W.codeIn K cd14 "count_of" = true) (k14 : PySem.W.keepIn K (.ref f14) = true)
    (a15 : PySem.W.nsIn K mainGlobals "value_of" = some (some (.ref f15))) (l15 : K.lookup f15 = some ⟨oc15, od15, .func (PySem.W.fnOf "value_of" "value_of" (defArgs s_value_of) (defBody s_value_of) (defScope s_value_of) .none kV15 dc15 pm15 an15 cd15 ct15), sl15⟩) (c15 : PySem.W.codeIn K cd15 "value_of" = true) (k15 : PySem.W.keepIn K (.ref f15) = true)
    (a16 : PySem.W.nsIn K mainGlobals "setting_of" = some (some (.ref f16))) (l16 : K.lookup f16 = some ⟨oc16, od16, .func (PySem.W.fnOf "setting_of" "setting_of" (defArgs s_setting_of) (defBody s_setting_of) (defScope s_setting_of) .none kV16 dc16 pm16 an16 cd16 ct16), sl16⟩) (c16 : PySem.W.codeIn K cd16 "setting_of" = true) (k16 : PySem.W.keepIn K (.ref f16) = true)
    (a17 : PySem.W.nsIn K mainGlobals "parse_setting" = some (some (.ref f17))) (l17 : K.lookup f17 = some ⟨oc17, od17, .func (PySem.W.fnOf "parse_setting" "parse_setting" (defArgs s_parse_setting) (defBody s_parse_setting) (defScope s_parse_setting) .none kV17 dc17 pm17 an17 cd17 ct17), sl17⟩) (c17 : PySem.W.codeIn K cd17 "parse_setting" = true) (k17 : PySem.W.keepIn K (.ref f17) = true)
    (a18 : PySem.W.nsIn K mainGlobals "_law_pot" = some (some (.ref f18))) (l18 : K.lookup f18 = some ⟨oc18, od18, .func (PySem.W.fnOf "_law_pot" "_law_pot" (defArgs s_l_pot) (defBody s_l_pot) (defScope s_l_pot) .none kV18 dc18 pm18 an18 cd18 ct18), sl18⟩) (c18 : PySem.W.codeIn K cd18 "_law_pot" = true) (k18 : PySem.W.keepIn K (.ref f18) = true)
    (a19 : PySem.W.nsIn K mainGlobals "_law_draw" = some (some (.ref f19))) (l19 : K.lookup f19 = some ⟨oc19, od19, .func (PySem.W.fnOf "_law_draw" "_law_draw" (defArgs s_l_draw) (defBody s_l_draw) (defScope s_l_draw) .none kV19 dc19 pm19 an19 cd19 ct19), sl19⟩) (c19 : PySem.W.codeIn K cd19 "_law_draw" = true) (k19 : PySem.W.keepIn K (.ref f19) = true)
    (a20 : PySem.W.nsIn K mainGlobals "_law_word" = some (some (.ref f20))) (l20 : K.lookup f20 = some ⟨oc20, od20, .func (PySem.W.fnOf "_law_word" "_law_word" (defArgs s_l_word) (defBody s_l_word) (defScope s_l_word) .none kV20 dc20 pm20 an20 cd20 ct20), sl20⟩) (c20 : PySem.W.codeIn K cd20 "_law_word" = true) (k20 : PySem.W.keepIn K (.ref f20) = true)
    (a21 : PySem.W.nsIn K mainGlobals "_law_words" = some (some (.ref f21))) (l21 : K.lookup f21 = some ⟨oc21, od21, .func (PySem.W.fnOf "_law_words" "_law_words" (defArgs s_l_words) (defBody s_l_words) (defScope s_l_words) .none kV21 dc21 pm21 an21 cd21 ct21), sl21⟩) (c21 : PySem.W.codeIn K cd21 "_law_words" = true) (k21 : PySem.W.keepIn K (.ref f21) = true)
    (a22 : PySem.W.nsIn K mainGlobals "_law_common" = some (some (.ref f22))) (l22 : K.lookup f22 = some ⟨oc22, od22, .func (PySem.W.fnOf "_law_common" "_law_common" (defArgs s_l_common) (defBody s_l_common) (defScope s_l_common) .none kV22 dc22 pm22 an22 cd22 ct22), sl22⟩) (c22 : PySem.W.codeIn K cd22 "_law_common" = true) (k22 : PySem.W.keepIn K (.ref f22) = true)
    (a23 : PySem.W.nsIn K mainGlobals "_law_ratio" = some (some (.ref f23))) (l23 : K.lookup f23 = some ⟨oc23, od23, .func (PySem.W.fnOf "_law_ratio" "_law_ratio" (defArgs s_l_ratio) (defBody s_l_ratio) (defScope s_l_ratio) .none kV23 dc23 pm23 an23 cd23 ct23), sl23⟩) (c23 : PySem.W.codeIn K cd23 "_law_ratio" = true) (k23 : PySem.W.keepIn K (.ref f23) = true)
    (a24 : PySem.W.nsIn K mainGlobals "_law_worth" = some (some (.ref f24))) (l24 : K.lookup f24 = some ⟨oc24, od24, .func (PySem.W.fnOf "_law_worth" "_law_worth" (defArgs s_l_worth) (defBody s_l_worth) (defScope s_l_worth) .none kV24 dc24 pm24 an24 cd24 ct24), sl24⟩) (c24 : PySem.W.codeIn K cd24 "_law_worth" = true) (k24 : PySem.W.keepIn K (.ref f24) = true)
    (a25 : PySem.W.nsIn K mainGlobals "_law_told" = some (some (.ref f25))) (l25 : K.lookup f25 = some ⟨oc25, od25, .func (PySem.W.fnOf "_law_told" "_law_told" (defArgs s_l_told) (defBody s_l_told) (defScope s_l_told) .none kV25 dc25 pm25 an25 cd25 ct25), sl25⟩) (c25 : PySem.W.codeIn K cd25 "_law_told" = true) (k25 : PySem.W.keepIn K (.ref f25) = true)
    (a26 : PySem.W.nsIn K mainGlobals "_law_is_digits" = some (some (.ref f26))) (l26 : K.lookup f26 = some ⟨oc26, od26, .func (PySem.W.fnOf "_law_is_digits" "_law_is_digits" (defArgs s_l_is_digits) (defBody s_l_is_digits) (defScope s_l_is_digits) .none kV26 dc26 pm26 an26 cd26 ct26), sl26⟩) (c26 : PySem.W.codeIn K cd26 "_law_is_digits" = true) (k26 : PySem.W.keepIn K (.ref f26) = true)
    (a27 : PySem.W.nsIn K mainGlobals "_law_ratio_note" = some (some (.ref f27))) (l27 : K.lookup f27 = some ⟨oc27, od27, .func (PySem.W.fnOf "_law_ratio_note" "_law_ratio_note" (defArgs s_l_ratio_note) (defBody s_l_ratio_note) (defScope s_l_ratio_note) .none kV27 dc27 pm27 an27 cd27 ct27), sl27⟩) (c27 : PySem.W.codeIn K cd27 "_law_ratio_note" = true) (k27 : PySem.W.keepIn K (.ref f27) = true)
    (a28 : PySem.W.nsIn K mainGlobals "_law_ratio_in" = some (some (.ref f28))) (l28 : K.lookup f28 = some ⟨oc28, od28, .func (PySem.W.fnOf "_law_ratio_in" "_law_ratio_in" (defArgs s_l_ratio_in) (defBody s_l_ratio_in) (defScope s_l_ratio_in) .none kV28 dc28 pm28 an28 cd28 ct28), sl28⟩) (c28 : PySem.W.codeIn K cd28 "_law_ratio_in" = true) (k28 : PySem.W.keepIn K (.ref f28) = true)
    (a29 : PySem.W.nsIn K mainGlobals "_law_is_word" = some (some (.ref f29))) (l29 : K.lookup f29 = some ⟨oc29, od29, .func (PySem.W.fnOf "_law_is_word" "_law_is_word" (defArgs s_l_is_word) (defBody s_l_is_word) (defScope s_l_is_word) .none kV29 dc29 pm29 an29 cd29 ct29), sl29⟩) (c29 : PySem.W.codeIn K cd29 "_law_is_word" = true) (k29 : PySem.W.keepIn K (.ref f29) = true)
    (a30 : PySem.W.nsIn K mainGlobals "_law_row_note" = some (some (.ref f30))) (l30 : K.lookup f30 = some ⟨oc30, od30, .func (PySem.W.fnOf "_law_row_note" "_law_row_note" (defArgs s_l_row_note) (defBody s_l_row_note) (defScope s_l_row_note) .none kV30 dc30 pm30 an30 cd30 ct30), sl30⟩) (c30 : PySem.W.codeIn K cd30 "_law_row_note" = true) (k30 : PySem.W.keepIn K (.ref f30) = true)
    (a31 : PySem.W.nsIn K mainGlobals "_law_row_in" = some (some (.ref f31))) (l31 : K.lookup f31 = some ⟨oc31, od31, .func (PySem.W.fnOf "_law_row_in" "_law_row_in" (defArgs s_l_row_in) (defBody s_l_row_in) (defScope s_l_row_in) .none kV31 dc31 pm31 an31 cd31 ct31), sl31⟩) (c31 : PySem.W.codeIn K cd31 "_law_row_in" = true) (k31 : PySem.W.keepIn K (.ref f31) = true)
    (a32 : PySem.W.nsIn K mainGlobals "_law_is_short" = some (some (.ref f32))) (l32 : K.lookup f32 = some ⟨oc32, od32, .func (PySem.W.fnOf "_law_is_short" "_law_is_short" (defArgs s_l_is_short) (defBody s_l_is_short) (defScope s_l_is_short) .none kV32 dc32 pm32 an32 cd32 ct32), sl32⟩) (c32 : PySem.W.codeIn K cd32 "_law_is_short" = true) (k32 : PySem.W.keepIn K (.ref f32) = true)
    (a33 : PySem.W.nsIn K mainGlobals "_law_bent" = some (some (.ref f33))) (l33 : K.lookup f33 = some ⟨oc33, od33, .func (PySem.W.fnOf "_law_bent" "_law_bent" (defArgs s_l_bent) (defBody s_l_bent) (defScope s_l_bent) .none kV33 dc33 pm33 an33 cd33 ct33), sl33⟩) (c33 : PySem.W.codeIn K cd33 "_law_bent" = true) (k33 : PySem.W.keepIn K (.ref f33) = true)
    (a34 : PySem.W.nsIn K mainGlobals "_law_met" = some (some (.ref f34))) (l34 : K.lookup f34 = some ⟨oc34, od34, .func (PySem.W.fnOf "_law_met" "_law_met" (defArgs s_l_met) (defBody s_l_met) (defScope s_l_met) .none kV34 dc34 pm34 an34 cd34 ct34), sl34⟩) (c34 : PySem.W.codeIn K cd34 "_law_met" = true) (k34 : PySem.W.keepIn K (.ref f34) = true)
    (a35 : PySem.W.nsIn K mainGlobals "_law_spoilt" = some (some (.ref f35))) (l35 : K.lookup f35 = some ⟨oc35, od35, .func (PySem.W.fnOf "_law_spoilt" "_law_spoilt" (defArgs s_l_spoilt) (defBody s_l_spoilt) (defScope s_l_spoilt) .none kV35 dc35 pm35 an35 cd35 ct35), sl35⟩) (c35 : PySem.W.codeIn K cd35 "_law_spoilt" = true) (k35 : PySem.W.keepIn K (.ref f35) = true)
    (a36 : PySem.W.nsIn K mainGlobals "_law_odd_rows" = some (some (.ref f36))) (l36 : K.lookup f36 = some ⟨oc36, od36, .func (PySem.W.fnOf "_law_odd_rows" "_law_odd_rows" (defArgs s_l_odd_rows) (defBody s_l_odd_rows) (defScope s_l_odd_rows) .none kV36 dc36 pm36 an36 cd36 ct36), sl36⟩) (c36 : PySem.W.codeIn K cd36 "_law_odd_rows" = true) (k36 : PySem.W.keepIn K (.ref f36) = true)
    (a37 : PySem.W.nsIn K mainGlobals "_law_is_row" = some (some (.ref f37))) (l37 : K.lookup f37 = some ⟨oc37, od37, .func (PySem.W.fnOf "_law_is_row" "_law_is_row" (defArgs s_l_is_row) (defBody s_l_is_row) (defScope s_l_is_row) .none kV37 dc37 pm37 an37 cd37 ct37), sl37⟩) (c37 : PySem.W.codeIn K cd37 "_law_is_row" = true) (k37 : PySem.W.keepIn K (.ref f37) = true)
    (a38 : PySem.W.nsIn K mainGlobals "_law_one_right" = some (some (.ref f38))) (l38 : K.lookup f38 = some ⟨oc38, od38, .func (PySem.W.fnOf "_law_one_right" "_law_one_right" (defArgs s_l_one_right) (defBody s_l_one_right) (defScope s_l_one_right) .none kV38 dc38 pm38 an38 cd38 ct38), sl38⟩) (c38 : PySem.W.codeIn K cd38 "_law_one_right" = true) (k38 : PySem.W.keepIn K (.ref f38) = true)
    (a39 : PySem.W.nsIn K mainGlobals "law" = some (some (.ref f39))) (l39 : K.lookup f39 = some ⟨oc39, od39, .func (PySem.W.fnOf "law" "law" (defArgs s_law) (defBody s_law) (defScope s_law) .none kV39 dc39 pm39 an39 cd39 ct39), sl39⟩) (c39 : PySem.W.codeIn K cd39 "law" = true) (k39 : PySem.W.keepIn K (.ref f39) = true)
    (b_abs : PySem.W.nsIn K mainGlobals "abs" = some none)
    (b_all : PySem.W.nsIn K mainGlobals "all" = some none)
    (b_bool : PySem.W.nsIn K mainGlobals "bool" = some none)
    (b_divmod : PySem.W.nsIn K mainGlobals "divmod" = some none)
    (b_enumerate : PySem.W.nsIn K mainGlobals "enumerate" = some none)
    (b_int : PySem.W.nsIn K mainGlobals "int" = some none)
    (b_isinstance : PySem.W.nsIn K mainGlobals "isinstance" = some none)
    (b_len : PySem.W.nsIn K mainGlobals "len" = some none)
    (b_list : PySem.W.nsIn K mainGlobals "list" = some none)
    (b_max : PySem.W.nsIn K mainGlobals "max" = some none)
    (b_min : PySem.W.nsIn K mainGlobals "min" = some none)
    (b_range : PySem.W.nsIn K mainGlobals "range" = some none)
    (b_repr : PySem.W.nsIn K mainGlobals "repr" = some none)
    (b_str : PySem.W.nsIn K mainGlobals "str" = some none)
    (b_tuple : PySem.W.nsIn K mainGlobals "tuple" = some none)
    {t_LETTERS : Tok} (g_LETTERS : PySem.W.nsIn K mainGlobals "LETTERS" = some (some (.str "abcdefghijklmnopqrstuvwxyz" t_LETTERS)))
    {t_MOST_LETTERS : Tok} (g_MOST_LETTERS : PySem.W.nsIn K mainGlobals "MOST_LETTERS" = some (some (.int 8 t_MOST_LETTERS)))
    {t_DIGITS : Tok} (g_DIGITS : PySem.W.nsIn K mainGlobals "DIGITS" = some (some (.str "0123456789" t_DIGITS)))
    {t_PARTS : Tok} (g_PARTS : PySem.W.nsIn K mainGlobals "PARTS" = some (some (.int 5 t_PARTS)))
    {t_MOST_LEVEL : Tok} (g_MOST_LEVEL : PySem.W.nsIn K mainGlobals "MOST_LEVEL" = some (some (.int 2 t_MOST_LEVEL)))
    {t_WORDS_OF_SETTING : Tok} (g_WORDS_OF_SETTING : PySem.W.nsIn K mainGlobals "WORDS_OF_SETTING" = some (some (.int 5 t_WORDS_OF_SETTING))) :
    ∃ fd : FuncData, (∀ (s : Shared) (v : Value), BindsTo s fd ⟨[v], []⟩ [("_law_script", v)]) ∧ ∀ base : Heap, K.In base → base.Ns mainGlobals mg → FnG l.prog w K mg base CX0 9 fa fd ["_law_script"] (spLaw K) := by
  have e := hfa.symm.trans (PySem.W.mg_of X G a39)
  cases e
  have T : Txt K mg ⟨C_LastheldError, C_InvalidNumber, C_InvalidLevel, C_InvalidFields, C_InvalidSetting, C_InvalidText, C_InvalidCommand, C_Sheet⟩ := ⟨trivial, PySem.W.mg_none_of X G b_abs, PySem.W.mg_none_of X G b_all, PySem.W.mg_none_of X G b_bool, PySem.W.mg_none_of X G b_divmod, PySem.W.mg_none_of X G b_enumerate, PySem.W.mg_none_of X G b_int, PySem.W.mg_none_of X G b_isinstance, PySem.W.mg_none_of X G b_len, PySem.W.mg_none_of X G b_list, PySem.W.mg_none_of X G b_max, PySem.W.mg_none_of X G b_min, PySem.W.mg_none_of X G b_range, PySem.W.mg_none_of X G b_repr, PySem.W.mg_none_of X G b_str, PySem.W.mg_none_of X G b_tuple, PySem.W.mg_of X G a_LastheldError, PySem.W.mg_of X G a_InvalidNumber, PySem.W.mg_of X G a_InvalidLevel, PySem.W.mg_of X G a_InvalidFields, PySem.W.mg_of X G a_InvalidSetting, PySem.W.mg_of X G a_InvalidText, PySem.W.mg_of X G a_InvalidCommand, PySem.W.mg_of X G a_Sheet, ⟨⟨pg_Sheet, hd_Sheet, po_Sheet, sa_Sheet⟩, ca_Sheet, occ1, occ2, mo_Sheet, kit_sub se_Sheet se_Sheet ic_Sheet ty_Sheet⟩, ⟨rd_Sheet, ga_Sheet⟩, kp_Sheet, ⟨_, ⟨cv_Sheet_MAX_FIELDS, ⟨_, rfl⟩⟩⟩, na_Sheet_own_fields, na_Sheet_own_places, ⟨_, _, ⟨mk_Sheet, fa_Sheet___init__, is_Sheet___init__, kp_Sheet⟩, fun_mk (st := s_Sheet___init__) lk_Sheet___init__ cd_Sheet___init__ kf_Sheet___init__⟩, ⟨_, _, ⟨fa_Sheet_has_field, is_Sheet_has_field, kf_Sheet_has_field⟩, fun_mk (st := s_Sheet_has_field) lk_Sheet_has_field cd_Sheet_has_field kf_Sheet_has_field⟩, ⟨PySem.W.mg_of X G a_LastheldError, ⟨rd_LastheldError, ga_LastheldError⟩, it_LastheldError⟩, ⟨PySem.W.mg_of X G a_InvalidNumber, ⟨⟨_, _, _, _, _, _, _, _, _, _, _, _, _, _, _, x_InvalidNumber, rfl⟩, sa_InvalidNumber, ex_InvalidNumber, tp_InvalidNumber, kp_InvalidNumber⟩, ⟨xa_InvalidNumber, xg_InvalidNumber, ex_InvalidNumber, hd_InvalidNumber⟩, ⟨xa_InvalidNumber, xg_InvalidNumber, ex_InvalidNumber, hd_InvalidNumber, ca_InvalidNumber, occ1, occ2, mo_InvalidNumber⟩, tp_InvalidNumber, se_InvalidNumber⟩, nf_InvalidNumber, ⟨_, _, fn_InvalidNumber, tf_InvalidNumber, fun_mk (st := s_InvalidNumber___init__) lk_InvalidNumber cd_InvalidNumber kf_InvalidNumber⟩, kit_sub u_InvalidNumber_InvalidCommand se_InvalidNumber ic_InvalidCommand ty_InvalidCommand, kit_sub u_InvalidNumber_InvalidNumber se_InvalidNumber ic_InvalidNumber ty_InvalidNumber, kit_sub u_InvalidNumber_InvalidLevel se_InvalidNumber ic_InvalidLevel ty_InvalidLevel, kit_sub u_InvalidNumber_InvalidSetting se_InvalidNumber ic_InvalidSetting ty_InvalidSetting, kit_sub u_InvalidNumber_InvalidText se_InvalidNumber ic_InvalidText ty_InvalidText, kit_sub u_InvalidNumber_LastheldError se_InvalidNumber ic_LastheldError ty_LastheldError, ⟨PySem.W.mg_of X G a_InvalidText, ⟨⟨_, _, _, _, _, _, _, _, _, _, _, _, _, _, _, x_InvalidText, rfl⟩, sa_InvalidText, ex_InvalidText, tp_InvalidText, kp_InvalidText⟩, ⟨xa_InvalidText, xg_InvalidText, ex_InvalidText, hd_InvalidText⟩, ⟨xa_InvalidText, xg_InvalidText, ex_InvalidText, hd_InvalidText, ca_InvalidText, occ1, occ2, mo_InvalidText⟩, tp_InvalidText, se_InvalidText⟩, nf_InvalidText, ⟨_, _, fn_InvalidText, tf_InvalidText, fun_mk (st := s_InvalidText___init__) lk_InvalidText cd_InvalidText kf_InvalidText⟩, kit_sub u_InvalidText_InvalidCommand se_InvalidText ic_InvalidCommand ty_InvalidCommand, kit_sub u_InvalidText_InvalidNumber se_InvalidText ic_InvalidNumber ty_InvalidNumber, kit_sub u_InvalidText_InvalidLevel se_InvalidText ic_InvalidLevel ty_InvalidLevel, kit_sub u_InvalidText_InvalidSetting se_InvalidText ic_InvalidSetting ty_InvalidSetting, kit_sub u_InvalidText_InvalidText se_InvalidText ic_InvalidText ty_InvalidText, kit_sub u_InvalidText_LastheldError se_InvalidText ic_LastheldError ty_LastheldError, ⟨PySem.W.mg_of X G a_InvalidFields, ⟨⟨_, _, _, _, _, _, _, _, _, _, _, _, _, _, _, x_InvalidFields, rfl⟩, sa_InvalidFields, ex_InvalidFields, tp_InvalidFields, kp_InvalidFields⟩, ⟨xa_InvalidFields, xg_InvalidFields, ex_InvalidFields, hd_InvalidFields⟩, ⟨xa_InvalidFields, xg_InvalidFields, ex_InvalidFields, hd_InvalidFields, ca_InvalidFields, occ1, occ2, mo_InvalidFields⟩, tp_InvalidFields, se_InvalidFields⟩, nf_InvalidFields, ⟨_, _, fn_InvalidFields, tf_InvalidFields, fun_mk (st := s_InvalidFields___init__) lk_InvalidFields cd_InvalidFields kf_InvalidFields⟩, kit_sub u_InvalidFields_InvalidCommand se_InvalidFields ic_InvalidCommand ty_InvalidCommand, kit_sub u_InvalidFields_InvalidNumber se_InvalidFields ic_InvalidNumber ty_InvalidNumber, kit_sub u_InvalidFields_InvalidLevel se_InvalidFields ic_InvalidLevel ty_InvalidLevel, kit_sub u_InvalidFields_InvalidSetting se_InvalidFields ic_InvalidSetting ty_InvalidSetting, kit_sub u_InvalidFields_InvalidText se_InvalidFields ic_InvalidText ty_InvalidText, kit_sub u_InvalidFields_LastheldError se_InvalidFields ic_LastheldError ty_LastheldError, ⟨PySem.W.mg_of X G a_InvalidSetting, ⟨⟨_, _, _, _, _, _, _, _, _, _, _, _, _, _, _, x_InvalidSetting, rfl⟩, sa_InvalidSetting, ex_InvalidSetting, tp_InvalidSetting, kp_InvalidSetting⟩, ⟨xa_InvalidSetting, xg_InvalidSetting, ex_InvalidSetting, hd_InvalidSetting⟩, ⟨xa_InvalidSetting, xg_InvalidSetting, ex_InvalidSetting, hd_InvalidSetting, ca_InvalidSetting, occ1, occ2, mo_InvalidSetting⟩, tp_InvalidSetting, se_InvalidSetting⟩, nf_InvalidSetting, ⟨_, _, fn_InvalidSetting, tf_InvalidSetting, fun_mk (st := s_InvalidSetting___init__) lk_InvalidSetting cd_InvalidSetting kf_InvalidSetting⟩, kit_sub u_InvalidSetting_InvalidCommand se_InvalidSetting ic_InvalidCommand ty_InvalidCommand, kit_sub u_InvalidSetting_InvalidNumber se_InvalidSetting ic_InvalidNumber ty_InvalidNumber, kit_sub u_InvalidSetting_InvalidLevel se_InvalidSetting ic_InvalidLevel ty_InvalidLevel, kit_sub u_InvalidSetting_InvalidSetting se_InvalidSetting ic_InvalidSetting ty_InvalidSetting, kit_sub u_InvalidSetting_InvalidText se_InvalidSetting ic_InvalidText ty_InvalidText, kit_sub u_InvalidSetting_LastheldError se_InvalidSetting ic_LastheldError ty_LastheldError, PySem.W.exm_ref ex_InvalidText hd_InvalidText tp_InvalidText w_InvalidNumber_InvalidText, PySem.W.exm_ref ex_InvalidSetting hd_InvalidSetting tp_InvalidSetting w_InvalidNumber_InvalidSetting, PySem.W.exm_ref ex_InvalidSetting hd_InvalidSetting tp_InvalidSetting w_InvalidText_InvalidSetting, PySem.W.exm_ref ex_InvalidText hd_InvalidText tp_InvalidText w_InvalidFields_InvalidText, PySem.W.exm_ref ex_InvalidSetting hd_InvalidSetting tp_InvalidSetting w_InvalidFields_InvalidSetting, PySem.W.exm_ref ex_InvalidText hd_InvalidText tp_InvalidText w_InvalidSetting_InvalidText, ⟨_, PySem.W.mg_of X G g_LETTERS⟩, ⟨_, PySem.W.mg_of X G g_MOST_LETTERS⟩, ⟨_, PySem.W.mg_of X G g_DIGITS⟩, ⟨_, PySem.W.mg_of X G g_PARTS⟩, ⟨_, PySem.W.mg_of X G g_MOST_LEVEL⟩, ⟨_, PySem.W.mg_of X G g_WORDS_OF_SETTING⟩⟩
  have F_is_integer := (fun_mk (st := s_is_integer) l1 c1 k1)
  have F_common_divisor := (fun_mk (st := s_common_divisor) l2 c2 k2)
  have F_is_number := (fun_mk (st := s_is_number) l3 c3 k3)
  have F_is_name := (fun_mk (st := s_is_name) l0 c0 k0)
  have F_is_level := (fun_mk (st := s_is_level) l10 c10 k10)
  have F_check_fields := (fun_mk (st := s_check_fields) l12 c12 k12)
  have F_is_setting := (fun_mk (st := s_is_setting) l11 c11 k11)
  have F_top_and_low := (fun_mk (st := s_top_and_low) l5 c5 k5)
  have F_check_numbers := (fun_mk (st := s_check_numbers) l4 c4 k4)
  have F_is_decimal := (fun_mk (st := s_is_decimal) l7 c7 k7)
  have F_parse_integer := (fun_mk (st := s_parse_integer) l8 c8 k8)
  have F_parse_number := (fun_mk (st := s_parse_number) l9 c9 k9)
  have F_number_text := (fun_mk (st := s_number_text) l6 c6 k6)
  have F_setting_text := (fun_mk (st := s_setting_text) l13 c13 k13)
  have F_count_of := (fun_mk (st := s_count_of) l14 c14 k14)
  have F_value_of := (fun_mk (st := s_value_of) l15 c15 k15)
  have F_setting_of := (fun_mk (st := s_setting_of) l16 c16 k16)
  have F_parse_setting := (fun_mk (st := s_parse_setting) l17 c17 k17)
  have F_l_pot := (fun_mk (st := s_l_pot) l18 c18 k18)
  have F_l_draw := (fun_mk (st := s_l_draw) l19 c19 k19)
  have F_l_common := (fun_mk (st := s_l_common) l22 c22 k22)
  have F_l_ratio := (fun_mk (st := s_l_ratio) l23 c23 k23)
  have F_l_worth := (fun_mk (st := s_l_worth) l24 c24 k24)
  have F_l_word := (fun_mk (st := s_l_word) l20 c20 k20)
  have F_l_words := (fun_mk (st := s_l_words) l21 c21 k21)
  have F_l_told := (fun_mk (st := s_l_told) l25 c25 k25)
  have F_l_is_digits := (fun_mk (st := s_l_is_digits) l26 c26 k26)
  have F_l_ratio_note := (fun_mk (st := s_l_ratio_note) l27 c27 k27)
  have F_l_ratio_in := (fun_mk (st := s_l_ratio_in) l28 c28 k28)
  have F_l_is_word := (fun_mk (st := s_l_is_word) l29 c29 k29)
  have F_l_row_note := (fun_mk (st := s_l_row_note) l30 c30 k30)
  have F_l_row_in := (fun_mk (st := s_l_row_in) l31 c31 k31)
  have F_l_is_short := (fun_mk (st := s_l_is_short) l32 c32 k32)
  have F_l_bent := (fun_mk (st := s_l_bent) l33 c33 k33)
  have F_l_met := (fun_mk (st := s_l_met) l34 c34 k34)
  have F_l_spoilt := (fun_mk (st := s_l_spoilt) l35 c35 k35)
  have F_l_odd_rows := (fun_mk (st := s_l_odd_rows) l36 c36 k36)
  have F_l_is_row := (fun_mk (st := s_l_is_row) l37 c37 k37)
  have F_l_one_right := (fun_mk (st := s_l_one_right) l38 c38 k38)
  refine ⟨(PySem.W.fnOf "law" "law" (defArgs s_law) (defBody s_law) (defScope s_law) .none kV39 dc39 pm39 an39 cd39 ct39), fun s v => .of_eq rfl, fun base _ _ => ?_⟩
  have R_InvalidNumber := ok_InvalidNumber___init__ (P := l.prog) (w := w) (base := base) T
  have R_InvalidText := ok_InvalidText___init__ (P := l.prog) (w := w) (base := base) T
  have R_InvalidFields := ok_InvalidFields___init__ (P := l.prog) (w := w) (base := base) T
  have R_InvalidSetting := ok_InvalidSetting___init__ (P := l.prog) (w := w) (base := base) T
  have D_is_integer := Df.mk ⟨_, _, (ok_is_integer (P := l.prog) (w := w) (base := base) F_is_integer T), (PySem.W.mg_of X G a1), k1, F_is_integer.binds fun _ _ _ _ _ _ us hl => match us, hl with | [_], _ => rfl⟩
  have D_common_divisor := Df.mk ⟨_, _, (ok_common_divisor (P := l.prog) (w := w) (base := base) F_common_divisor T), (PySem.W.mg_of X G a2), k2, F_common_divisor.binds fun _ _ _ _ _ _ us hl => match us, hl with | [_, _], _ => rfl⟩
  have D_is_number := Df.mk ⟨_, _, (ok_is_number (P := l.prog) (w := w) (base := base) F_is_number T D_is_integer D_common_divisor), (PySem.W.mg_of X G a3), k3, F_is_number.binds fun _ _ _ _ _ _ us hl => match us, hl with | [_], _ => rfl⟩
  have D_is_name := Df.mk ⟨_, _, (ok_is_name (P := l.prog) (w := w) (base := base) F_is_name T), (PySem.W.mg_of X G a0), k0, F_is_name.binds fun _ _ _ _ _ _ us hl => match us, hl with | [_], _ => rfl⟩
  have D_is_level := Df.mk ⟨_, _, (ok_is_level (P := l.prog) (w := w) (base := base) F_is_level T D_is_integer), (PySem.W.mg_of X G a10), k10, F_is_level.binds fun _ _ _ _ _ _ us hl => match us, hl with | [_], _ => rfl⟩
  have M_Sheet_has_field : MtG l.prog w K mg base CX0 1 _ "has_field" _ [] _ := ⟨(by
    obtain ⟨f, fd, hm, F⟩ := T.me_Sheet_has_field
    exact ⟨f, fd, ok_Sheet_has_field F T, hm, [], .nil, F.binds fun _ _ _ _ _ _ us hl => match us, hl with | [_, _], _ => rfl⟩)⟩
  have D_check_fields := Df.mk ⟨_, _, (ok_check_fields (P := l.prog) (w := w) (base := base) F_check_fields T D_is_name R_InvalidFields), (PySem.W.mg_of X G a12), k12, F_check_fields.binds fun _ _ _ _ _ _ us hl => match us, hl with | [_], _ => rfl⟩
  have MK_Sheet : MMk l.prog w K mg base _ := ⟨T.g_Sheet, (by
    obtain ⟨f, fd, hm, F⟩ := T.mk_Sheet
    exact ⟨f, fd, ok_Sheet___init__ F T D_check_fields, hm, [], .nil, F.binds fun _ _ _ _ _ _ us hl => match us, hl with | [_, _], _ => rfl⟩)⟩
  have D_is_setting := Df.mk ⟨_, _, (ok_is_setting (P := l.prog) (w := w) (base := base) F_is_setting T D_is_integer D_is_level D_is_name D_is_number M_Sheet_has_field), (PySem.W.mg_of X G a11), k11, F_is_setting.binds fun _ _ _ _ _ _ us hl => match us, hl with | [_, _], _ => rfl⟩
  have D_top_and_low := Df.mk ⟨_, _, (ok_top_and_low (P := l.prog) (w := w) (base := base) F_top_and_low T), (PySem.W.mg_of X G a5), k5, F_top_and_low.binds fun _ _ _ _ _ _ us hl => match us, hl with | [_], _ => rfl⟩
  have D_check_numbers := Df.mk ⟨_, _, (ok_check_numbers (P := l.prog) (w := w) (base := base) F_check_numbers T D_is_number R_InvalidNumber), (PySem.W.mg_of X G a4), k4, F_check_numbers.binds fun _ _ _ _ _ _ us hl => match us, hl with | [_], _ => rfl⟩
  have D_is_decimal := Df.mk ⟨_, _, (ok_is_decimal (P := l.prog) (w := w) (base := base) F_is_decimal T), (PySem.W.mg_of X G a7), k7, F_is_decimal.binds fun _ _ _ _ _ _ us hl => match us, hl with | [_], _ => rfl⟩
  have D_parse_integer := Df.mk ⟨_, _, (ok_parse_integer (P := l.prog) (w := w) (base := base) F_parse_integer T D_is_decimal), (PySem.W.mg_of X G a8), k8, F_parse_integer.binds fun _ _ _ _ _ _ us hl => match us, hl with | [_], _ => rfl⟩
  have D_parse_number := DfX.mk (dvs := []) ⟨_, _, (ok_parse_number (P := l.prog) (w := w) (base := base) F_parse_number T D_is_number D_is_decimal D_parse_integer), (PySem.W.mg_of X G a9), k9, [], .nil, F_parse_number.binds fun _ _ _ _ _ _ us hl => match us, hl with | [_], _ => rfl⟩
  have D_number_text := Df.mk ⟨_, _, (ok_number_text (P := l.prog) (w := w) (base := base) F_number_text T D_check_numbers D_top_and_low), (PySem.W.mg_of X G a6), k6, F_number_text.binds fun _ _ _ _ _ _ us hl => match us, hl with | [_], _ => rfl⟩
  have D_setting_text := DfX.mk (dvs := []) ⟨_, _, (ok_setting_text (P := l.prog) (w := w) (base := base) F_setting_text T D_is_setting D_number_text R_InvalidSetting), (PySem.W.mg_of X G a13), k13, [], .nil, F_setting_text.binds fun _ _ _ _ _ _ us hl => match us, hl with | [_, _], _ => rfl⟩
  have D_count_of := Df.mk ⟨_, _, (ok_count_of (P := l.prog) (w := w) (base := base) F_count_of T D_parse_number D_is_integer), (PySem.W.mg_of X G a14), k14, F_count_of.binds fun _ _ _ _ _ _ us hl => match us, hl with | [_], _ => rfl⟩
  have D_value_of := Df.mk ⟨_, _, (ok_value_of (P := l.prog) (w := w) (base := base) F_value_of T D_parse_number), (PySem.W.mg_of X G a15), k15, F_value_of.binds fun _ _ _ _ _ _ us hl => match us, hl with | [_], _ => rfl⟩
  have D_setting_of := Df.mk ⟨_, _, (ok_setting_of (P := l.prog) (w := w) (base := base) F_setting_of T D_count_of D_value_of D_is_setting), (PySem.W.mg_of X G a16), k16, F_setting_of.binds fun _ _ _ _ _ _ us hl => match us, hl with | [_, _], _ => rfl⟩
  have D_parse_setting := DfX.mk (dvs := []) ⟨_, _, (ok_parse_setting (P := l.prog) (w := w) (base := base) F_parse_setting T D_setting_of R_InvalidText), (PySem.W.mg_of X G a17), k17, [], .nil, F_parse_setting.binds fun _ _ _ _ _ _ us hl => match us, hl with | [_, _], _ => rfl⟩
  have D_l_pot := Df.mk ⟨_, _, (ok_l_pot (P := l.prog) (w := w) (base := base) F_l_pot T), (PySem.W.mg_of X G a18), k18, F_l_pot.binds fun _ _ _ _ _ _ us hl => match us, hl with | [_, _], _ => rfl⟩
  have D_l_draw := Df.mk ⟨_, _, (ok_l_draw (P := l.prog) (w := w) (base := base) F_l_draw T), (PySem.W.mg_of X G a19), k19, F_l_draw.binds fun _ _ _ _ _ _ us hl => match us, hl with | [_, _], _ => rfl⟩
  have D_l_common := Df.mk ⟨_, _, (ok_l_common (P := l.prog) (w := w) (base := base) F_l_common T), (PySem.W.mg_of X G a22), k22, F_l_common.binds fun _ _ _ _ _ _ us hl => match us, hl with | [_, _], _ => rfl⟩
  have D_l_ratio := Df.mk ⟨_, _, (ok_l_ratio (P := l.prog) (w := w) (base := base) F_l_ratio T D_l_common), (PySem.W.mg_of X G a23), k23, F_l_ratio.binds fun _ _ _ _ _ _ us hl => match us, hl with | [_, _], _ => rfl⟩
  have D_l_worth := Df.mk ⟨_, _, (ok_l_worth (P := l.prog) (w := w) (base := base) F_l_worth T D_l_draw D_l_ratio), (PySem.W.mg_of X G a24), k24, F_l_worth.binds fun _ _ _ _ _ _ us hl => match us, hl with | [_], _ => rfl⟩
  have D_l_word := Df.mk ⟨_, _, (ok_l_word (P := l.prog) (w := w) (base := base) F_l_word T D_l_draw), (PySem.W.mg_of X G a20), k20, F_l_word.binds fun _ _ _ _ _ _ us hl => match us, hl with | [_, _], _ => rfl⟩
  have D_l_words := Df.mk ⟨_, _, (ok_l_words (P := l.prog) (w := w) (base := base) F_l_words T D_l_word), (PySem.W.mg_of X G a21), k21, F_l_words.binds fun _ _ _ _ _ _ us hl => match us, hl with | [_, _], _ => rfl⟩
  have D_l_told := Df.mk ⟨_, _, (ok_l_told (P := l.prog) (w := w) (base := base) F_l_told T D_l_draw D_l_worth), (PySem.W.mg_of X G a25), k25, F_l_told.binds fun _ _ _ _ _ _ us hl => match us, hl with | [_, _, _, _], _ => rfl⟩
  have D_l_is_digits := Df.mk ⟨_, _, (ok_l_is_digits (P := l.prog) (w := w) (base := base) F_l_is_digits T), (PySem.W.mg_of X G a26), k26, F_l_is_digits.binds fun _ _ _ _ _ _ us hl => match us, hl with | [_], _ => rfl⟩
  have D_l_ratio_note := Df.mk ⟨_, _, (ok_l_ratio_note (P := l.prog) (w := w) (base := base) F_l_ratio_note T), (PySem.W.mg_of X G a27), k27, F_l_ratio_note.binds fun _ _ _ _ _ _ us hl => match us, hl with | [_], _ => rfl⟩
  have D_l_ratio_in := Df.mk ⟨_, _, (ok_l_ratio_in (P := l.prog) (w := w) (base := base) F_l_ratio_in T D_l_is_digits D_l_common), (PySem.W.mg_of X G a28), k28, F_l_ratio_in.binds fun _ _ _ _ _ _ us hl => match us, hl with | [_], _ => rfl⟩
  have D_l_is_word := Df.mk ⟨_, _, (ok_l_is_word (P := l.prog) (w := w) (base := base) F_l_is_word T), (PySem.W.mg_of X G a29), k29, F_l_is_word.binds fun _ _ _ _ _ _ us hl => match us, hl with | [_], _ => rfl⟩
  have D_l_row_note := Df.mk ⟨_, _, (ok_l_row_note (P := l.prog) (w := w) (base := base) F_l_row_note T D_l_ratio_note), (PySem.W.mg_of X G a30), k30, F_l_row_note.binds fun _ _ _ _ _ _ us hl => match us, hl with | [_], _ => rfl⟩
  have D_l_row_in := Df.mk ⟨_, _, (ok_l_row_in (P := l.prog) (w := w) (base := base) F_l_row_in T D_l_is_digits D_l_ratio_in D_l_is_word), (PySem.W.mg_of X G a31), k31, F_l_row_in.binds fun _ _ _ _ _ _ us hl => match us, hl with | [_, _], _ => rfl⟩
  have D_l_is_short := Df.mk ⟨_, _, (ok_l_is_short (P := l.prog) (w := w) (base := base) F_l_is_short T), (PySem.W.mg_of X G a32), k32, F_l_is_short.binds fun _ _ _ _ _ _ us hl => match us, hl with | [_], _ => rfl⟩
  have D_l_bent := Df.mk ⟨_, _, (ok_l_bent (P := l.prog) (w := w) (base := base) F_l_bent T D_l_draw), (PySem.W.mg_of X G a33), k33, F_l_bent.binds fun _ _ _ _ _ _ us hl => match us, hl with | [_, _], _ => rfl⟩
  have D_l_met := Df.mk ⟨_, _, (ok_l_met (P := l.prog) (w := w) (base := base) F_l_met T D_parse_setting D_setting_text), (PySem.W.mg_of X G a34), k34, F_l_met.binds fun _ _ _ _ _ _ us hl => match us, hl with | [_, _, _], _ => rfl⟩
  have D_l_spoilt := Df.mk ⟨_, _, (ok_l_spoilt (P := l.prog) (w := w) (base := base) F_l_spoilt T D_l_draw D_l_bent), (PySem.W.mg_of X G a35), k35, F_l_spoilt.binds fun _ _ _ _ _ _ us hl => match us, hl with | [_, _], _ => rfl⟩
  have D_l_odd_rows := Df.mk ⟨_, _, (ok_l_odd_rows (P := l.prog) (w := w) (base := base) F_l_odd_rows T D_l_draw D_l_row_note), (PySem.W.mg_of X G a36), k36, F_l_odd_rows.binds fun _ _ _ _ _ _ us hl => match us, hl with | [_, _, _], _ => rfl⟩
  have D_l_is_row := Df.mk ⟨_, _, (ok_l_is_row (P := l.prog) (w := w) (base := base) F_l_is_row T D_l_ratio), (PySem.W.mg_of X G a37), k37, F_l_is_row.binds fun _ _ _ _ _ _ us hl => match us, hl with | [_, _], _ => rfl⟩
  have D_l_one_right := Df.mk ⟨_, _, (ok_l_one_right (P := l.prog) (w := w) (base := base) F_l_one_right T D_l_row_note D_l_met D_l_spoilt D_l_row_in D_l_is_short D_l_odd_rows D_l_is_row), (PySem.W.mg_of X G a38), k38, F_l_one_right.binds fun _ _ _ _ _ _ us hl => match us, hl with | [_, _, _, _], _ => rfl⟩
  exact ok_law (fun_mk (st := s_law) l39 c39 k39) T D_l_pot D_l_draw D_l_words MK_Sheet D_l_told D_l_one_right
theorem walk {l : PySem.W.OpenLaw} {q : Program} {loose : List Str} {XP : (Str → Option Value) → Heap → Prop} {YP : World → Heap → Prop} {d : DefRec} {K : Params → PySem.W.Frag} (hn : l.most = some 63) (hdf : d.params.defaults = [])
    (hY : ∀ (w : World) (h : Heap), YP w h → (K w.params).In h)
    (F : ∀ (w : World) (mg : Str → Option Value) (fa : Addr) (h : Heap), (K w.params).In h → h.Ns mainGlobals mg → mg d.name = some (.ref fa) →
      ∃ fd : FuncData, (∀ (s : Shared) (u : Value), BindsTo s fd ⟨[u], []⟩ [("_law_script", u)]) ∧ ∀ base : Heap, (K w.params).In base → base.Ns mainGlobals mg → FnG l.prog w (K w.params) mg base CX0 9 fa fd ["_law_script"] (spLaw (K w.params))) :
    PySem.W.WalkO q loose XP YP l.row.toRowW d [] (fun f vs => PySem.call f vs) :=
  walk_ofG (n := 63) (k := 9) (x := "_law_script") (CX := fun _ => CX0) (sp := fun w => spLaw (K w.params)) hn (by decide) hdf ⟨rfl, by decide, by decide⟩ hY F (fun _ _ a ns hl _ hS => ⟨a, ns, rfl, hS, hl, fun _ => rfl⟩) fun _ _ _ _ _ z => z
end K91

open PySem PySem.W PyProof.Rows in
set_option maxRecDepth 100000 in
set_option maxHeartbeats 0 in
theorem PySem.Challenge.cw_lastheld_k91_texts_of_settings_holds : PySem.Challenge.rw_lastheld_k91_texts_of_settings.Holds := by
  w_on; o_law; k_head; (case hw => w_witness2)
  k_fill
  refine K91.walk (l := PySem.Challenge.rw_lastheld_k91_texts_of_settings) rfl rfl (fun w h Y => PySem.W.kIn_of Y) ?F
  case F =>
    intro w mg fa h KX G hmg0
    have hmg : mg "law" = some (.ref fa) := hmg0
    clear hmg0
    refine' K91.all_mk KX G hmg ?a_LastheldError ?a_InvalidNumber ?a_InvalidLevel ?a_InvalidFields ?a_InvalidSetting ?a_InvalidText ?a_InvalidCommand ?a_Sheet ?rd_LastheldError ?ga_LastheldError ?it_LastheldError ?pg_Sheet ?hd_Sheet ?po_Sheet ?sa_Sheet ?ca_Sheet ?mo_Sheet ?ic_Sheet ?ty_Sheet ?kp_Sheet ?rd_Sheet ?ga_Sheet ?mk_Sheet ?se_Sheet ?cv_Sheet_MAX_FIELDS ?na_Sheet_own_fields ?na_Sheet_own_places ?fa_Sheet___init__ ?is_Sheet___init__ ?lk_Sheet___init__ ?cd_Sheet___init__ ?kf_Sheet___init__ ?fa_Sheet_has_field ?is_Sheet_has_field ?lk_Sheet_has_field ?cd_Sheet_has_field ?kf_Sheet_has_field ?occ1 ?occ2 ?ic_InvalidCommand ?ty_InvalidCommand ?ic_InvalidNumber ?ty_InvalidNumber ?ic_InvalidLevel ?ty_InvalidLevel ?ic_InvalidSetting ?ty_InvalidSetting ?ic_InvalidText ?ty_InvalidText ?ic_LastheldError ?ty_LastheldError ?x_InvalidNumber ?sa_InvalidNumber ?xa_InvalidNumber ?xg_InvalidNumber ?ex_InvalidNumber ?tp_InvalidNumber ?kp_InvalidNumber ?hd_InvalidNumber ?ca_InvalidNumber ?mo_InvalidNumber ?se_InvalidNumber ?nf_InvalidNumber ?fn_InvalidNumber ?tf_InvalidNumber ?lk_InvalidNumber ?cd_InvalidNumber ?kf_InvalidNumber ?u_InvalidNumber_InvalidCommand ?u_InvalidNumber_InvalidNumber ?u_InvalidNumber_InvalidLevel ?u_InvalidNumber_InvalidSetting ?u_InvalidNumber_InvalidText ?u_InvalidNumber_LastheldError ?x_InvalidText ?sa_InvalidText ?xa_InvalidText ?xg_InvalidText ?ex_InvalidText ?tp_InvalidText ?kp_InvalidText ?hd_InvalidText ?ca_InvalidText ?mo_InvalidText ?se_InvalidText ?nf_InvalidText ?fn_InvalidText ?tf_InvalidText ?lk_InvalidText ?cd_InvalidText ?kf_InvalidText ?u_InvalidText_InvalidCommand ?u_InvalidText_InvalidNumber ?u_InvalidText_InvalidLevel ?u_InvalidText_InvalidSetting ?u_InvalidText_InvalidText ?u_InvalidText_LastheldError ?x_InvalidFields ?sa_InvalidFields ?xa_InvalidFields ?xg_InvalidFields ?ex_InvalidFields ?tp_InvalidFields ?kp_InvalidFields ?hd_InvalidFields ?ca_InvalidFields ?mo_InvalidFields ?se_InvalidFields ?nf_InvalidFields ?fn_InvalidFields ?tf_InvalidFields ?lk_InvalidFields ?cd_InvalidFields ?kf_InvalidFields ?u_InvalidFields_InvalidCommand ?u_InvalidFields_InvalidNumber ?u_InvalidFields_InvalidLevel ?u_InvalidFields_InvalidSetting ?u_InvalidFields_InvalidText ?u_InvalidFields_LastheldError ?x_InvalidSetting ?sa_InvalidSetting ?xa_InvalidSetting ?xg_InvalidSetting ?ex_InvalidSetting ?tp_InvalidSetting ?kp_InvalidSetting ?hd_InvalidSetting ?ca_InvalidSetting ?mo_InvalidSetting ?se_InvalidSetting ?nf_InvalidSetting ?fn_InvalidSetting ?tf_InvalidSetting ?lk_InvalidSetting ?cd_InvalidSetting ?kf_InvalidSetting ?u_InvalidSetting_InvalidCommand ?u_InvalidSetting_InvalidNumber ?u_InvalidSetting_InvalidLevel ?u_InvalidSetting_InvalidSetting ?u_InvalidSetting_InvalidText ?u_InvalidSetting_LastheldError ?w_InvalidNumber_InvalidText ?w_InvalidNumber_InvalidSetting ?w_InvalidText_InvalidSetting ?w_InvalidFields_InvalidText ?w_InvalidFields_InvalidSetting ?w_InvalidSetting_InvalidText ?a0 ?l0 ?c0 ?k0 ?a1 ?l1 ?c1 ?k1 ?a2 ?l2 ?c2 ?k2 ?a3 ?l3 ?c3 ?k3 ?a4 ?l4 ?c4 ?k4 ?a5 ?l5 ?c5 ?k5 ?a6 ?l6 ?c6 ?k6 ?a7 ?l7 ?c7 ?k7 ?a8 ?l8 ?c8 ?k8 ?a9 ?l9 ?c9 ?k9 ?a10 ?l10 ?c10 ?k10 ?a11 ?l11 ?c11 ?k11 ?a12 ?l12 ?c12 ?k12 ?a13 ?l13 ?c13 ?k13 ?a14 ?l14 ?c14 ?k14 ?a15 ?l15 ?c15 ?k15 ?a16 ?l16 ?c16 ?k16 ?a17 ?l17 ?c17 ?k17 ?a18 ?l18 ?c18 ?k18 ?a19 ?l19 ?c19 ?k19 ?a20 ?l20 ?c20 ?k20 ?a21 ?l21 ?c21 ?k21 ?a22 ?l22 ?c22 ?k22 ?a23 ?l23 ?c23 ?k23 ?a24 ?l24 ?c24 ?k24 ?a25 ?l25 ?c25 ?k25 ?a26 ?l26 ?c26 ?k26 ?a27 ?l27 ?c27 ?k27 ?a28 ?l28 ?c28 ?k28 ?a29 ?l29 ?c29 ?k29 ?a30 ?l30 ?c30 ?k30 ?a31 ?l31 ?c31 ?k31 ?a32 ?l32 ?c32 ?k32 ?a33 ?l33 ?c33 ?k33 ?a34 ?l34 ?c34 ?k34 ?a35 ?l35 ?c35 ?k35 ?a36 ?l36 ?c36 ?k36 ?a37 ?l37 ?c37 ?k37 ?a38 ?l38 ?c38 ?k38 ?a39 ?l39 ?c39 ?k39 ?b_abs ?b_all ?b_bool ?b_divmod ?b_enumerate ?b_int ?b_isinstance ?b_len ?b_list ?b_max ?b_min ?b_range ?b_repr ?b_str ?b_tuple ?g_LETTERS ?g_MOST_LETTERS ?g_DIGITS ?g_PARTS ?g_MOST_LEVEL ?g_WORDS_OF_SETTING
    (case a_LastheldError => k_is)
    (case a_InvalidNumber => k_is)
    (case a_InvalidLevel => k_is)
    (case a_InvalidFields => k_is)
    (case a_InvalidSetting => k_is)
    (case a_InvalidText => k_is)
    (case a_InvalidCommand => k_is)
    (case a_Sheet => k_is)
    (case rd_LastheldError => k_is)
    (case ga_LastheldError => k_is)
    (case it_LastheldError => k_is)
    (case pg_Sheet => k_is)
    (case hd_Sheet => k_is)
    (case po_Sheet => k_is)
    (case sa_Sheet => k_is)
    (case ca_Sheet => k_is)
    (case mo_Sheet => k_is)
    (case ic_Sheet => k_is)
    (case ty_Sheet => k_is)
    (case kp_Sheet => k_is)
    (case rd_Sheet => k_is)
    (case ga_Sheet => k_is)
    (case mk_Sheet => k_is)
    (case se_Sheet => k_is)
    (case cv_Sheet_MAX_FIELDS => k_is)
    (case na_Sheet_own_fields => k_is)
    (case na_Sheet_own_places => k_is)
    (case fa_Sheet___init__ => k_is)
    (case is_Sheet___init__ => k_is)
    (case lk_Sheet___init__ => k_is)
    (case cd_Sheet___init__ => k_is)
    (case kf_Sheet___init__ => k_is)
    (case fa_Sheet_has_field => k_is)
    (case is_Sheet_has_field => k_is)
    (case lk_Sheet_has_field => k_is)
    (case cd_Sheet_has_field => k_is)
    (case kf_Sheet_has_field => k_is)
    (case occ1 => k_is)
    (case occ2 => k_is)
    (case ic_InvalidCommand => k_is)
    (case ty_InvalidCommand => k_is)
    (case ic_InvalidNumber => k_is)
    (case ty_InvalidNumber => k_is)
    (case ic_InvalidLevel => k_is)
    (case ty_InvalidLevel => k_is)
    (case ic_InvalidSetting => k_is)
    (case ty_InvalidSetting => k_is)
    (case ic_InvalidText => k_is)
    (case ty_InvalidText => k_is)
    (case ic_LastheldError => k_is)
    (case ty_LastheldError => k_is)
    (case x_InvalidNumber => k_is)
    (case sa_InvalidNumber => k_is)
    (case xa_InvalidNumber => k_is)
    (case xg_InvalidNumber => k_is)
    (case ex_InvalidNumber => k_is)
    (case tp_InvalidNumber => k_is)
    (case kp_InvalidNumber => k_is)
    (case hd_InvalidNumber => k_is)
    (case ca_InvalidNumber => k_is)
    (case mo_InvalidNumber => k_is)
    (case se_InvalidNumber => k_is)
    (case nf_InvalidNumber => k_is)
    (case fn_InvalidNumber => k_is)
    (case tf_InvalidNumber => k_is)
    (case lk_InvalidNumber => k_is)
    (case cd_InvalidNumber => k_is)
    (case kf_InvalidNumber => k_is)
    (case u_InvalidNumber_InvalidCommand => k_is)
    (case u_InvalidNumber_InvalidNumber => k_is)
    (case u_InvalidNumber_InvalidLevel => k_is)
    (case u_InvalidNumber_InvalidSetting => k_is)
    (case u_InvalidNumber_InvalidText => k_is)
    (case u_InvalidNumber_LastheldError => k_is)
    (case x_InvalidText => k_is)
    (case sa_InvalidText => k_is)
    (case xa_InvalidText => k_is)
    (case xg_InvalidText => k_is)
    (case ex_InvalidText => k_is)
    (case tp_InvalidText => k_is)
    (case kp_InvalidText => k_is)
    (case hd_InvalidText => k_is)
    (case ca_InvalidText => k_is)
    (case mo_InvalidText => k_is)
    (case se_InvalidText => k_is)
    (case nf_InvalidText => k_is)
    (case fn_InvalidText => k_is)
    (case tf_InvalidText => k_is)
    (case lk_InvalidText => k_is)
    (case cd_InvalidText => k_is)
    (case kf_InvalidText => k_is)
    (case u_InvalidText_InvalidCommand => k_is)
    (case u_InvalidText_InvalidNumber => k_is)
    (case u_InvalidText_InvalidLevel => k_is)
    (case u_InvalidText_InvalidSetting => k_is)
    (case u_InvalidText_InvalidText => k_is)
    (case u_InvalidText_LastheldError => k_is)
    (case x_InvalidFields => k_is)
    (case sa_InvalidFields => k_is)
    (case xa_InvalidFields => k_is)
    (case xg_InvalidFields => k_is)
    (case ex_InvalidFields => k_is)
    (case tp_InvalidFields => k_is)
    (case kp_InvalidFields => k_is)
    (case hd_InvalidFields => k_is)
    (case ca_InvalidFields => k_is)
    (case mo_InvalidFields => k_is)
    (case se_InvalidFields => k_is)
    (case nf_InvalidFields => k_is)
    (case fn_InvalidFields => k_is)
    (case tf_InvalidFields => k_is)
    (case lk_InvalidFields => k_is)
    (case cd_InvalidFields => k_is)
    (case kf_InvalidFields => k_is)
    (case u_InvalidFields_InvalidCommand => k_is)
    (case u_InvalidFields_InvalidNumber => k_is)
    (case u_InvalidFields_InvalidLevel => k_is)
    (case u_InvalidFields_InvalidSetting => k_is)
    (case u_InvalidFields_InvalidText => k_is)
    (case u_InvalidFields_LastheldError => k_is)
    (case x_InvalidSetting => k_is)
    (case sa_InvalidSetting => k_is)
    (case xa_InvalidSetting => k_is)
    (case xg_InvalidSetting => k_is)
    (case ex_InvalidSetting => k_is)
    (case tp_InvalidSetting => k_is)
    (case kp_InvalidSetting => k_is)
    (case hd_InvalidSetting => k_is)
    (case ca_InvalidSetting => k_is)
    (case mo_InvalidSetting => k_is)
    (case se_InvalidSetting => k_is)
    (case nf_InvalidSetting => k_is)
    (case fn_InvalidSetting => k_is)
    (case tf_InvalidSetting => k_is)
    (case lk_InvalidSetting => k_is)
    (case cd_InvalidSetting => k_is)
    (case kf_InvalidSetting => k_is)
    (case u_InvalidSetting_InvalidCommand => k_is)
    (case u_InvalidSetting_InvalidNumber => k_is)
    (case u_InvalidSetting_InvalidLevel => k_is)
    (case u_InvalidSetting_InvalidSetting => k_is)
    (case u_InvalidSetting_InvalidText => k_is)
    (case u_InvalidSetting_LastheldError => k_is)
    (case w_InvalidNumber_InvalidText => k_is)
    (case w_InvalidNumber_InvalidSetting => k_is)
    (case w_InvalidText_InvalidSetting => k_is)
    (case w_InvalidFields_InvalidText => k_is)
    (case w_InvalidFields_InvalidSetting => k_is)
    (case w_InvalidSetting_InvalidText => k_is)
    (case a0 => k_is)
    (case l0 => k_is)
    (case c0 => k_is)
    (case k0 => k_is)
    (case a1 => k_is)
    (case l1 => k_is)
    (case c1 => k_is)
    (case k1 => k_is)
    (case a2 => k_is)
    (case l2 => k_is)
    (case c2 => k_is)
    (case k2 => k_is)
    (case a3 => k_is)
    (case l3 => k_is)
    (case c3 => k_is)
    (case k3 => k_is)
    (case a4 => k_is)
    (case l4 => k_is)
    (case c4 => k_is)
    (case k4 => k_is)
    (case a5 => k_is)
    (case l5 => k_is)
    (case c5 => k_is)
    (case k5 => k_is)
    (case a6 => k_is)
    (case l6 => k_is)
    (case c6 => k_is)
    (case k6 => k_is)
    (case a7 => k_is)
    (case l7 => k_is)
    (case c7 => k_is)
    (case k7 => k_is)
    (case a8 => k_is)
    (case l8 => k_is)
    (case c8 => k_is)
    (case k8 => k_is)
    (case a9 => k_is)
    (case l9 => k_is)
    (case c9 => k_is)
    (case k9 => k_is)
    (case a10 => k_is)
    (case l10 => k_is)
    (case c10 => k_is)
    (case k10 => k_is)
    (case a11 => k_is)
    (case l11 => k_is)
    (case c11 => k_is)
    (case k11 => k_is)
    (case a12 => k_is)
    (case l12 => k_is)
    (case c12 => k_is)
    (case k12 => k_is)
    (case a13 => k_is)
    (case l13 => k_is)
    (case c13 => k_is)
    (case k13 => k_is)
    (case a14 => k_is)
    (case l14 => k_is)
    (case c14 => k_is)
    (case k14 => k_is)
    (case a15 => k_is)
    (case l15 => k_is)
    (case c15 => k_is)
    (case k15 => k_is)
    (case a16 => k_is)
    (case l16 => k_is)
    (case c16 => k_is)
    (case k16 => k_is)
    (case a17 => k_is)
    (case l17 => k_is)
    (case c17 => k_is)
    (case k17 => k_is)
    (case a18 => k_is)
    (case l18 => k_is)
    (case c18 => k_is)
    (case k18 => k_is)
    (case a19 => k_is)
    (case l19 => k_is)
    (case c19 => k_is)
    (case k19 => k_is)
    (case a20 => k_is)
    (case l20 => k_is)
    (case c20 => k_is)
    (case k20 => k_is)
    (case a21 => k_is)
    (case l21 => k_is)
    (case c21 => k_is)
    (case k21 => k_is)
    (case a22 => k_is)
    (case l22 => k_is)
    (case c22 => k_is)
    (case k22 => k_is)
    (case a23 => k_is)
    (case l23 => k_is)
    (case c23 => k_is)
    (case k23 => k_is)
    (case a24 => k_is)
    (case l24 => k_is)
    (case c24 => k_is)
    (case k24 => k_is)
    (case a25 => k_is)
    (case l25 => k_is)
    (case c25 => k_is)
    (case k25 => k_is)
    (case a26 => k_is)
    (case l26 => k_is)
    (case c26 => k_is)
    (case k26 => k_is)
    (case a27 => k_is)
    (case l27 => k_is)
    (case c27 => k_is)
    (case k27 => k_is)
    (case a28 => k_is)
    (case l28 => k_is)
    (case c28 => k_is)
    (case k28 => k_is)
    (case a29 => k_is)
    (case l29 => k_is)
    (case c29 => k_is)
    (case k29 => k_is)
    (case a30 => k_is)
    (case l30 => k_is)
    (case c30 => k_is)
    (case k30 => k_is)
    (case a31 => k_is)
    (case l31 => k_is)
    (case c31 => k_is)
    (case k31 => k_is)
    (case a32 => k_is)
    (case l32 => k_is)
    (case c32 => k_is)
    (case k32 => k_is)
    (case a33 => k_is)
    (case l33 => k_is)
    (case c33 => k_is)
    (case k33 => k_is)
    (case a34 => k_is)
    (case l34 => k_is)
    (case c34 => k_is)
    (case k34 => k_is)
    (case a35 => k_is)
    (case l35 => k_is)
    (case c35 => k_is)
    (case k35 => k_is)
    (case a36 => k_is)
    (case l36 => k_is)
    (case c36 => k_is)
    (case k36 => k_is)
    (case a37 => k_is)
    (case l37 => k_is)
    (case c37 => k_is)
    (case k37 => k_is)
    (case a38 => k_is)
    (case l38 => k_is)
    (case c38 => k_is)
    (case k38 => k_is)
    (case a39 => k_is)
    (case l39 => k_is)
    (case c39 => k_is)
    (case k39 => k_is)
    (case b_abs => k_is)
    (case b_all => k_is)
    (case b_bool => k_is)
    (case b_divmod => k_is)
    (case b_enumerate => k_is)
    (case b_int => k_is)
    (case b_isinstance => k_is)
    (case b_len => k_is)
    (case b_list => k_is)
    (case b_max => k_is)
    (case b_min => k_is)
    (case b_range => k_is)
    (case b_repr => k_is)
    (case b_str => k_is)
    (case b_tuple => k_is)
    (case g_LETTERS => k_is)
    (case g_MOST_LETTERS => k_is)
    (case g_DIGITS => k_is)
    (case g_PARTS => k_is)
    (case g_MOST_LEVEL => k_is)
    (case g_WORDS_OF_SETTING => k_is)
