import PyProof.Rows.All
import Wide.All
import OpenK.AllK
import Wide.FinOn
import HandS.ForMost
import HandS.IsInst
import HandS.WideBits
import HandS.Walk
import PyProof.ReprRoads
import PyProof.ReprText
import HandS.ForExc
import PyProof.ReprBulk
import HandS.ExcInit
import HandS.ExcField
import HandS.ExcOwn
import HandS.ExcIs
import HandS.Defaults
import HandS.ClsMeth
import HandS.Wide
import HandS.WordsExc
import KE.KExcIs
import HandS.Gcd
import HandS.Text
import HandS.FStr
import PySem.Challenge.RW_lastheld_k14_number_texts
set_option Elab.async false
set_option linter.all false
set_option maxRecDepth 100000
set_option maxHeartbeats 4000000
/-! LK1: data of any kind behind a value, over the heap without the objects that change -/
namespace LK
open PySem PySem.Spec L2
open PyProof.Rows hiding St

/-! ### the heap without some addresses -/
def off (S : List Addr) (H : Hp) : Hp := fun b => if b ∈ S then none else H b
theorem off_some {S : List Addr} {H : Hp} {b : Addr} {o : HO} (h : off S H b = some o) : b ∉ S ∧ H b = some o := by
  unfold off at h
  by_cases m : b ∈ S
  · rw [if_pos m] at h
    cases h
  · rw [if_neg m] at h
    exact ⟨m, h⟩
theorem off_mk {S : List Addr} {H : Hp} {b : Addr} {o : HO} (m : b ∉ S) (h : H b = some o) : off S H b = some o := by
  unfold off
  rw [if_neg m]
  exact h
theorem off_le {S : List Addr} {H : Hp} : Same (off S H) H := fun _ _ h => (off_some h).2
theorem off_sub {S T : List Addr} {H : Hp} (h : ∀ b ∈ S, b ∈ T) : Same (off T H) (off S H) := fun b o e =>
  off_mk (fun m => (off_some e).1 (h b m)) (off_some e).2
/-- a pot: two ints -/
def PotAt (H : Hp) (a : Addr) : Prop := ∃ p q : Int, H a = some (.lst [.int p, .int q]) ∧ 0 ≤ p ∧ 0 ≤ q ∧ q < 2147483648
/-- all but a is kept, at a a pot stays a pot -/
structure Ext (a : Addr) (H H' : Hp) : Prop where
  keep : ∀ b o, b ≠ a → H b = some o → H' b = some o
  pot : PotAt H a → PotAt H' a
theorem Ext.refl {a : Addr} {H : Hp} : Ext a H H := ⟨fun _ _ _ h => h, fun h => h⟩
theorem Ext.trans {a : Addr} {H H1 H2 : Hp} (x : Ext a H H1) (y : Ext a H1 H2) : Ext a H H2 := ⟨fun b o n h => y.keep b o n (x.keep b o n h), fun h => y.pot (x.pot h)⟩
theorem Ext.of_same {a : Addr} {H H' : Hp} (s : Same H H') : Ext a H H' := ⟨fun b o _ h => s b o h, fun ⟨p, q, h, r⟩ => ⟨p, q, s _ _ h, r⟩⟩
theorem same_new {H : Hp} {p : Addr} {o : HO} (h : H p = none) : Same H (upd H p o) := fun b u e => by
  rw [upd_ne (ne_of_none e h)]
  exact e
theorem Ext.new {a : Addr} {H : Hp} {p : Addr} {o : HO} (h : H p = none) : Ext a H (upd H p o) := Ext.of_same (same_new h)
theorem Ext.off {a : Addr} {S : List Addr} {H H' : Hp} (x : Ext a H H') (m : a ∈ S) : Same (off S H) (off S H') := fun b o h => by
  obtain ⟨n, e⟩ := off_some h
  exact off_mk n (x.keep b o (fun z => n (z ▸ m)) e)
/-- the place: the pot, the objects that change, all of them there -/
structure Fr (a : Addr) (S : List Addr) (H : Hp) : Prop where
  mem : a ∈ S
  pot : PotAt H a
  all : ∀ b ∈ S, ∃ o, H b = some o
theorem Fr.ext {a : Addr} {S : List Addr} {H H' : Hp} (f : Fr a S H) (x : Ext a H H') : Fr a S H' := ⟨f.mem, x.pot f.pot, fun b m => by
  by_cases e : b = a
  · subst e
    obtain ⟨p, q, h, _⟩ := x.pot f.pot
    exact ⟨_, h⟩
  · obtain ⟨o, h⟩ := f.all b m
    exact ⟨o, x.keep b o e h⟩⟩
theorem Fr.out {a : Addr} {S : List Addr} {H : Hp} (f : Fr a S H) {p : Addr} (h : H p = none) : p ∉ S := fun m => by
  obtain ⟨o, e⟩ := f.all p m
  rw [h] at e
  cases e
theorem same_off_push {S : List Addr} {H H' : Hp} {L : Addr} (h : H L = none) (s : Same (off S H) (off S H')) : Same (off S H) (off (L :: S) H') := fun b o e => by
  obtain ⟨n, e1⟩ := off_some (s b o e)
  obtain ⟨_, e0⟩ := off_some e
  refine off_mk (fun m => ?_) e1
  rcases List.mem_cons.mp m with z | z
  · rw [z, h] at e0
    cases e0
  · exact n z
theorem same_off_pop {S : List Addr} {H : Hp} {L : Addr} : Same (off (L :: S) H) (off S H) := off_sub fun _ m => List.mem_cons_of_mem _ m

/-! ### data -/
def kD : Key → PyData
  | .inl i => .int i
  | .inr x => .str x
mutual
inductive D (K : PySem.W.Frag) (H : Hp) : V → PyData → Prop
  | non : D K H .non .none
  | bl (b : Bool) : D K H (.bl b) (.bool b)
  | int (i : Int) : D K H (.int i) (.int i)
  | str (x : Str) : D K H (.str x) (.str x)
  | lst {a : Addr} {xs : List V} {ds : List PyData} : H a = some (.lst xs) → DA K H xs ds → D K H (.ref a) (.list ds)
  | tup {a : Addr} {xs : List V} {ds : List PyData} : SqT K H a xs → DA K H xs ds → D K H (.ref a) (.tuple ds)
  | dic {a : Addr} {kvs : List (Key × V)} {ds : List (PyData × PyData)} : H a = some (.dK kvs) → DK K H kvs ds → D K H (.ref a) (.dict ds)
inductive DA (K : PySem.W.Frag) (H : Hp) : List V → List PyData → Prop
  | nil : DA K H [] []
  | cons {v : V} {vs : List V} {d : PyData} {ds : List PyData} : D K H v d → DA K H vs ds → DA K H (v :: vs) (d :: ds)
inductive DK (K : PySem.W.Frag) (H : Hp) : List (Key × V) → List (PyData × PyData) → Prop
  | nil : DK K H [] []
  | cons {k : Key} {v : V} {kvs : List (Key × V)} {d : PyData} {ds : List (PyData × PyData)} : D K H v d → DK K H kvs ds → DK K H ((k, v) :: kvs) ((kD k, d) :: ds)
end
theorem sqT_same {K : PySem.W.Frag} {H H' : Hp} {a : Addr} {xs : List V} (e : Same H H') (h : SqT K H a xs) : SqT K H' a xs := by
  rcases h with (h | ⟨o, h⟩) | h
  · exact .inl (.inl (e _ _ h))
  · exact .inl (.inr ⟨o, e _ _ h⟩)
  · exact .inr h
section
variable {K : PySem.W.Frag} {H H' : Hp}
mutual
theorem D.same (e : Same H H') : ∀ (d : PyData) (v : V), D K H v d → D K H' v d
  | .none, _, h => by
    cases h
    exact .non
  | .bool b, _, h => by
    cases h
    exact .bl b
  | .int i, _, h => by
    cases h
    exact .int i
  | .str x, _, h => by
    cases h
    exact .str x
  | .list ds, _, h => by
    cases h with
    | lst h1 h2 => exact .lst (e _ _ h1) (DA.same e ds _ h2)
  | .tuple ds, _, h => by
    cases h with
    | tup h1 h2 => exact .tup (sqT_same e h1) (DA.same e ds _ h2)
  | .dict ds, _, h => by
    cases h with
    | dic h1 h2 => exact .dic (e _ _ h1) (DK.same e ds _ h2)
theorem DA.same (e : Same H H') : ∀ (ds : List PyData) (vs : List V), DA K H vs ds → DA K H' vs ds
  | [], _, h => by
    cases h
    exact .nil
  | d :: ds, _, h => by
    cases h with
    | cons h1 h2 => exact .cons (D.same e d _ h1) (DA.same e ds _ h2)
theorem DK.same (e : Same H H') : ∀ (ds : List (PyData × PyData)) (vs : List (Key × V)), DK K H vs ds → DK K H' vs ds
  | [], _, h => by
    cases h
    exact .nil
  | (k, d) :: ds, _, h => by
    cases h with
    | cons h1 h2 => exact .cons (D.same e d _ h1) (DK.same e ds _ h2)
end
theorem D.mono {v : V} {d : PyData} (h : D K H v d) (e : Same H H') : D K H' v d := D.same e d v h
theorem DA.mono {v : List V} {d : List PyData} (h : DA K H v d) (e : Same H H') : DA K H' v d := DA.same e d v h
theorem DA.length : ∀ {vs : List V} {ds : List PyData}, DA K H vs ds → vs.length = ds.length
  | _, _, .nil => rfl
  | _, _, .cons _ h => congrArg (· + 1) h.length
theorem DA.append : ∀ {vs ws : List V} {ds es : List PyData}, DA K H vs ds → DA K H ws es → DA K H (vs ++ ws) (ds ++ es)
  | _, _, _, _, .nil, h => h
  | _, _, _, _, .cons a b, h => .cons a (b.append h)
theorem DA.get : ∀ {vs : List V} {ds : List PyData} {i : Nat} {d : PyData}, DA K H vs ds → ds[i]? = some d → ∃ v, vs[i]? = some v ∧ D K H v d
  | _, _, _, _, .nil, e => by simp at e
  | _, _, 0, _, .cons h _, e => by
    simp at e
    subst e
    exact ⟨_, rfl, h⟩
  | _, _, i + 1, d, .cons _ h, e => by
    obtain ⟨v, h1, h2⟩ := DA.get (i := i) (d := d) h (by simpa using e)
    exact ⟨v, by simpa using h1, h2⟩
theorem DA.getV : ∀ {vs : List V} {ds : List PyData} {i : Nat} {v : V}, DA K H vs ds → vs[i]? = some v → ∃ d, ds[i]? = some d ∧ D K H v d
  | _, _, _, _, .nil, e => by simp at e
  | _, _, 0, _, .cons h _, e => by
    simp at e
    subst e
    exact ⟨_, rfl, h⟩
  | _, _, i + 1, v, .cons _ h, e => by
    obtain ⟨d, h1, h2⟩ := DA.getV (i := i) (v := v) h (by simpa using e)
    exact ⟨d, by simpa using h1, h2⟩
theorem DA.bools : ∀ {vs : List V} {bs : List Bool}, DA K H vs (bs.map .bool) → vs = bs.map V.bl
  | _, [], h => by
    cases h
    rfl
  | _, b :: bs, h => by
    cases h with
    | cons h1 h2 =>
      cases h1
      rw [DA.bools h2]
      rfl
end

/-! ### what a value of this data is, for the kit -/
section
variable {X : Cx} {pins : List (Addr × Obj)} {σ : St} {H : Hp} {s : Shared}
theorem kv_of : ∀ {kvs : List (Key × V)} {vs : List (Key × Value)} {ds : List (PyData × PyData)}, KV kvs vs → DK X.K H kvs ds →
    ds.map (·.1) = vs.map (fun p => kD p.1) ∧ Vals (kvs.map (·.2)) (vs.map (·.2)) ∧ DA X.K H (kvs.map (·.2)) (ds.map (·.2))
  | _, _, _, .nil, .nil => ⟨rfl, .nil, .nil⟩
  | _, _, _, .cons r t, .cons h1 h2 => by
    obtain ⟨a, b, c⟩ := kv_of t h2
    refine ⟨?_, .cons r.2 b, .cons h1 c⟩
    rw [List.map_cons, List.map_cons, a]
    exact congrArg (kD · :: _) r.1
end
end LK
set_option Elab.async false
set_option linter.all false
set_option maxRecDepth 100000
set_option maxHeartbeats 4000000
/-! LK2: defs whose callers stand in no repr of a list, a tuple, a dict (the guards are told): the promise, the calls, the body, the law's end -/
namespace LK
open PySem PySem.Spec L2
open PyProof.Rows hiding St

/-- no repr of a container runs around -/
abbrev NoG (A : Around) : Prop := A.guards = some []

structure FnG (P : Program) (w : World) (K : PySem.W.Frag) (mg : Str → Option Value) (base : Heap) (CX : CXT)
    (k : Nat) (f : Addr) (fd : FuncData) (ps : List Str) (sp : Sp) : Prop where
  size : ∀ vs H Q E, sp vs H Q E → vs.length = ps.length
  go : ∀ A : Around, NoG A → Room k A → ∀ (outer : List Env) (s : Shared) (H : Hp), Env0 P w K mg base A outer s H →
    ∀ (args : Args) (us : List Value) (vs : List V) (Q : VK) (E : XK), BindsTo s fd args (ps.zip us) → Vals vs us → sp vs H Q E →
    codeAny (model P w) A (.call (.ref f) args) (CR CX outer P w H s Q E) s

section
variable {P : Program} {w : World} {K : PySem.W.Frag} {mg : Str → Option Value} {base : Heap} {CX : CXT} {j k : Nat} {f : Addr} {fd : FuncData} {ps : List Str} {sp sp' : Sp}
theorem FnG.up (F : FnG P w K mg base CX j f fd ps sp) (h : j ≤ k) : FnG P w K mg base CX k f fd ps sp :=
  ⟨F.size, fun A g hr => F.go A g (hr.mono h)⟩
theorem FnG.imp (F : FnG P w K mg base CX k f fd ps sp) (h : ∀ vs H Q E, sp' vs H Q E → sp vs H Q E) : FnG P w K mg base CX k f fd ps sp' :=
  ⟨fun vs H Q E q => F.size vs H Q E (h _ _ _ _ q), fun A g hr outer s H e args us vs Q E b r q => F.go A g hr outer s H e args us vs Q E b r (h _ _ _ _ q)⟩
end

/-- what is known of a def of the module by its name -/
structure Df (P : Program) (w : World) (K : PySem.W.Frag) (mg : Str → Option Value) (base : Heap) (CX : CXT) (k : Nat) (x : Str) (ps : List Str) (sp : Sp) : Prop where
  ex : ∃ (f : Addr) (fd : FuncData), FnG P w K mg base CX k f fd ps sp ∧ mg x = some (.ref f) ∧ PySem.W.keepIn K (.ref f) = true ∧ Binds K fd ps []
theorem Df.up {P : Program} {w : World} {K : PySem.W.Frag} {mg : Str → Option Value} {base : Heap} {CX : CXT} {j k : Nat} {x : Str} {ps : List Str} {sp : Sp}
    (F : Df P w K mg base CX j x ps sp) (h : j ≤ k) : Df P w K mg base CX k x ps sp := by
  obtain ⟨f, fd, a, b⟩ := F.ex
  exact ⟨f, fd, a.up h, b⟩

section
variable {X : Cx} {CX : CXT} {k : Nat} {f : Addr} {fd : FuncData} {ps ks : List Str} {sp : Sp} {E : XK} {x : Str} {p pos : Pos} {e : Expr} {es : List Expr} {kws : List Keyword} {t tk : TA}
theorem callee_end {pins : List (Addr × Obj)} {σ : St} {H : Hp} {s : Shared} {Q : VK} (hx : Passes CX X E) (I : Inv X pins σ H s) {r : Result} {s' : Shared}
    (h : CR CX X.stack X.prog X.w H s Q E r s') : callEnd (EP X pins σ Q) X.xe r s' := by
  rcases r with e | fl
  · exact hx pins σ H s e s' I h
  · cases fl
    case ret u => exact I.after h
    all_goals exact False.elim h
theorem run_g {pins : List (Addr × Obj)} {σ : St} {H : Hp} {s : Shared} {Q : VK} {us : List Value} {kw : List (Str × Value)} {vs : List V} {ws : List Value}
    (F : FnG X.prog X.w X.K X.mg X.base CX k f fd ps sp) (hg : NoG X.A) (hr : Room k X.A) (hb : BindsTo s fd ⟨us, kw⟩ (ps.zip ws)) (hx : Passes CX X E)
    (I : Inv X pins σ H s) (r : Vals vs ws) (h : sp vs H Q E) : wpAny (model X.prog X.w) X.A (call (.ref f) us kw) (EP X pins σ Q) X.xe s :=
  wpAny_call (codeAny_mono (F.go X.A hg hr X.stack s H I.env0 ⟨us, kw⟩ ws vs Q E hb r h) fun r' s' q => callee_end hx I q)

/-- f(e, ..), all parameters given -/
theorem pe_fn (F : Df X.prog X.w X.K X.mg X.base CX k x ps sp) (hg : NoG X.A) (hr : Room k X.A) (hgl : Gl X x) (hx : Passes CX X E)
    (ha : PA X (e :: es) t) (hdb : (x == ("__debug__" : Str)) = false := by decide) (he : starEach (e :: es) X.env = (false, eval e X.env) :: starEach es X.env := by rfl)
    (hpl : (backTo pos (starEach es X.env)).any (·.1) = false := by rfl) : PE X (.Call (.Name x p) (e :: es) [] pos) (tCall sp [] E t) := by
  obtain ⟨f, fd, G, hm, hk, hb⟩ := F.ex
  constructor
  intro pins s σ H Q I h
  apply wpAny_Call_Name_kw
  apply ld_glob I hgl hm _ hdb
  apply PySem.W.callWith_K (h₀ := X.base) I.ok.mod.kin hk _ he hpl
  apply thn (ha.run pos pins s σ H _ I h)
  rintro us s1 ⟨vs, H1, I1, r, q⟩
  have q' : sp vs H1 Q E := by simpa using q
  have l : (us ++ []).length = ps.length := by
    rw [List.append_nil, ← r.length]
    exact G.size _ _ _ _ q'
  have b := hb s1 us I1.kIn l
  rw [List.append_nil] at b
  exact ⟨I1.kIn, run_g G hg hr b hx I1 r q'⟩
/-- f(k = e), by names alone -/
structure KB0 (K : PySem.W.Frag) (fd : FuncData) (ps ks : List Str) (g : {α : Type} → List α → List α) : Prop where
  to : ∀ (s : Shared) (ws : List Value), K.In s.heap → ws.length = ks.length → BindsTo s fd ⟨[], ks.zip ws⟩ (ps.zip (g ws))
  rel : ∀ {zs : List V} {ws : List Value}, Vals zs ws → Vals (g zs) (g ws)
def tCallK0 (n : Nat) (sp : Sp) (g : List V → List V) (E : XK) (tk : TA) : TE := fun σ H Q => tk σ H fun zs H2 => zs.length = n ∧ sp (g zs) H2 Q E
theorem pe_fnK0 {g : {α : Type} → List α → List α} (G : FnG X.prog X.w X.K X.mg X.base CX k f fd ps sp) (hm : X.mg x = some (.ref f)) (hk : PySem.W.keepIn X.K (.ref f) = true)
    (hb : KB0 X.K fd ps ks g) (hg : NoG X.A) (hr : Room k X.A) (hgl : Gl X x) (hx : Passes CX X E) (hkw : PK X kws tk)
    (hall : (backToKw pos (keywordEach kws X.env)).all (·.1.isSome) = true := by rfl) (hks : (backToKw pos (keywordEach kws X.env)).filterMap (·.1) = ks := by rfl)
    (hdb : (x == ("__debug__" : Str)) = false := by decide)
    (hpl : ((backTo pos (starEach [] X.env)).any (·.1) || (backToKw pos (keywordEach kws X.env)).any (·.1.isNone)) = false := by rfl) :
    PE X (.Call (.Name x p) [] kws pos) (tCallK0 ks.length sp g E tk) := by
  constructor
  intro pins s σ H Q I h
  apply wpAny_Call_Name_kw
  apply ld_glob I hgl hm _ hdb
  apply PySem.W.callWith_KW0 (h₀ := X.base) I.ok.mod.kin hk hall _ hpl
  apply thn (hkw.run pos pins s σ H _ I h)
  rintro ws s2 ⟨zs, H2, I2, rz, l2, q2⟩
  refine ⟨I2.kIn, ?_⟩
  rw [hks]
  exact run_g (us := []) G hg hr (hb.to s2 ws I2.kIn (rz.length.symm.trans l2)) hx I2 (hb.rel rz) q2
end

section
variable {X : Cx} {CX : CXT} {k : Nat} {ps ks : List Str} {sp : Sp} {E : XK} {x : Str} {p pos : Pos} {kws : List Keyword} {tk : TA} {g : {α : Type} → List α → List α}
/-- a def that is called by names alone -/
structure DfK (P : Program) (w : World) (K : PySem.W.Frag) (mg : Str → Option Value) (base : Heap) (CX : CXT) (k : Nat) (x : Str) (ps ks : List Str) (g : {α : Type} → List α → List α) (sp : Sp) : Prop where
  ex : ∃ (f : Addr) (fd : FuncData), FnG P w K mg base CX k f fd ps sp ∧ mg x = some (.ref f) ∧ PySem.W.keepIn K (.ref f) = true ∧ KB0 K fd ps ks g
theorem pe_kw0 (F : DfK X.prog X.w X.K X.mg X.base CX k x ps ks g sp) (hg : NoG X.A) (hr : Room k X.A) (hgl : Gl X x) (hx : Passes CX X E) (hkw : PK X kws tk)
    (hall : (backToKw pos (keywordEach kws X.env)).all (·.1.isSome) = true := by rfl) (hks : (backToKw pos (keywordEach kws X.env)).filterMap (·.1) = ks := by rfl)
    (hdb : (x == ("__debug__" : Str)) = false := by decide)
    (hpl : ((backTo pos (starEach [] X.env)).any (·.1) || (backToKw pos (keywordEach kws X.env)).any (·.1.isNone)) = false := by rfl) :
    PE X (.Call (.Name x p) [] kws pos) (tCallK0 ks.length sp g E tk) := by
  obtain ⟨f, fd, G, hm, hk, hb⟩ := F.ex
  exact pe_fnK0 G hm hk hb hg hr hgl hx hkw hall hks hdb hpl
end
/-- the list as it is -/
def idL {α : Type} (l : List α) : List α := l

/-! ### a def's body -/
section
variable {P : Program} {w : World} {K : PySem.W.Frag} {mg : Str → Option Value} {base : Heap} {CX : CXT}
theorem fn_ofG {k : Nat} {f : Addr} {name qual : Str} {params : Arguments} {body : List Stmt} {scope : Scope} {dV kV doc pm cdv ct oc : Value} {an od : Option Addr} {osl : Array (Option Value)} {N ps : List Str} {sp : Sp}
    (lk : K.lookup f = some ⟨oc, od, .func (PySem.W.fnOf name qual params body scope dV kV doc pm an cdv ct), osl⟩) (hcd : PySem.W.codeIn K cdv qual = true) (S : FnScope N ps scope)
    (len : ∀ vs H Q E, sp vs H Q E → vs.length = ps.length)
    (hbody : ∀ (A : Around) (outer : List Env) (s : Shared) (H : Hp) (vs : List V) (Q : VK) (E : XK), NoG A → Room k (A.deeper (envOfC qual scope s.heap.objs.size f cdv)) → sp vs H Q E →
      ∃ t, PSs (cxOf CX P w K mg base N qual scope f cdv A outer s H E) body t ∧ t { nx := fun _ H' => Q .non H', rt := Q } (start N vs) H) :
    FnG P w K mg base CX (k + 1) f (PySem.W.fnOf name qual params body scope dV kV doc pm an cdv ct) ps sp := by
  constructor
  · exact len
  intro A hg hr outer s H e0 args us vs Q E hb r hsp
  have inK : K.In s.heap := e0.mod.kin.keeps fun b o e => (e0.bs b o e).1
  have nolim : s.heap.NoLimit := e0.mod.nolimit.keeps fun b o e => (e0.bs b o e).1
  have kinds : ∀ y ∈ ps.zip us, scope.names.lookup y.1 = some .local ∨ (scope.names.lookup y.1 = some .cell ∧ ((cellsFrom (s.heap.objs.size + 1) scope.names []).lookup y.1).isSome = true) := by
    rintro ⟨n, v⟩ hy
    rcases S.par n (List.of_mem_zip hy).1 with q | q
    · exact .inl q
    · exact .inr ⟨q, PySem.W.cellsFrom_some _ _ _ (.inl q)⟩
  apply codeAny_call_function hr.depth (inK _ _ lk) rfl S.co S.gen rfl (PySem.W.codeRec_of inK hcd)
  apply hb
  apply wpAny_newFunctionEnv_cells S.kind kinds
  rintro env rfl s1 x
  refine ⟨nolim.keeps x.toInCall.keep, ?_⟩
  apply codeAny_func
  obtain ⟨t, ht, hq⟩ := hbody A outer s H vs Q E hg (hr.deeper _) hsp
  have I := inv_start (CX := CX) (E := E) S hr.hd e0 (len _ _ _ _ hsp) r x
  apply wpAny_mono (ht.run [] s1 (start N vs) H _ I hq)
  · intro fl s' hs
    cases fl
    case ret u =>
      obtain ⟨v, σ', H', J, rv, q⟩ := hs
      exact ⟨v, H', J.os, J.bare, J.base, J.hok, rv, q⟩
    case next =>
      obtain ⟨σ', H', J, q⟩ := hs
      exact ⟨V.non, H', J.os, J.bare, J.base, J.hok, rfl, q⟩
    all_goals
      obtain ⟨_, _, _, q⟩ := hs
      exact False.elim q
  · intro e s' hs
    exact hs
/-- a def of the text out of which no exception comes -/
theorem fun_okG {x qual : Str} {st : Stmt} {f : Addr} {fd : FuncData} {N ps : List Str} {k : Nat} {sp : Sp} (F : Fun K x qual st f fd) (S : FnScope N ps (defScope st)) (len : ∀ vs H Q E, sp vs H Q E → vs.length = ps.length)
    (hbody : ∀ (cdv : Value) (A : Around) (outer : List Env) (s : Shared) (H : Hp) (vs : List V) (Q : VK) (E : XK), NoG A → Room k (A.deeper (envOfC qual (defScope st) s.heap.objs.size f cdv)) → sp vs H Q E →
      ∃ t, PSs (cxOf CX0 P w K mg base N qual (defScope st) f cdv A outer s H E).nox (defBody st) t ∧ t { nx := fun _ H' => Q .non H', rt := Q } (start N vs) H) : FnG P w K mg base CX0 (k + 1) f fd ps sp := by
  obtain ⟨oc, od, kV, doc, pm, an, cdv, ct, osl, rfl, lk, hcd⟩ := F.ex
  apply fn_ofG lk hcd S len
  intro A outer s H vs Q E hg hr hsp
  obtain ⟨t, h, q⟩ := hbody cdv A outer s H vs Q E hg hr hsp
  exact ⟨t, h.nox, q⟩
/-- .. out of which one may come -/
theorem fun_okXG {x qual : Str} {st : Stmt} {f : Addr} {fd : FuncData} {N ps : List Str} {k : Nat} {sp : Sp} (F : Fun K x qual st f fd) (S : FnScope N ps (defScope st)) (len : ∀ vs H Q E, sp vs H Q E → vs.length = ps.length)
    (hbody : ∀ (cdv : Value) (A : Around) (outer : List Env) (s : Shared) (H : Hp) (vs : List V) (Q : VK) (E : XK), NoG A → Room k (A.deeper (envOfC qual (defScope st) s.heap.objs.size f cdv)) → sp vs H Q E →
      ∃ t, PSs (cxOf (L2.CX P w) P w K mg base N qual (defScope st) f cdv A outer s H E) (defBody st) t ∧ t { nx := fun _ H' => Q .non H', rt := Q } (start N vs) H) : FnG P w K mg base (L2.CX P w) (k + 1) f fd ps sp := by
  obtain ⟨oc, od, kV, doc, pm, an, cdv, ct, osl, rfl, lk, hcd⟩ := F.ex
  exact fn_ofG lk hcd S len fun A outer s H vs Q E hg hr hsp => hbody cdv A outer s H vs Q E hg hr hsp
end

/-! ### the law's end -/
theorem law_callG {P : Program} {w : World} {K : PySem.W.Frag} {mg mb : Str → Option Value} {CX : CXT} {k : Nat} {fa a : Addr} {fd : FuncData} {x : Str} {sp : Sp} {s₁ : Shared} {vs : List Value} {ns : List Int}
    (KX : K.In s₁.heap) (hns : s₁.heap.Ns mainGlobals mg) (hb : s₁.heap.Ns builtinsNs mb) (hbb : ∀ x : Str, x ≠ "__name__" → mb x = bootBuiltins x) (hlim : s₁.heap.NoLimit) (hg : s₁.gens = #[])
    (ha : s₁.heap.get? a = some { cls := .type "list", data := .seq vs.toArray }) (hi : IntsAre vs ns) (hl : ns.length ≤ sizeLine) (hr : Room k callerA)
    (F : ∀ base : Heap, K.In base → base.Ns mainGlobals mg → FnG P w K mg base CX k fa fd [x] sp) (hbind : ∀ (s : Shared) (u : Value), BindsTo s fd ⟨[u], []⟩ [(x, u)])
    (hsp : ∀ H : Hp, Only H → SqL K H a (ns.map V.int) → sp [.ref a] H (fun v _ => v = .bl true) fun _ _ _ => False)
    (hCX : ∀ H e s', CX [] H s₁ (fun _ _ _ => False) e s' → False) :
    codeAny (model P w) callerA (.call (.ref fa) ⟨[.ref a], []⟩) (fun r s' => r = .ok (.ret (.bool true)) ∧ OldK s₁.heap s'.heap ∧ s'.os = s₁.os ∧ AllBare s'.gens) s₁ := by
  have rv := vals_ints hi
  have core : ∀ H : Hp, Only H → SqL K H a (ns.map V.int) → HOk P w H s₁.heap → (∀ b, H b ≠ none → b = a) → (H a ≠ none → K.lookup a = none) →
      codeAny (model P w) callerA (.call (.ref fa) ⟨[.ref a], []⟩) (fun r s' => r = .ok (.ret (.bool true)) ∧ OldK s₁.heap s'.heap ∧ s'.os = s₁.os ∧ AllBare s'.gens) s₁ := by
    intro H only sq ok one outK
    have stay : ∀ {b : Addr} {o : Obj}, s₁.heap.get? b = some o → H b = none → (hidT s₁.heap H).get? b = some o := fun e n => hidT_get e n
    have free_of : ∀ {b : Addr}, (b = a → H a = none) → H b = none := fun {b} h => by
      cases q : H b with
      | none => rfl
      | some u =>
        have e' : b = a := one b (by simp [q])
        rw [e', h e'] at q
        cases q
    have dict_free : ∀ {b : Addr} {o : Obj} {es : Array DictEntry} {ep : Nat}, s₁.heap.get? b = some o → o.data = .dict es ep → H b = none := fun {b o es ep} e d => by
      cases q : H b with
      | none => rfl
      | some u =>
        obtain rfl : b = a := one b (by simp [q])
        rw [ha] at e
        injection e with e
        subst e
        cases d
    have ns_stay : ∀ {b : Addr} {m : Str → Option Value}, s₁.heap.Ns b m → (hidT s₁.heap H).Ns b m := by
      rintro b m ⟨o, es, ep, e, d, r⟩
      exact ⟨o, es, ep, stay e (dict_free e d), d, r⟩
    have inB : K.In (hidT s₁.heap H) := by
      intro b o e
      refine stay (KX b o e) ?_
      cases q : H b with
      | none => rfl
      | some u =>
        obtain rfl : b = a := one b (by simp [q])
        rw [outK (by simp [q])] at e
        cases e
    obtain ⟨mc, l1, l2⟩ := hlim
    have modOk : Mod K mg (hidT s₁.heap H) := ⟨inB, ns_stay hns, ⟨mb, ns_stay hb, hbb⟩, ⟨mc, ns_stay l1, l2⟩⟩
    have env : Env0 P w K mg (hidT s₁.heap H) callerA [] s₁ H := by
      refine ⟨rfl, modOk, fun b o e => of_hidT e, ?_, trivial, ?_, ok, .of_eq hg⟩
      · exact Nat.le_of_eq (hidT_size _ _)
      · intro b m
        exact absurd (show b ∈ ([] : List Addr) from m) (by simp)
    have run := (F _ inB (ns_stay hns)).go callerA rfl hr [] s₁ H env ⟨[.ref a], []⟩ [.ref a] [.ref a] _ _ (hbind s₁ (.ref a)) (.cons rfl .nil) (hsp H only sq)
    apply codeAny_mono run
    intro r s' h
    rcases r with e | fl
    · exact (hCX H e s' h).elim
    cases fl
    case ret u =>
      obtain ⟨v, H', os, bare, un, hok', r', rfl⟩ := h
      obtain rfl : u = Value.bool true := r'
      refine ⟨rfl, OldK.of_keep ?_, os, bare⟩
      intro b o e
      cases q : H b with
      | none => exact un.keep b o e q (fun z => absurd (show b ∈ ([] : List Addr) from z) (by simp)) (by simp)
      | some u =>
        rcases only b with z | ⟨ob, xs, z⟩
        · rw [q] at z
          cases z
        · have e1 := (ok b _ z).1
          have e2 := (hok' b _ (un.frzs b ob _ z)).1
          rw [e] at e1
          injection e1 with e1
          rw [e1]
          exact e2
    all_goals exact False.elim h
  have len : vs.toArray.size ≤ sizeLine := by
    rw [List.size_toArray, hi.length]
    exact hl
  cases hk : K.lookup a with
  | some o =>
    have e := KX a o hk
    rw [ha] at e
    injection e with e
    subst e
    refine core (fun _ => none) (fun _ => .inl rfl) (.inr ⟨_, vs.toArray, _, hk, rfl, rfl, rfl, len, by simpa using rv⟩) ?_ ?_ ?_
    · intro b u z
      cases z
    · intro b z
      exact absurd rfl z
    · intro z
      exact absurd rfl z
  | none =>
    let G : Hp := fun b => if b = a then some (.frz { cls := .type "list", data := .seq vs.toArray } (.lst (ns.map V.int))) else none
    have G1 : G a = some (.frz { cls := .type "list", data := .seq vs.toArray } (.lst (ns.map V.int))) := if_pos rfl
    have G2 : ∀ b, b ≠ a → G b = none := fun b h => if_neg h
    refine core G ?_ (.inl (.inr ⟨_, G1⟩)) ?_ ?_ fun _ => hk
    · intro b
      by_cases h : b = a
      · rw [h]
        exact .inr ⟨_, _, G1⟩
      · exact .inl (G2 b h)
    · intro b u z
      by_cases h : b = a
      · subst h
        rw [G1] at z
        injection z with z
        subst z
        exact ⟨ha, by rw [List.length_map]; exact hl, vs, _, rv, ha⟩
      · rw [G2 b h] at z
        cases z
    · intro b z
      by_cases h : b = a
      · exact h
      · exact absurd (G2 b h) z
theorem walk_ofG {l : PySem.W.OpenLaw} {n k : Nat} {q : Program} {loose : List Str} {XP : (Str → Option Value) → Heap → Prop} {YP : World → Heap → Prop} {d : DefRec} {K : Params → PySem.W.Frag} {CX : World → CXT} {sp : World → Sp} {x : Str}
    (hn : l.most = some n) (hn2 : n ≤ sizeLine) (hdf : d.params.defaults = []) (hr : Room k callerA) (hY : ∀ (w : World) (h : Heap), YP w h → (K w.params).In h)
    (F : ∀ (w : World) (mg : Str → Option Value) (fa : Addr) (h : Heap), (K w.params).In h → h.Ns mainGlobals mg → mg d.name = some (.ref fa) →
      ∃ fd : FuncData, (∀ (s : Shared) (u : Value), BindsTo s fd ⟨[u], []⟩ [(x, u)]) ∧
        ∀ base : Heap, (K w.params).In base → base.Ns mainGlobals mg → FnG l.prog w (K w.params) mg base (CX w) k fa fd [x] (sp w))
    (hsp : ∀ (w : World) (H : Hp) (a : Addr) (ns : List Int), ns.length ≤ n → Only H → SqL (K w.params) H a (ns.map V.int) → sp w [.ref a] H (fun v _ => v = .bl true) fun _ _ _ => False)
    (hCX : ∀ (w : World) (H : Hp) (s : Shared) (e : Value) (s' : Shared), CX w [] H s (fun _ _ _ => False) e s' → False) :
    PySem.W.WalkO q loose XP YP l.row.toRowW d [] (fun f vs => PySem.call f vs) := by
  apply Att.attach_call hn hdf
  intro w s₀ s₁ mg mb fa o pm cd doc a vs ns G Y ho hd hcd hmg hobj hints hlen hg
  obtain ⟨fd, hb, hF⟩ := F w mg fa _ (hY w _ Y) G.T.g hmg
  apply law_callG (hY w _ Y) G.T.g G.T.b G.T.builtins G.T.nolimit hg hobj hints (Nat.le_trans hlen hn2) hr hF hb
  · intro H hO hS
    exact hsp w H a ns hlen hO hS
  · intro H e s'
    exact hCX w H s₁ e s'
end LK
set_option Elab.async false
set_option linter.all false
set_option maxRecDepth 100000
set_option maxHeartbeats 4000000
/-! LK3: what an expression comes to: Ev (a value of some data), EvT (a test), EvA (arguments); statements. G: the part of the heap that one knows -/
namespace LK
open PySem PySem.Spec L2
open PyProof.Rows hiding St

section
variable (K : PySem.W.Frag) (a : Addr) (G : Hp)
def Ev (te : TE) (σ : St) (C : PyData → Prop) : Prop :=
  ∀ S H1, Fr a S H1 → Same G (off S H1) → ∀ Q : VK, (∀ v d H2, Ext a H1 H2 → D K (off S H2) v d → C d → Q v H2) → te σ H1 Q
def EvT (tt : TT) (σ : St) (C : Bool → Prop) : Prop :=
  ∀ S H1, Fr a S H1 → Same G (off S H1) → ∀ Q : Bool → Hp → Prop, (∀ b H2, Ext a H1 H2 → C b → Q b H2) → tt σ H1 Q
def EvA (ta : TA) (σ : St) (C : List PyData → Prop) : Prop :=
  ∀ S H1, Fr a S H1 → Same G (off S H1) → ∀ Q : List V → Hp → Prop, (∀ vs ds H2, Ext a H1 H2 → DA K (off S H2) vs ds → C ds → Q vs H2) → ta σ H1 Q
end

section
variable {K : PySem.W.Frag} {a : Addr} {S : List Addr} {σ : St} {G G' H H' : Hp} {ta tb tc te : TE} {t u : TT} {tr : TA} {C C1 C2 C3 : PyData → Prop} {B B1 B2 : Bool → Prop} {A1 A2 : List PyData → Prop}
theorem Fr.same (f : Fr a S H) (x : Ext a H H') (s : Same G (off S H)) : Same G (off S H') := s.trans (x.off f.mem)

/-! ### weakening -/
theorem Ev.at (h : Ev K a G te σ C) (e : Same G G') : Ev K a G' te σ C := fun S H1 f s => h S H1 f (e.trans s)
theorem EvT.at (h : EvT a G t σ B) (e : Same G G') : EvT a G' t σ B := fun S H1 f s => h S H1 f (e.trans s)
theorem EvA.at (h : EvA K a G tr σ A1) (e : Same G G') : EvA K a G' tr σ A1 := fun S H1 f s => h S H1 f (e.trans s)
theorem Ev.imp (h : Ev K a G te σ C1) (i : ∀ d, C1 d → C2 d) : Ev K a G te σ C2 := fun S H1 f s Q q =>
  h S H1 f s Q fun v d H2 e m c => q v d H2 e m (i d c)
theorem EvT.imp (h : EvT a G t σ B1) (i : ∀ d, B1 d → B2 d) : EvT a G t σ B2 := fun S H1 f s Q q => h S H1 f s Q fun v H2 e c => q v H2 e (i v c)
theorem EvA.imp (h : EvA K a G tr σ A1) (i : ∀ d, A1 d → A2 d) : EvA K a G tr σ A2 := fun S H1 f s Q q =>
  h S H1 f s Q fun v d H2 e m c => q v d H2 e m (i d c)

/-! ### names, constants -/
theorem ev_var {i : Nat} {v : V} {d : PyData} (h : σ[i]? = some (some v)) (m : D K G v d) : Ev K a G (tVar i) σ (· = d) := fun S H1 f s Q q =>
  ⟨v, h, q v d H1 Ext.refl (m.mono s) rfl⟩
theorem ev_c {v : V} {d : PyData} (m : D K (fun _ => none) v d) : Ev K a G (tC v) σ (· = d) := fun S H1 f s Q q =>
  q v d H1 Ext.refl (m.mono fun _ _ e => nomatch e) rfl
theorem ev_i {i : Int} : Ev K a G (tC (.int i)) σ (· = .int i) := ev_c (.int i)
theorem ev_s {i : Str} : Ev K a G (tC (.str i)) σ (· = .str i) := ev_c (.str i)
theorem ev_b {i : Bool} : Ev K a G (tC (.bl i)) σ (· = .bool i) := ev_c (.bl i)
theorem ev_n : Ev K a G (tC .non) σ (· = .none) := ev_c .non

/-! ### two parts, by values -/
/-- what an operation on values gives -/
def R2D (K : PySem.W.Frag) (a : Addr) (r : R2) (d e : PyData) (C : PyData → Prop) : Prop :=
  ∀ S H x y, Fr a S H → D K (off S H) x d → D K (off S H) y e → ∀ Q : VK, (∀ v z H2, Ext a H H2 → D K (off S H2) v z → C z → Q v H2) → r x y H Q
theorem ev_op {r : R2} (ha : Ev K a G ta σ C1) (hb : Ev K a G tb σ C2) (hr : ∀ d e, C1 d → C2 e → R2D K a r d e C) : Ev K a G (tOp r ta tb) σ C := fun S H1 f s Q q =>
  ha S H1 f s _ fun v d H2 x2 m c => hb S H2 (f.ext x2) (f.same x2 s) _ fun w e H3 x3 m3 c3 =>
    hr d e c c3 S H3 v w ((f.ext x2).ext x3) (m.mono (x3.off f.mem)) m3 Q fun z g H4 x4 m4 c4 => q z g H4 ((x2.trans x3).trans x4) m4 c4
theorem ev_un {r : V → Hp → VK → Prop} (ha : Ev K a G ta σ C1)
    (hr : ∀ d, C1 d → ∀ S H x, Fr a S H → D K (off S H) x d → ∀ Q : VK, (∀ v z H2, Ext a H H2 → D K (off S H2) v z → C z → Q v H2) → r x H Q) : Ev K a G (tUn r ta) σ C := fun S H1 f s Q q =>
  ha S H1 f s _ fun v d H2 x2 m c => hr d c S H2 v (f.ext x2) m Q fun z g H3 x3 m3 c3 => q z g H3 (x2.trans x3) m3 c3

/-! ints -/
theorem r2_I {c : Int → Int → Prop} {g : Int → Int → V} {i j : Int} {z : PyData} (hc : c i j) (hz : ∀ H, D K H (g i j) z) (cz : C z) : R2D K a (rI c g) (.int i) (.int j) C := by
  intro S H x y f mx my Q q
  cases mx
  cases my
  exact ⟨i, j, rfl, rfl, hc, q _ z H Ext.refl (hz _) cz⟩
theorem r2_I0 {g : Int → Int → V} {i j : Int} {z : PyData} (hz : ∀ H, D K H (g i j) z) (cz : C z) : R2D K a (rI0 g) (.int i) (.int j) C := by
  intro S H x y f mx my Q q
  cases mx
  cases my
  exact ⟨i, j, rfl, rfl, q _ z H Ext.refl (hz _) cz⟩
/-- ints of some kind -/
abbrev IsI (c : Int → Prop) : PyData → Prop := fun d => ∃ i, d = .int i ∧ c i
abbrev IsB (c : Bool → Prop) : PyData → Prop := fun d => ∃ i, d = .bool i ∧ c i
theorem ev_isI {c : Int → Prop} {i : Int} (h : Ev K a G te σ (· = .int i)) (hc : c i) : Ev K a G te σ (IsI c) := h.imp fun d e => ⟨i, e, hc⟩
theorem ev_int2 {cI cJ cR : Int → Prop} {c : Int → Int → Prop} {g : Int → Int → Int} (ha : Ev K a G ta σ (IsI cI)) (hb : Ev K a G tb σ (IsI cJ))
    (hr : ∀ i j, cI i → cJ j → c i j ∧ cR (g i j)) : Ev K a G (tOp (rI c fun i j => .int (g i j)) ta tb) σ (IsI cR) := by
  refine ev_op ha hb ?_
  rintro _ _ ⟨i, rfl, hi⟩ ⟨j, rfl, hj⟩
  obtain ⟨h1, h2⟩ := hr i j hi hj
  exact r2_I h1 (fun _ => .int _) ⟨_, rfl, h2⟩
theorem ev_int20 {cI cJ cR : Int → Prop} {g : Int → Int → Int} (ha : Ev K a G ta σ (IsI cI)) (hb : Ev K a G tb σ (IsI cJ))
    (hr : ∀ i j, cI i → cJ j → cR (g i j)) : Ev K a G (tOp (rI0 fun i j => .int (g i j)) ta tb) σ (IsI cR) := by
  refine ev_op ha hb ?_
  rintro _ _ ⟨i, rfl, hi⟩ ⟨j, rfl, hj⟩
  exact r2_I0 (fun _ => .int _) ⟨_, rfl, hr i j hi hj⟩
/-- a comparison of ints -/
theorem ev_cmpI {cI cJ : Int → Prop} {cB : Bool → Prop} {g : Int → Int → Bool} (ha : Ev K a G ta σ (IsI cI)) (hb : Ev K a G tb σ (IsI cJ))
    (hr : ∀ i j, cI i → cJ j → cB (g i j)) : Ev K a G (tOp (rI0 fun i j => .bl (g i j)) ta tb) σ (IsB cB) := by
  refine ev_op ha hb ?_
  rintro _ _ ⟨i, rfl, hi⟩ ⟨j, rfl, hj⟩
  exact r2_I0 (fun _ => .bl _) ⟨_, rfl, hr i j hi hj⟩

/-! ### tests -/
theorem et_val (h : Ev K a G te σ (IsB B)) : EvT a G (tB te) σ B := fun S H1 f s Q q => h S H1 f s _ fun v d H2 x2 m c => by
  obtain ⟨b, rfl, hB⟩ := c
  cases m
  exact ⟨b, rfl, q b H2 x2 hB⟩
theorem et_test (h : Ev K a G te σ (IsB B)) : EvT a G (tTest te) σ B := fun S H1 f s Q q => h S H1 f s _ fun v d H2 x2 m c => by
  obtain ⟨b, rfl, hB⟩ := c
  cases m
  exact ⟨b, rfl, q b H2 x2 hB⟩
theorem et_not (h : EvT a G t σ B1) (hb : ∀ b, B1 b → B (!b)) : EvT a G (tNot t) σ B := fun S H1 f s Q q => h S H1 f s _ fun b H2 x2 c => q _ H2 x2 (hb b c)
theorem et_and (h1 : EvT a G t σ B1) (h2 : B1 true → EvT a G u σ B) (h3 : B1 false → B false) : EvT a G (tAnd t u) σ B := fun S H1 f s Q q => h1 S H1 f s _ fun b H2 x2 c => by
  cases b with
  | true => exact h2 c S H2 (f.ext x2) (f.same x2 s) Q fun b H3 x3 => q b H3 (x2.trans x3)
  | false => exact q false H2 x2 (h3 c)
theorem et_or (h1 : EvT a G t σ B1) (h2 : B1 false → EvT a G u σ B) (h3 : B1 true → B true) : EvT a G (tOr t u) σ B := fun S H1 f s Q q => h1 S H1 f s _ fun b H2 x2 c => by
  cases b with
  | false => exact h2 c S H2 (f.ext x2) (f.same x2 s) Q fun b H3 x3 => q b H3 (x2.trans x3)
  | true => exact q true H2 x2 (h3 c)
theorem ev_andV (h1 : Ev K a G ta σ (IsB B)) (h2 : B true → Ev K a G tb σ C) (h3 : B false → C (.bool false)) : Ev K a G (tAndV ta tb) σ C := fun S H1 f s Q q =>
  h1 S H1 f s _ fun v d H2 x2 m c => by
    obtain ⟨b, rfl, hB⟩ := c
    cases m
    refine ⟨b, rfl, ?_⟩
    cases b with
    | true => exact h2 hB S H2 (f.ext x2) (f.same x2 s) Q fun v d H3 x3 => q v d H3 (x2.trans x3)
    | false => exact q _ _ H2 x2 (.bl _) (h3 hB)
theorem ev_orV (h1 : Ev K a G ta σ (IsB B)) (h2 : B false → Ev K a G tb σ C) (h3 : B true → C (.bool true)) : Ev K a G (tOrV ta tb) σ C := fun S H1 f s Q q =>
  h1 S H1 f s _ fun v d H2 x2 m c => by
    obtain ⟨b, rfl, hB⟩ := c
    cases m
    refine ⟨b, rfl, ?_⟩
    cases b with
    | false => exact h2 hB S H2 (f.ext x2) (f.same x2 s) Q fun v d H3 x3 => q v d H3 (x2.trans x3)
    | true => exact q _ _ H2 x2 (.bl _) (h3 hB)
theorem ev_notV (h1 : Ev K a G ta σ (IsB fun b => C (.bool (!b)))) : Ev K a G (tNotV ta) σ C := fun S H1 f s Q q => h1 S H1 f s _ fun v d H2 x2 m c => by
  obtain ⟨b, rfl, hB⟩ := c
  cases m
  exact ⟨b, rfl, q _ _ H2 x2 (.bl _) hB⟩
theorem ev_if (h : EvT a G t σ B) (h1 : B true → Ev K a G ta σ C) (h2 : B false → Ev K a G tb σ C) : Ev K a G (tIf t ta tb) σ C := fun S H1 f s Q q => h S H1 f s _ fun b H2 x2 c => by
  cases b with
  | true => exact h1 c S H2 (f.ext x2) (f.same x2 s) Q fun v d H3 x3 => q v d H3 (x2.trans x3)
  | false => exact h2 c S H2 (f.ext x2) (f.same x2 s) Q fun v d H3 x3 => q v d H3 (x2.trans x3)

/-! ### arguments, displays -/
theorem ea_nil : EvA K a G tNil σ (· = []) := fun S H1 f s Q q => q [] [] H1 Ext.refl .nil rfl
theorem ea_cons (h : Ev K a G te σ C) (hr : EvA K a G tr σ A1) : EvA K a G (tCons te tr) σ (fun ds => ∃ d r, ds = d :: r ∧ C d ∧ A1 r) := fun S H1 f s Q q =>
  h S H1 f s _ fun v d H2 x2 m c => hr S H2 (f.ext x2) (f.same x2 s) _ fun vs ds H3 x3 m3 c3 => q _ _ H3 (x2.trans x3) (.cons (m.mono (x3.off f.mem)) m3) ⟨d, ds, rfl, c, c3⟩
/-- written items, each exactly known -/
theorem ea_eq {d : PyData} {ds : List PyData} (h : Ev K a G te σ (· = d)) (hr : EvA K a G tr σ (· = ds)) : EvA K a G (tCons te tr) σ (· = d :: ds) :=
  (ea_cons h hr).imp fun _ ⟨_, _, e, e1, e2⟩ => by rw [e, e1, e2]
theorem same_off_new {p : Addr} {o : HO} (hp : H p = none) : Same (off S H) (off S (upd H p o)) := fun b u e => off_mk (off_some e).1 (same_new hp b u (off_some e).2)
theorem D.new_tup {p : Addr} {vs : List V} {ds : List PyData} (hp : H p = none) (hS : p ∉ S) (m : DA K (off S H) vs ds) : D K (off S (upd H p (.tup vs))) (.ref p) (.tuple ds) :=
  .tup (.inl (.inl (off_mk hS upd_same))) (m.mono (same_off_new hp))
theorem D.new_lst {p : Addr} {vs : List V} {ds : List PyData} (hp : H p = none) (hS : p ∉ S) (m : DA K (off S H) vs ds) : D K (off S (upd H p (.lst vs))) (.ref p) (.list ds) :=
  .lst (off_mk hS upd_same) (m.mono (same_off_new hp))
theorem ev_tup (h : EvA K a G tr σ A1) (hl : ∀ ds, A1 ds → ds.length ≤ 1000) : Ev K a G (tTup tr) σ (fun d => ∃ ds, d = .tuple ds ∧ A1 ds) := fun S H1 f s Q q => h S H1 f s _ fun vs ds H2 x2 m c =>
  ⟨by rw [m.length]; exact Nat.le_of_lt (small1000 (hl ds c)), fun p hp => q _ _ _ (x2.trans (Ext.new hp)) (D.new_tup hp ((f.ext x2).out hp) m) ⟨ds, rfl, c⟩⟩
theorem ev_lst (h : EvA K a G tr σ A1) (hl : ∀ ds, A1 ds → ds.length ≤ 1000) : Ev K a G (tLst tr) σ (fun d => ∃ ds, d = .list ds ∧ A1 ds) := fun S H1 f s Q q => h S H1 f s _ fun vs ds H2 x2 m c =>
  ⟨by rw [m.length]; exact Nat.le_of_lt (small1000 (hl ds c)), fun p hp => q _ _ _ (x2.trans (Ext.new hp)) (D.new_lst hp ((f.ext x2).out hp) m) ⟨ds, rfl, c⟩⟩
theorem ev_tupE {ds : List PyData} (h : EvA K a G tr σ (· = ds)) (hl : ds.length ≤ 1000) : Ev K a G (tTup tr) σ (· = .tuple ds) := (ev_tup h fun _ e => by rw [e]; exact hl).imp fun _ ⟨_, e, e'⟩ => by rw [e, e']
theorem ev_lstE {ds : List PyData} (h : EvA K a G tr σ (· = ds)) (hl : ds.length ≤ 1000) : Ev K a G (tLst tr) σ (· = .list ds) := (ev_lst h fun _ e => by rw [e]; exact hl).imp fun _ ⟨_, e, e'⟩ => by rw [e, e']

/-! ### calls -/
/-- what a built-in gives for data -/
def RCD (K : PySem.W.Frag) (a : Addr) (r : List V → Hp → VK → Prop) (ds : List PyData) (C : PyData → Prop) : Prop :=
  ∀ S H vs, Fr a S H → DA K (off S H) vs ds → ∀ Q : VK, (∀ v z H2, Ext a H H2 → D K (off S H2) v z → C z → Q v H2) → r vs H Q
theorem ev_cb {r : List V → Hp → VK → Prop} (h : EvA K a G tr σ A1) (hr : ∀ ds, A1 ds → RCD K a r ds C) : Ev K a G (tCB r tr) σ C := fun S H1 f s Q q =>
  h S H1 f s _ fun vs ds H2 x2 m c => hr ds c S H2 vs (f.ext x2) m Q fun z g H3 x3 m3 c3 => q z g H3 (x2.trans x3) m3 c3
/-- a def's promise, by data: asked and given -/
def spG (K : PySem.W.Frag) (pre : List PyData → Prop) (post : List PyData → PyData → Prop) : Sp := fun vs H Q _ => ∃ (a : Addr) (S : List Addr) (ds : List PyData),
  Fr a S H ∧ DA K (off S H) vs ds ∧ pre ds ∧ ∀ v d H', Ext a H H' → D K (off S H') v d → post ds d → Q v H'
/-- the same with the pot as the first argument -/
def spP (K : PySem.W.Frag) (pre : List PyData → Prop) (post : List PyData → PyData → Prop) : Sp := fun vs H Q _ => ∃ (a : Addr) (S : List Addr) (ws : List V) (ds : List PyData),
  vs = .ref a :: ws ∧ Fr a S H ∧ DA K (off S H) ws ds ∧ pre ds ∧ ∀ v d H', Ext a H H' → D K (off S H') v d → post ds d → Q v H'
theorem spG_len {pre : List PyData → Prop} {post : List PyData → PyData → Prop} {n : Nat} (hp : ∀ ds, pre ds → ds.length = n) {vs : List V} {H : Hp} {Q : VK} {E : XK} (h : spG K pre post vs H Q E) : vs.length = n := by
  obtain ⟨a, S, ds, _, m, p, _⟩ := h
  rw [m.length]
  exact hp ds p
theorem spP_len {pre : List PyData → Prop} {post : List PyData → PyData → Prop} {n : Nat} (hp : ∀ ds, pre ds → ds.length = n) {vs : List V} {H : Hp} {Q : VK} {E : XK} (h : spP K pre post vs H Q E) : vs.length = n + 1 := by
  obtain ⟨a, S, ws, ds, rfl, _, m, p, _⟩ := h
  rw [List.length_cons, m.length, hp ds p]
theorem ev_callG {pre : List PyData → Prop} {post : List PyData → PyData → Prop} {E : XK} (h : EvA K a G tr σ A1) (hp : ∀ ds, A1 ds → pre ds) (hc : ∀ ds d, A1 ds → post ds d → C d) :
    Ev K a G (tCall (spG K pre post) [] E tr) σ C := fun S H1 f s Q q => h S H1 f s _ fun vs ds H2 x2 m c =>
  ⟨a, S, ds, f.ext x2, by rw [List.append_nil]; exact m, hp ds c, fun v d H3 x3 m3 p => q v d H3 (x2.trans x3) m3 (hc ds d c p)⟩
theorem ev_callP {pre : List PyData → Prop} {post : List PyData → PyData → Prop} {E : XK} {i : Nat} (hi : σ[i]? = some (some (.ref a))) (h : EvA K a G tr σ A1) (hp : ∀ ds, A1 ds → pre ds) (hc : ∀ ds d, A1 ds → post ds d → C d) :
    Ev K a G (tCall (spP K pre post) [] E (tCons (tVar i) tr)) σ C := fun S H1 f s Q q => ⟨.ref a, hi, h S H1 f s _ fun vs ds H2 x2 m c =>
  ⟨a, S, vs, ds, by rw [List.append_nil], f.ext x2, m, hp ds c, fun v d H3 x3 m3 p => q v d H3 (x2.trans x3) m3 (hc ds d c p)⟩⟩
theorem ev_callK0 {pre : List PyData → Prop} {post : List PyData → PyData → Prop} {E : XK} {n : Nat} {g : {α : Type} → List α → List α} (h : EvA K a G tr σ A1) (hn : ∀ ds, A1 ds → ds.length = n)
    (hg : ∀ {H : Hp} {vs : List V} {ds : List PyData}, vs.length = n → DA K H vs ds → DA K H (g vs) (g ds)) (hp : ∀ ds, A1 ds → pre (g ds)) (hc : ∀ ds d, A1 ds → post (g ds) d → C d) :
    Ev K a G (tCallK0 n (spG K pre post) g E tr) σ C := fun S H1 f s Q q => h S H1 f s _ fun vs ds H2 x2 m c =>
  ⟨by rw [m.length]; exact hn ds c, a, S, g ds, f.ext x2, hg (by rw [m.length]; exact hn ds c) m, hp ds c, fun v d H3 x3 m3 p => q v d H3 (x2.trans x3) m3 (hc ds d c p)⟩

/-! ### statements -/
variable {Dn : Ends} {t1 t2 : TS}
theorem q_set {i : Nat} (h : Ev K a G te σ C) (f : Fr a S H) (s : Same G (off S H)) (q : ∀ v d H', Ext a H H' → Fr a S H' → D K (off S H') v d → C d → Dn.nx (σ.set i (some v)) H') : tAsg te (gName i) Dn σ H :=
  h S H f s _ fun v d H2 x m c => q v d H2 x (f.ext x) m c
theorem q_ret (h : Ev K a G te σ C) (f : Fr a S H) (s : Same G (off S H)) (q : ∀ v d H', Ext a H H' → D K (off S H') v d → C d → Dn.rt v H') : tRet te Dn σ H :=
  h S H f s _ fun v d H2 x m c => q v d H2 x m c
theorem q_drop (h : Ev K a G te σ C) (f : Fr a S H) (s : Same G (off S H)) (q : ∀ H', Ext a H H' → Fr a S H' → Dn.nx σ H') : tDrop te Dn σ H :=
  h S H f s _ fun v d H2 x m c => q H2 x (f.ext x)
theorem q_if (h : EvT a G t σ B) (f : Fr a S H) (s : Same G (off S H)) (q1 : ∀ H', Ext a H H' → Fr a S H' → B true → t1 Dn σ H') (q2 : ∀ H', Ext a H H' → Fr a S H' → B false → t2 Dn σ H') : tIfS t t1 t2 Dn σ H :=
  h S H f s _ fun b H2 x c => by
    cases b with
    | true => exact q1 H2 x (f.ext x) c
    | false => exact q2 H2 x (f.ext x) c

/-! ### comprehensions: what is walked comes to n items, the j-th of data in X j; every item gives one of data in Y -/
theorem ev_lc {wi : TI} {tt : TT} {vs : List Nat} {j : Nat} {N : Nat → Prop} {J : Nat → It} {Y : Nat → PyData → Prop}
    (hw : ∀ S H1, Fr a S H1 → Same G (off S H1) → ∀ R : It → Hp → Prop, (∀ n H2, Ext a H1 H2 → N n → R (J n) H2) → wi σ H1 R)
    (hgo : ∀ n i H', N n → i < n → (J n).go i H') (hst : ∀ n i H', N n → n ≤ i → (J n).stop i H')
    (hb : ∀ n i, N n → i < n → ∀ H' x H2, (J n).yld i H' x H2 → H2 = H' ∧ wipe ((wipe σ vs).set j (some x)) vs = wipe σ vs ∧ EvT a G tt ((wipe σ vs).set j (some x)) (· = true) ∧ Ev K a G te ((wipe σ vs).set j (some x)) (Y i))
    (hn : ∀ n, N n → n < 100000) :
    Ev K a G (tLc wi (gName j) tt te vs) σ (fun d => ∃ n ds, N n ∧ d = .list ds ∧ ds.length = n ∧ ∀ i z, ds[i]? = some z → Y i z) := by
  intro S H1 f s Q q
  refine hw S H1 f s _ fun n H2 x2 hN L hL => ?_
  have f2 := f.ext x2
  have hLS := f2.out hL
  refine ⟨fun i m H' => m = n - i ∧ i ≤ n ∧ Ext a H2 H' ∧ ∃ acc ds, H' L = some (.lst acc) ∧ DA K (off (L :: S) H') acc ds ∧ ds.length = i ∧ ∀ i z, ds[i]? = some z → Y i z,
    ⟨n, by simp, Nat.zero_le _, Ext.new hL, [], [], upd_same, .nil, rfl, fun i z e => by simp at e⟩, ?_⟩
  rintro i m H' ⟨rfl, hi, x', acc, ds, hacc, md, hlen, hY⟩
  have x12 := x2.trans x'
  have fL : Fr a (L :: S) H' := by
    refine ⟨List.mem_cons_of_mem _ f.mem, (f.ext x12).pot, fun b m => ?_⟩
    rcases List.mem_cons.mp m with e | m
    · rw [e]
      exact ⟨_, hacc⟩
    · exact (f.ext x12).all b m
  have sL : Same G (off (L :: S) H') := by
    have s2 : Same G (off S H2) := f.same x2 s
    intro b o e
    have e2 := s2 b o e
    have e3 := x'.off f.mem b o e2
    exact same_off_push hL (x'.off f.mem) b o e2
  have haL : L ≠ a := fun e => hLS (e ▸ f.mem)
  by_cases hlt : i < n
  · refine .inr ⟨hgo n i H' hN hlt, fun H'' => (n - (i + 1) = n - (i + 1) ∧ i + 1 ≤ n ∧ Ext a H2 H'' ∧ ∃ acc ds, H'' L = some (.lst acc) ∧ DA K (off (L :: S) H'') acc ds ∧ ds.length = i + 1 ∧ ∀ i z, ds[i]? = some z → Y i z), ?_, ?_⟩
    · intro H'' h
      exact ⟨n - (i + 1), by omega, h⟩
    · intro x H3 hy
      obtain ⟨e3, hwp, ht, he⟩ := hb n i hN hlt H' x H3 hy
      subst e3
      refine ⟨hwp, ?_⟩
      refine ht (L :: S) H3 fL sL _ fun b H4 x4 eb => ?_
      subst eb
      show te _ H4 _
      have f4 := fL.ext x4
      refine he (L :: S) H4 f4 (fL.same x4 sL) _ fun v d H5 x5 m5 c5 => ?_
      have x45 := x4.trans x5
      have hacc5 : H5 L = some (.lst acc) := x45.keep _ _ haL hacc
      have md5 : DA K (off (L :: S) H5) acc ds := md.mono (x45.off fL.mem)
      have off5 : off (L :: S) (upd H5 L (.lst (acc ++ [v]))) = off (L :: S) H5 := by
        funext b
        unfold off
        by_cases hb : b ∈ L :: S
        · rw [if_pos hb, if_pos hb]
        · rw [if_neg hb, if_neg hb, upd_ne (fun e => hb (by rw [e]; exact List.mem_cons_self))]
      refine ⟨acc, hacc5, ?_, rfl, hlt, ?_, acc ++ [v], ds ++ [d], upd_same, ?_, ?_, ?_⟩
      · rw [md.length, hlen]
        exact Nat.lt_trans (Nat.lt_of_lt_of_le hlt (Nat.le_of_lt (hn n hN))) (by decide)
      · have xx := x'.trans x45
        refine ⟨fun b o nb hb => ?_, fun hp => ?_⟩
        · rw [upd_ne (ne_of_none hb hL)]
          exact xx.keep b o nb hb
        · obtain ⟨p, q, h1, h2⟩ := xx.pot hp
          exact ⟨p, q, by rw [upd_ne haL.symm]; exact h1, h2⟩
      · rw [off5]
        exact md5.append (.cons m5 .nil)
      · rw [List.length_append, hlen]
        rfl
      · intro i2 z hz
        rw [List.getElem?_append] at hz
        split at hz
        · exact hY i2 z hz
        · rename_i h2
          have h3 : i2 - ds.length = 0 := by
            by_cases h4 : i2 - ds.length = 0
            · exact h4
            · rw [List.getElem?_eq_none (by simp; omega)] at hz
              cases hz
          rw [h3] at hz
          simp at hz
          subst hz
          have : i2 = i := by omega
          rw [this]
          exact c5
  · have hin : i = n := by omega
    refine .inl ⟨hst n i H' hN (by omega), ?_⟩
    refine q (.ref L) (.list ds) H' x12 ?_ ⟨n, ds, hN, rfl, by omega, hY⟩
    exact .lst (off_mk hLS hacc) (md.mono same_off_pop)
end
end LK
set_option Elab.async false
set_option linter.all false
set_option maxRecDepth 100000
set_option maxHeartbeats 4000000
/-! LK4: repr of data; isinstance of data; texts -/
namespace LK
open PySem PySem.Spec L2
open PyProof.Rows hiding St

section
variable {X : Cx} {pins : List (Addr × Obj)} {σ : St} {H : Hp} {s : Shared}
theorem key_reads {k : Key} {u : Value} {h : Heap} (e : keyIs k u = true) : Reads h u (kD k) [] := by
  rcases keyIs_shape e with ⟨i, t, rfl, rfl⟩ | ⟨x, t, rfl, rfl⟩
  · exact .int i t
  · exact .str x t
theorem keys_read {h : Heap} : ∀ {es : List DictEntry} {vs : List (Key × Value)}, Pairs (mixKind X.prog X.w) es vs → ReadsAll h (es.map (·.key)) (vs.map fun p => kD p.1) []
  | _, _, .nil => .nil
  | _, _, .cons e _ t => .cons (as := []) (bs := []) (key_reads e) (keys_read t)
theorem vals_at : ∀ {es : List DictEntry} {vs : List (Key × Value)}, Pairs (mixKind X.prog X.w) es vs → es.map (·.val) = vs.map (·.2)
  | _, _, .nil => rfl
  | _, _, .cons _ e t => by
    rw [List.map_cons, List.map_cons, vals_at t, e]
mutual
theorem D.reads (I : Inv X pins σ H s) : ∀ (d : PyData) (v : V) (u : Value), D X.K H v d → RelV v u → ∃ as, Reads s.heap u d as
  | .none, _, _, h, r => by
    cases h
    cases r
    exact ⟨_, .none⟩
  | .bool b, _, _, h, r => by
    cases h
    cases r
    exact ⟨_, .bool b⟩
  | .int i, _, _, h, r => by
    cases h
    obtain ⟨t, rfl⟩ := r
    exact ⟨_, .int i t⟩
  | .str x, _, _, h, r => by
    cases h
    obtain ⟨t, rfl⟩ := r
    exact ⟨_, .str x t⟩
  | .list ds, _, _, h, r => by
    cases h with
    | lst h1 h2 =>
      cases r
      obtain ⟨its, rv, ⟨o, n, ho, hc, _, hd⟩, _⟩ := I.list (SqL.of h1)
      obtain ⟨as, q⟩ := DA.reads I ds _ its h2 rv
      exact ⟨_, .list ho hc hd q⟩
  | .tuple ds, _, _, h, r => by
    cases h with
    | tup h1 h2 =>
      cases r
      obtain ⟨its, rv, ⟨o, ho, hc, n, hd⟩, _⟩ := I.tuple h1
      obtain ⟨as, q⟩ := DA.reads I ds _ its h2 rv
      exact ⟨_, .tuple ho hc hd q⟩
  | .dict ds, _, _, h, r => by
    cases h with
    | dic h1 h2 =>
      cases r
      obtain ⟨z, ny, vs, rk, o, es, ep, ho, hx, hd, _, hp, _⟩ := I.hok _ _ h1
      obtain ⟨e1, rv, da⟩ := kv_of rk h2
      obtain ⟨bs, q2⟩ := DK.reads I ds _ vs h2 rk
      refine ⟨_, Reads.dict (as := []) (bs := bs) ho hx.1 hd ?_ ?_⟩
      · rw [e1]
        exact keys_read hp
      · rw [vals_at hp]
        exact q2
theorem DA.reads (I : Inv X pins σ H s) : ∀ (ds : List PyData) (vs : List V) (us : List Value), DA X.K H vs ds → Vals vs us → ∃ as, ReadsAll s.heap us ds as
  | [], _, _, h, r => by
    cases h
    cases r
    exact ⟨_, .nil⟩
  | d :: ds, _, _, h, r => by
    cases h with
    | cons h1 h2 =>
      cases r with
      | cons r1 r2 =>
        obtain ⟨as, q1⟩ := D.reads I d _ _ h1 r1
        obtain ⟨bs, q2⟩ := DA.reads I ds _ _ h2 r2
        exact ⟨_, .cons q1 q2⟩
theorem DK.reads (I : Inv X pins σ H s) : ∀ (ds : List (PyData × PyData)) (kvs : List (Key × V)) (vs : List (Key × Value)), DK X.K H kvs ds → KV kvs vs → ∃ as, ReadsAll s.heap (vs.map (·.2)) (ds.map (·.2)) as
  | [], _, _, h, r => by
    cases h
    cases r
    exact ⟨_, .nil⟩
  | (k, d) :: ds, _, _, h, r => by
    cases h with
    | cons h1 h2 =>
      cases r with
      | cons r1 r2 =>
        obtain ⟨as, q1⟩ := D.reads I d _ _ h1 r1.2
        obtain ⟨bs, q2⟩ := DK.reads I ds _ _ h2 r2
        exact ⟨_, .cons q1 q2⟩
end
/-! the text of each part, whoever is being written around -/
abbrev RK (X : Cx) (h : Heap) (n : Nat) (u : Value) (t : Str) : Prop := ∃ bs, ReadAtMost h n bs ∧ ReprK X.prog X.w bs h n u t
abbrev RKA (X : Cx) (h : Heap) (n : Nat) (us : List Value) (ts : List Str) : Prop := ∃ bs, ReadAtMost h n bs ∧ ReprAllK X.prog X.w bs h n us ts
theorem ram_nil {h : Heap} {n : Nat} : ReadAtMost h n [] := by
  intro b m
  cases m
theorem rk_flat {h : Heap} {n : Nat} {u : Value} {t : Str} (r : ReprIs X.prog X.w u t) : RK X h n u t := ⟨[], ram_nil, .of_is r _ _ _⟩
theorem rka_cons {h : Heap} {n m : Nat} {u : Value} {us : List Value} {t : Str} {ts : List Str} (a : RK X h n u t) (b : RKA X h m us ts) : RKA X h (max n m) (u :: us) (t :: ts) := by
  obtain ⟨b1, r1, k1⟩ := a
  obtain ⟨b2, r2, k2⟩ := b
  refine ⟨b1 ++ b2, (r1.mono (Nat.le_max_left _ _)).append (r2.mono (Nat.le_max_right _ _)), .cons ?_ ?_⟩
  · exact (k1.more fun b m => List.mem_append_left _ m).level_le (Nat.le_max_left _ _)
  · exact k2.more_le (fun b m => List.mem_append_right _ m) (Nat.le_max_right _ _)
theorem shownAll_map : ∀ ds : List PyData, PyData.shownAll ds = ds.map PyData.shown
  | [] => by simp only [PyData.shownAll, List.map_nil]
  | d :: ds => by simp only [PyData.shownAll, List.map_cons, shownAll_map ds]
theorem keys_rk {h : Heap} : ∀ {es : List DictEntry} {vs : List (Key × Value)}, Pairs (mixKind X.prog X.w) es vs → (∀ p ∈ vs, (kD p.1).showable = true ∧ (kD p.1).shown.length ≤ sizeLine) → RKA X h 0 (es.map (·.key)) (vs.map fun p => (kD p.1).shown)
  | _, _, .nil, _ => ⟨[], ram_nil, .nil⟩
  | _, _, .cons (e := e) (kv := kv) is _ t, ok => by
    have one : RK X h 0 e.key (kD kv.1).shown := by
      have ok1 := ok kv (List.mem_cons_self ..)
      obtain ⟨k, val⟩ := kv
      rcases keyIs_shape is with ⟨i, tk, e1, e2⟩ | ⟨x, tk, e1, e2⟩
      · simp only at e1
        subst e1
        rw [e2]
        have z := ok1.1
        simp only [kD, PyData.showable, decide_eq_true_eq] at z
        rw [show (kD (.inl i)).shown = ((toString i : String) : Str) from PyData.shown_int i]
        exact rk_flat (ReprIs.int tk z)
      · simp only at e1
        subst e1
        rw [e2]
        have z := ok1.2
        rw [show (kD (.inr x)).shown = reprText x from PyData.shown_str x] at z ⊢
        exact rk_flat (ReprIs.str x tk z)
    have r := rka_cons one (keys_rk t fun p m => ok p (List.mem_cons_of_mem _ m))
    exact r
theorem dict_parts (I : Inv X pins σ H s) {a : Addr} {kvs : List (Key × V)} {ds : List (PyData × PyData)} (h1 : H a = some (.dK kvs)) (h2 : DK X.K H kvs ds) (sh : PyData.showableKv ds = true) (fit : (dictText (PyData.shownKv ds)).length ≤ sizeLine)
    (vals : ∀ vs, KV kvs vs → RKA X s.heap (PyData.depthAll (ds.map (·.2))) (vs.map (·.2)) (PyData.shownAll (ds.map (·.2)))) :
    ∃ o es n bs as, s.heap.get? a = some o ∧ o.cls = .type "dict" ∧ o.data = .dict es n ∧ (a == sysModules) = false ∧ a ∉ bs ∧ Reads s.heap (.ref a) (.dict ds) as ∧ ReadAtMost s.heap (PyData.depthKv ds) bs ∧
      ReprEntriesK X.prog X.w bs s.heap (PyData.depthKv ds) es.toList (List.zipWith (fun k v : Str => k ++ ": " ++ v) (PyData.shownAll (ds.map (·.1))) (PyData.shownAll (ds.map (·.2)))) := by
  obtain ⟨z, ny, vs, rk, o, es, ep, ho, hx, hd, _, hp, _⟩ := I.hok _ _ h1
  obtain ⟨e1, rv, da⟩ := kv_of rk h2
  obtain ⟨cs, q2⟩ := DK.reads I ds _ vs h2 rk
  have q1 : ReadsAll s.heap (es.toList.map (·.key)) (ds.map (·.1)) [] := by
    rw [e1]
    exact keys_read hp
  rw [← vals_at hp] at q2
  have rd := Reads.dict ho hx.1 hd q1 q2
  obtain ⟨sh1, sh2⟩ := PyData.showableKv_split ds sh
  have fit1 : ∀ t ∈ PyData.shownAll (ds.map (·.1)), t.length ≤ sizeLine := fun t m => by
    obtain ⟨p, hp, l⟩ := PyData.shownKv_key_le ds t m
    exact Nat.le_trans l (Nat.le_trans (dictText_mem_le hp) fit)
  have ek : PyData.shownAll (ds.map (·.1)) = vs.map fun p => (kD p.1).shown := by
    rw [shownAll_map, e1, List.map_map]
    rfl
  obtain ⟨b1, am1, k1⟩ := keys_rk (X := X) (h := s.heap) hp fun p m => by
    refine ⟨?_, fit1 _ ?_⟩
    · rw [e1] at sh1
      have all : ∀ l : List (Key × Value), PyData.showableAll (l.map fun p => kD p.1) = true → ∀ p ∈ l, (kD p.1).showable = true := by
        intro l
        induction l with
        | nil =>
          intro _ p m
          cases m
        | cons x r ih =>
          intro h p m
          simp only [List.map_cons, PyData.showableAll, Bool.and_eq_true] at h
          rcases List.mem_cons.mp m with e | m
          · rw [e]
            exact h.1
          · exact ih h.2 p m
      exact all vs sh1 p m
    · rw [ek]
      exact List.mem_map.mpr ⟨p, m, rfl⟩
  obtain ⟨b2, am2, k2⟩ := vals vs rk
  rw [← vals_at hp] at k2
  rw [← ek] at k1
  have am : ReadAtMost s.heap (PyData.depthKv ds) (b1 ++ b2) := (am1.mono (Nat.zero_le _)).append (am2.mono (PyData.depthAll_vals_le ds))
  refine ⟨o, es, _, b1 ++ b2, _, ho, hx.1, hd, ny, not_mem_of_deeper rd (by simp only [PyData.depth]; exact Nat.lt_succ_self _) am, rd, am, ?_⟩
  refine ReprEntriesK.of_two es.toList _ _ (k1.more_le (fun b m => List.mem_append_left _ m) (Nat.zero_le _)) ?_
  exact k2.more_le (fun b m => List.mem_append_right _ m) (PyData.depthAll_vals_le ds)
mutual
theorem D.rk (I : Inv X pins σ H s) : ∀ (d : PyData) (v : V) (u : Value), D X.K H v d → RelV v u → d.showable = true → d.shown.length ≤ sizeLine → RK X s.heap d.depth u d.shown
  | .none, _, _, h, r, _, _ => by
    cases h
    cases r
    rw [PyData.shown_none]
    exact rk_flat ReprIs.none
  | .bool b, _, _, h, r, _, _ => by
    cases h
    cases r
    rw [PyData.shown_bool]
    exact rk_flat (ReprIs.bool b)
  | .int i, _, _, h, r, sh, _ => by
    cases h
    obtain ⟨t, rfl⟩ := r
    simp only [PyData.showable, decide_eq_true_eq] at sh
    rw [PyData.shown_int]
    exact rk_flat (ReprIs.int t sh)
  | .str x, _, _, h, r, _, fit => by
    cases h
    obtain ⟨t, rfl⟩ := r
    rw [PyData.shown_str] at fit ⊢
    exact rk_flat (ReprIs.str x t fit)
  | .list ds, _, _, h, r, sh, fit => by
    cases h with
    | lst h1 h2 =>
      cases r
      obtain ⟨its, rv, ⟨o, n, ho, hc, _, hd⟩, _⟩ := I.list (SqL.of h1)
      obtain ⟨as, q⟩ := DA.reads I ds _ its h2 rv
      have rd := Reads.list ho hc hd q
      simp only [PyData.showable] at sh
      simp only [PyData.shown] at fit ⊢
      simp only [PyData.depth]
      obtain ⟨bs, am, kk⟩ := DA.rk I ds _ its h2 rv sh fun t m => Nat.le_trans (listText_mem_le m) fit
      have out := not_mem_of_deeper rd (by simp only [PyData.depth]; exact Nat.lt_succ_self _) am
      have am2 := ReadAtMost.cons rd (by simp only [PyData.depth]; exact Nat.le_succ _) am
      simp only [PyData.depth] at am2
      cases its with
      | nil =>
        cases q
        simp only [PyData.shownAll, listText_nil]
        exact ⟨_, am2, ReprK.listEmpty ho hc hd⟩
      | cons y l =>
        refine ⟨_, am2, ReprK.list ho hc hd out ?_ fun i z e => kk.item i z (by simpa using e)⟩
        simpa using kk.length_eq
  | .tuple ds, _, _, h, r, sh, fit => by
    cases h with
    | tup h1 h2 =>
      cases r
      obtain ⟨its, rv, ⟨o, ho, hc, n, hd⟩, _⟩ := I.tuple h1
      obtain ⟨as, q⟩ := DA.reads I ds _ its h2 rv
      have rd := Reads.tuple ho hc hd q
      simp only [PyData.showable] at sh
      simp only [PyData.shown] at fit ⊢
      simp only [PyData.depth]
      obtain ⟨bs, am, kk⟩ := DA.rk I ds _ its h2 rv sh fun t m => Nat.le_trans (tupleText_mem_le m) fit
      have out := not_mem_of_deeper rd (by simp only [PyData.depth]; exact Nat.lt_succ_self _) am
      have am2 := ReadAtMost.cons rd (by simp only [PyData.depth]; exact Nat.le_succ _) am
      simp only [PyData.depth] at am2
      exact ⟨_, am2, ReprK.tuple ho hc hd out kk⟩
  | .dict ds, _, _, h, r, sh, fit => by
    cases h with
    | dic h1 h2 =>
      cases r
      simp only [PyData.showable] at sh
      simp only [PyData.shown] at fit ⊢
      simp only [PyData.depth]
      obtain ⟨sh1, sh2⟩ := PyData.showableKv_split ds sh
      have fit2 : ∀ t ∈ PyData.shownAll (ds.map (·.2)), t.length ≤ sizeLine := fun t m => by
        obtain ⟨p, hp, l⟩ := PyData.shownKv_val_le ds t m
        exact Nat.le_trans l (Nat.le_trans (dictText_mem_le hp) fit)
      obtain ⟨o, es, n, bs, as, ho, hc, hd, ny, out, rd, am, ee⟩ := dict_parts I h1 h2 sh fit fun vs rk => DK.rk I ds _ vs h2 rk sh2 fit2
      have am3 := ReadAtMost.cons rd (by simp only [PyData.depth]; exact Nat.le_succ _) am
      simp only [PyData.depth] at am3
      rw [PyData.shownKv_eq]
      exact ⟨_, am3, ReprK.dict ho hc hd ny out ee⟩
theorem DA.rk (I : Inv X pins σ H s) : ∀ (ds : List PyData) (vs : List V) (us : List Value), DA X.K H vs ds → Vals vs us → PyData.showableAll ds = true → (∀ t ∈ PyData.shownAll ds, t.length ≤ sizeLine) → RKA X s.heap (PyData.depthAll ds) us (PyData.shownAll ds)
  | [], _, _, h, r, _, _ => by
    cases h
    cases r
    simp only [PyData.shownAll]
    exact ⟨[], ram_nil, .nil⟩
  | d :: ds, _, _, h, r, sh, fit => by
    cases h with
    | cons h1 h2 =>
      cases r with
      | cons r1 r2 =>
        simp only [PyData.showableAll, Bool.and_eq_true] at sh
        simp only [PyData.shownAll] at fit ⊢
        simp only [PyData.depthAll]
        exact rka_cons (D.rk I d _ _ h1 r1 sh.1 (fit _ (List.mem_cons_self ..))) (DA.rk I ds _ _ h2 r2 sh.2 fun t m => fit t (List.mem_cons_of_mem _ m))
theorem DK.rk (I : Inv X pins σ H s) : ∀ (ds : List (PyData × PyData)) (kvs : List (Key × V)) (vs : List (Key × Value)), DK X.K H kvs ds → KV kvs vs → PyData.showableAll (ds.map (·.2)) = true → (∀ t ∈ PyData.shownAll (ds.map (·.2)), t.length ≤ sizeLine) →
    RKA X s.heap (PyData.depthAll (ds.map (·.2))) (vs.map (·.2)) (PyData.shownAll (ds.map (·.2)))
  | [], _, _, h, r, _, _ => by
    cases h
    cases r
    simp only [List.map_nil, PyData.shownAll]
    exact ⟨[], ram_nil, .nil⟩
  | (k, d) :: ds, _, _, h, r, sh, fit => by
    cases h with
    | cons h1 h2 =>
      cases r with
      | cons r1 r2 =>
        simp only [List.map_cons, PyData.showableAll, Bool.and_eq_true] at sh
        simp only [List.map_cons, PyData.shownAll] at fit ⊢
        simp only [PyData.depthAll]
        exact rka_cons (D.rk I d _ _ h1 r1.2 sh.1 (fit _ (List.mem_cons_self ..))) (DK.rk I ds _ _ h2 r2 sh.2 fun t m => fit t (List.mem_cons_of_mem _ m))
end
end

/-- data that repr takes: no part too long -/
structure Tame (d : PyData) : Prop where
  sh : d.showable = true
  lv : d.leavesShort 2000 = true
  bk : d.bulk ≤ 8000
  dp : d.depth ≤ 60
theorem Tame.fits {d : PyData} (t : Tame d) : d.shown.length ≤ sizeLine := by
  have h := PyData.shown_le_bulk 2000 (by decide) d t.lv
  have := t.bk
  rw [sizeLine_eq]
  omega
def rRepr (K : PySem.W.Frag) : List V → Hp → VK → Prop := fun xs H Q => ∃ v d, xs = [v] ∧ D K H v d ∧ Tame d ∧ Q (.str d.shown) H
section
variable {X : Cx}
theorem call_repr (hg : NoG X.A) (hu : X.A.units + 64 < cLine) : CallR X (.builtin "repr") (rRepr X.K) := by
  intro pins s σ H xs us Q I r h
  obtain ⟨v, d, rfl, m, tm, q⟩ := h
  obtain ⟨u, rfl, ru⟩ := vals1 r
  have fit := tm.fits
  have room : X.A.units + 1 + d.depth < cLine := by
    have := tm.dp
    omega
  have fin : ∀ h' t tk, (∀ b o, s.heap.get? b = some o → h'.get? b = some o) → EP X pins σ Q (.str d.shown t) { s with heap := h', toks := tk } := fun h' t tk k => ⟨.str d.shown, H, I.kept k, ⟨_, rfl⟩, q⟩
  cases m with
  | non =>
    obtain rfl : u = Value.none := ru
    rw [PyData.shown_none] at q
    exact P.repr_of_none ⟨.str _, H, I.tok _, ⟨_, rfl⟩, q⟩
  | bl b =>
    obtain rfl : u = Value.bool b := ru
    rw [PyData.shown_bool] at q
    exact P.repr_of_bool ⟨.str _, H, I.tok _, ⟨_, rfl⟩, q⟩
  | int i =>
    obtain ⟨t, rfl⟩ := ru
    rw [PyData.shown_int] at q
    have z := tm.sh
    simp only [PyData.showable, decide_eq_true_eq] at z
    exact P.repr_of_int z ⟨.str _, H, I.tok _, ⟨_, rfl⟩, q⟩
  | str x =>
    obtain ⟨t, rfl⟩ := ru
    rw [PyData.shown_str] at q fit
    exact P.repr_of_str ⟨.str _, H, I.tok _, ⟨_, rfl⟩, q⟩ fit
  | lst h1 h2 =>
    obtain rfl := ru
    rename_i ds
    obtain ⟨its, rv, ⟨o, n, ho, hc, _, hd⟩, _⟩ := I.list (SqL.of h1)
    obtain ⟨as, rd⟩ := DA.reads I ds _ its h2 rv
    have sh := tm.sh
    simp only [PyData.showable] at sh
    simp only [PyData.depth] at room
    simp only [PyData.shown] at fit fin
    obtain ⟨bs, am, kk⟩ := DA.rk I ds _ its h2 rv sh fun t m => Nat.le_trans (listText_mem_le m) fit
    have out := not_mem_of_deeper (Reads.list ho hc hd rd) (by simp only [PyData.depth]; exact Nat.lt_succ_self _) am
    have ty : s.TypeIs (.ref _) "list" := ⟨o, ho, hc⟩
    apply call_repr_slot (by omega) ty F.slot_list_repr.toG
    cases its with
    | nil =>
      cases rd
      simp only [PyData.shownAll, listText_nil] at fin
      exact call_list_repr_empty ⟨o, ho, hc⟩ ho hd ⟨_, _, rfl, fin s.heap _ _ fun _ _ e => e⟩
    | cons y l =>
      exact call_list_reprK ho hc hd out (by simpa using kk.length_eq) (fun i z e => kk.item i z (by simpa using e)) hg (fun b _ => Clear.nil b) room (fun _ _ e => e) (fun h' t tk k => ⟨_, _, rfl, fin h' t tk k⟩) fit
  | tup h1 h2 =>
    obtain rfl := ru
    rename_i ds
    obtain ⟨its, rv, ⟨o, ho, hc, n, hd⟩, _⟩ := I.tuple h1
    obtain ⟨as, rd⟩ := DA.reads I ds _ its h2 rv
    have sh := tm.sh
    simp only [PyData.showable] at sh
    simp only [PyData.depth] at room
    simp only [PyData.shown] at fit fin
    obtain ⟨bs, am, kk⟩ := DA.rk I ds _ its h2 rv sh fun t m => Nat.le_trans (tupleText_mem_le m) fit
    have out := not_mem_of_deeper (Reads.tuple ho hc hd rd) (by simp only [PyData.depth]; exact Nat.lt_succ_self _) am
    have ty : s.TypeIs (.ref _) "tuple" := ⟨o, ho, hc⟩
    apply call_repr_slot (by omega) ty F.slot_tuple_repr
    exact call_tuple_reprK ho hc hd out kk hg (fun b _ => Clear.nil b) room (fun _ _ e => e) (fun h' t tk k => ⟨_, _, rfl, fin h' t tk k⟩) fit
  | dic h1 h2 =>
    obtain rfl := ru
    rename_i a kvs ds
    have sh := tm.sh
    simp only [PyData.showable] at sh
    simp only [PyData.shown] at fit fin
    simp only [PyData.depth] at room
    obtain ⟨sh1, sh2⟩ := PyData.showableKv_split ds sh
    have fit2 : ∀ t ∈ PyData.shownAll (ds.map (·.2)), t.length ≤ sizeLine := fun t m => by
      obtain ⟨p, hp, l⟩ := PyData.shownKv_val_le ds t m
      exact Nat.le_trans l (Nat.le_trans (dictText_mem_le hp) fit)
    obtain ⟨o, es, n, bs, as, ho, hc, hd, ny, out, rd, am, ee⟩ := dict_parts I h1 h2 sh fit fun vs rk => DK.rk I ds _ vs h2 rk sh2 fit2
    rw [PyData.shownKv_eq] at fit fin
    have ty : s.TypeIs (.ref a) "dict" := ⟨o, ho, hc⟩
    apply call_repr_slot (by omega) ty F.slot_dict_repr
    exact call_dict_reprK ho hc hd ny out ee hg (fun b _ => Clear.nil b) room (fun _ _ e => e) (fun h' t tk k => ⟨_, _, rfl, fin h' t tk k⟩) fit
end

/-! ### types -/
def tyD : PyData → String
  | .none => "NoneType"
  | .bool _ => "bool"
  | .int _ => "int"
  | .str _ => "str"
  | .list _ => "list"
  | .tuple _ => "tuple"
  | .dict _ => "dict"
theorem D.ty {K : PySem.W.Frag} {H : Hp} {v : V} {d : PyData} (m : D K H v d) : TyX K H v (.type (tyD d)) := by
  cases m with
  | non => exact .base .non
  | bl b => exact .base (.bl b)
  | int i => exact .base (.int i)
  | str x => exact .base (.str x)
  | lst h1 h2 => exact .base (.lst h1)
  | tup h1 h2 =>
    rcases h1 with (h | ⟨o, h⟩) | ⟨o, its, n, h, c, _⟩
    · exact .base (.tup h)
    · exact .fTuple h
    · exact .kTuple h c
  | dic h1 h2 => exact .base (.dK h1)
section
variable {K : PySem.W.Frag} {a : Addr} {G : Hp} {σ : St} {te : TE} {C : PyData → Prop}
/-- isinstance(x, T), T a built-in class -/
theorem ev_isi {n : String} {B : Bool → Prop} (h : Ev K a G te σ C) (hk : ∀ d, C d → ∃ b, kitB (tyD d) n = some b ∧ B b) :
    Ev K a G (tCB (rIsi K) (tCons te (tCons (tC (.ty n)) tNil))) σ (IsB B) := fun S H1 f s Q q =>
  h S H1 f s _ fun v d H2 x2 m c => by
    obtain ⟨b, h1, h2⟩ := hk d c
    exact ⟨v, .ty n, .type (tyD d), .type n, b, rfl, .ty n, (m.mono off_le).ty, kit_ty h1, q _ _ H2 x2 (.bl b) ⟨b, rfl, h2⟩⟩
theorem ev_repr (h : Ev K a G te σ C) (ht : ∀ d, C d → Tame d) : Ev K a G (tCB (rRepr K) (tCons te tNil)) σ (fun z => ∃ d, C d ∧ z = .str d.shown) := fun S H1 f s Q q =>
  h S H1 f s _ fun v d H2 x2 m c => ⟨v, d, rfl, m.mono off_le, ht d c, q _ _ H2 x2 (.str _) ⟨d, c, rfl⟩⟩
theorem ev_reprE {d : PyData} (h : Ev K a G te σ (· = d)) (ht : Tame d) : Ev K a G (tCB (rRepr K) (tCons te tNil)) σ (· = .str d.shown) :=
  (ev_repr h fun _ e => e ▸ ht).imp fun _ ⟨_, e, z⟩ => by rw [z, e]
/-- == of two texts -/
theorem r2_eqStr {x y : Str} : R2D K a rEq (.str x) (.str y) (· = .bool (decide (x = y))) := by
  intro S H u v f mx my Q q
  cases mx
  cases my
  refine ⟨rfl, q _ _ H Ext.refl (.bl _) ?_⟩
  by_cases e : x = y
  · rw [e]
    simp
  · have e' : ¬ V.str x = V.str y := fun z => e (V.str.inj z)
    rw [decide_eq_false e, decide_eq_false e']
end
end LK
set_option Elab.async false
set_option linter.all false
set_option maxRecDepth 100000
set_option maxHeartbeats 4000000
/-! LK5: operators and built-ins that serve several kinds of data; what they give by data -/
namespace LK
open PySem PySem.Spec L2
open PyProof.Rows hiding St

section
variable {X : Cx}
def rAddS : R2 := fun x y H Q => ∃ i j, x = .str i ∧ y = .str j ∧ i.length + j.length ≤ sizeLine ∧ Q (.str (i ++ j)) H
def rAddA (K : PySem.W.Frag) : R2 := fun x y H Q => rI0 (fun i j => .int (i + j)) x y H Q ∨ rAddS x y H Q ∨ rCat x y H Q ∨ rCatT K x y H Q
theorem oAdd : OpR X (binaryOp .Add) (rAddA X.K) := op_add.or (OpR.or (r := rAddS) op_add_str (op_cat.or op_catT))
def rMulS : R2 := fun x y H Q => ∃ z n, x = .str z ∧ y = .int n ∧ MulOk z n ∧ Q (.str (Txt.mul z n)) H
theorem op_mulS : OpR X (binaryOp .Mult) rMulS := by
  intro pins s σ H x y v u Q I rx ry h
  obtain ⟨z, n, rfl, rfl, ok, q⟩ := h
  obtain ⟨t, rfl⟩ := rx
  obtain ⟨t', rfl⟩ := ry
  exact SB.mul ok fun t2 k => ⟨.str _, H, I.tok _, ⟨_, rfl⟩, q⟩
def rMulA : R2 := fun x y H Q => rI CMulX (fun i j => .int (i * j)) x y H Q ∨ rMulS x y H Q ∨ rRep x y H Q
theorem oMul : OpR X (binaryOp .Mult) rMulA := op_mulX.or (op_mulS.or op_rep)
def rEqA (K : PySem.W.Frag) : R2 := fun x y H Q => rEq x y H Q ∨ rEqD K x y H Q
def rNeA (K : PySem.W.Frag) : R2 := fun x y H Q => rNe x y H Q ∨ rNeD K x y H Q
theorem oEq (hu : X.A.units + 64 < cLine) : OpR X (compareOp .Eq) (rEqA X.K) := op_eq.or (op_eqD hu)
theorem oNe (hu : X.A.units + 64 < cLine) : OpR X (compareOp .NotEq) (rNeA X.K) := op_ne.or (op_neD hu)
def rSgn : R2 := fun x y H Q => ∃ (c : Nat) (z : Str), x = .str ⟨#[c]⟩ ∧ y = .str z ∧ Q (.bl (decide (c ∈ z.cps.toList))) H
def rNSgn : R2 := fun x y H Q => ∃ (c : Nat) (z : Str), x = .str ⟨#[c]⟩ ∧ y = .str z ∧ Q (.bl (!decide (c ∈ z.cps.toList))) H
def rInA (K : PySem.W.Frag) : R2 := fun x y H Q => rSgn x y H Q ∨ rIn K false x y H Q
def rNotInA (K : PySem.W.Frag) : R2 := fun x y H Q => rNSgn x y H Q ∨ rIn K true x y H Q
theorem oIn : OpR X (compareOp .In) (rInA X.K) := OpR.or (r := rSgn) op_in_sign op_in_seq
theorem oNotIn : OpR X (compareOp .NotIn) (rNotInA X.K) := OpR.or (r := rNSgn) op_notIn_sign op_notIn_seq
def rLenA (K : PySem.W.Frag) : List V → Hp → VK → Prop := fun xs H Q => ∃ x n, xs = [x] ∧ LenV K x H n ∧ Q (.int (n : Nat)) H
theorem cLen : CallR X (.builtin "len") (rLenA X.K) := call_len
theorem cIsi : CallR X (.builtin "isinstance") (rIsi X.K) := call_isi
theorem cAll (hc : X.calm = true) : CallR X (.builtin "all") (rAll X.K) := cr_all hc
def rDm : List V → Hp → VK → Prop := fun xs H Q => ∃ i j, xs = [.int i, .int j] ∧ CDivW i j ∧ ∀ p, H p = none → Q (.ref p) (upd H p (.tup [.int (i / j), .int (i % j)]))
theorem call_divmodX : CallR X (.builtin "divmod") rDm := by
  intro pins s σ H xs us Q I r h
  obtain ⟨i, j, rfl, ⟨pos, small⟩, q⟩ := h
  obtain ⟨u1, u2, rfl, ⟨t1, rfl⟩, ⟨t2, rfl⟩⟩ := vals2 r
  have nz : j ≠ 0 := by omega
  have nn : 0 ≤ j := by omega
  have fr := I.fresh
  apply PyProof.Rows.divmod_int nz _ (.inl (PyProof.noPylong_of_log2 small))
  rw [Int.fdiv_eq_ediv_of_nonneg i nn, Int.fmod_eq_emod_of_nonneg i nn]
  refine ⟨.ref s.heap.objs.size, _, I.laid (o := .tup [.int (i / j), .int (i % j)]) (fun b o e => Heap.get?_push_of_some _ e) (Nat.le_refl _) ?_, rfl, q _ fr⟩
  refine ⟨by show 2 ≤ sizeLine; decide, [.int (i / j) s.toks, .int (i % j) (s.toks + 1)], .cons ⟨_, rfl⟩ (.cons ⟨_, rfl⟩ .nil), ?_⟩
  exact ⟨_, Heap.get?_push_size s.heap rfl, rfl, 0, rfl⟩
/-! the same with the written part by its own name -/
theorem kAdd {K : PySem.W.Frag} (e : X.K = K := by rfl) : OpR X (binaryOp .Add) (rAddA K) := e ▸ oAdd
theorem kEq {K : PySem.W.Frag} (hu : X.A.units + 64 < cLine) (e : X.K = K := by rfl) : OpR X (compareOp .Eq) (rEqA K) := e ▸ oEq hu
theorem kNe {K : PySem.W.Frag} (hu : X.A.units + 64 < cLine) (e : X.K = K := by rfl) : OpR X (compareOp .NotEq) (rNeA K) := e ▸ oNe hu
theorem kIn {K : PySem.W.Frag} (e : X.K = K := by rfl) : OpR X (compareOp .In) (rInA K) := e ▸ oIn
theorem kNotIn {K : PySem.W.Frag} (e : X.K = K := by rfl) : OpR X (compareOp .NotIn) (rNotInA K) := e ▸ oNotIn
theorem kLen {K : PySem.W.Frag} (e : X.K = K := by rfl) : CallR X (.builtin "len") (rLenA K) := e ▸ cLen
theorem kIsi {K : PySem.W.Frag} (e : X.K = K := by rfl) : CallR X (.builtin "isinstance") (rIsi K) := e ▸ cIsi
theorem kAll {K : PySem.W.Frag} (hc : X.calm = true) (e : X.K = K := by rfl) : CallR X (.builtin "all") (rAll K) := e ▸ cAll hc
theorem kRepr {K : PySem.W.Frag} (hg : NoG X.A) (hu : X.A.units + 64 < cLine) (e : X.K = K := by rfl) : CallR X (.builtin "repr") (rRepr K) := by
  subst e
  exact call_repr hg hu
theorem kIx {K : PySem.W.Frag} (e : X.K = K := by rfl) : IxR X (rIx K) := e ▸ ix_seq
/-- a module's text, a module's int -/
theorem pe_gS {x z : Str} {pos : Pos} (hg : Gl X x) (hm : ∃ t, X.mg x = some (.str z t)) (hd : (x == ("__debug__" : Str)) = false := by decide) : PE X (.Name x pos) (tC (.str z)) := by
  obtain ⟨t, e⟩ := hm
  exact pe_glob hg e ⟨t, rfl⟩ hd
theorem pe_gI {x : Str} {z : Int} {pos : Pos} (hg : Gl X x) (hm : ∃ t, X.mg x = some (.int z t)) (hd : (x == ("__debug__" : Str)) = false := by decide) : PE X (.Name x pos) (tC (.int z)) := by
  obtain ⟨t, e⟩ := hm
  exact pe_glob hg e ⟨t, rfl⟩ hd
end

section
variable {K : PySem.W.Frag} {a : Addr} {S : List Addr} {σ : St} {G H : Hp} {ta tb tc te : TE} {tr : TA} {C C1 C2 : PyData → Prop} {r r' : R2} {d e : PyData}
theorem R2D.inl (h : R2D K a r d e C) : R2D K a (fun x y H Q => r x y H Q ∨ r' x y H Q) d e C := fun S H x y f m1 m2 Q q => .inl (h S H x y f m1 m2 Q q)
theorem R2D.inr (h : R2D K a r' d e C) : R2D K a (fun x y H Q => r x y H Q ∨ r' x y H Q) d e C := fun S H x y f m1 m2 Q q => .inr (h S H x y f m1 m2 Q q)
theorem R2D.imp (h : R2D K a r d e C1) (i : ∀ z, C1 z → C z) : R2D K a r d e C := fun S H x y f m1 m2 Q q => h S H x y f m1 m2 Q fun v z H2 x2 m c => q v z H2 x2 m (i z c)
/-! + -/
theorem ra_int {i j : Int} : R2D K a (rAddA K) (.int i) (.int j) (· = .int (i + j)) := R2D.inl (r2_I0 (fun _ => .int _) rfl)
theorem ra_str {i j : Str} (h : i.length + j.length ≤ 1000000) : R2D K a (rAddA K) (.str i) (.str j) (· = .str (i ++ j)) := R2D.inr (R2D.inl fun S H x y f m1 m2 Q q => by
  cases m1
  cases m2
  exact ⟨i, j, rfl, rfl, Nat.le_trans h (by decide), q _ _ H Ext.refl (.str _) rfl⟩)
theorem ra_lst {ds es : List PyData} (h : ds.length + es.length ≤ 1000000) : R2D K a (rAddA K) (.list ds) (.list es) (· = .list (ds ++ es)) := R2D.inr (R2D.inr (R2D.inl fun S H x y f m1 m2 Q q => by
  cases m1 with
  | lst h1 n1 =>
    cases m2 with
    | lst h2 n2 =>
      exact ⟨_, _, _, _, rfl, rfl, off_le _ _ h1, off_le _ _ h2, by rw [n1.length, n2.length]; exact Nat.le_trans h (by decide), fun p hp =>
        q _ _ _ (Ext.new hp) (D.new_lst hp (f.out hp) (n1.append n2)) rfl⟩))
theorem ra_tup {ds es : List PyData} (h0 : ds ≠ []) (h : ds.length + es.length ≤ 1000000) : R2D K a (rAddA K) (.tuple ds) (.tuple es) (· = .tuple (ds ++ es)) := R2D.inr (R2D.inr (R2D.inr fun S H x y f m1 m2 Q q => by
  cases m1 with
  | tup h1 n1 =>
    cases m2 with
    | tup h2 n2 =>
      rename_i b1 x1 b2 x2
      have hne : x1 ≠ [] := fun z => by
        subst z
        have := n1.length
        exact h0 (List.length_eq_zero_iff.mp this.symm)
      refine ⟨_, _, x1, x2, rfl, rfl, sqT_same off_le h1, sqT_same off_le h2, hne, by rw [n1.length, n2.length]; exact Nat.le_trans h (by decide), ?_, ?_⟩
      · intro z
        have l := n2.length
        rw [z] at l
        have ez : es = [] := List.length_eq_zero_iff.mp l.symm
        refine q _ _ H Ext.refl (.tup h1 n1) ?_
        rw [ez, List.append_nil]
      · intro _ p hp
        exact q _ _ _ (Ext.new hp) (D.new_tup hp (f.out hp) (n1.append n2)) rfl))
theorem ev_addI {cI cJ cR : Int → Prop} (ha : Ev K a G ta σ (IsI cI)) (hb : Ev K a G tb σ (IsI cJ)) (hr : ∀ i j, cI i → cJ j → cR (i + j)) : Ev K a G (tOp (rAddA K) ta tb) σ (IsI cR) := by
  refine ev_op ha hb ?_
  rintro _ _ ⟨i, rfl, hi⟩ ⟨j, rfl, hj⟩
  exact ra_int.imp fun z e => ⟨_, e, hr i j hi hj⟩
theorem ev_mulI {cI cJ cR : Int → Prop} (ha : Ev K a G ta σ (IsI cI)) (hb : Ev K a G tb σ (IsI cJ)) (hr : ∀ i j, cI i → cJ j → CMulX i j ∧ cR (i * j)) : Ev K a G (tOp rMulA ta tb) σ (IsI cR) := by
  refine ev_op ha hb ?_
  rintro _ _ ⟨i, rfl, hi⟩ ⟨j, rfl, hj⟩
  obtain ⟨h1, h2⟩ := hr i j hi hj
  exact R2D.inl (r2_I h1 (fun _ => .int _) ⟨_, rfl, h2⟩)
theorem ev_mulS {z : Str} {n : Int} (ha : Ev K a G ta σ (· = .str z)) (hb : Ev K a G tb σ (· = .int n)) (ok : MulOk z n) : Ev K a G (tOp rMulA ta tb) σ (· = .str (Txt.mul z n)) := by
  refine ev_op ha hb ?_
  rintro _ _ rfl rfl
  exact R2D.inr (R2D.inl fun S H x y f m1 m2 Q q => by
    cases m1
    cases m2
    exact ⟨z, n, rfl, rfl, ok, q _ _ H Ext.refl (.str _) rfl⟩)
/-! == -/
theorem ev_eqS {x y : Str} (ha : Ev K a G ta σ (· = .str x)) (hb : Ev K a G tb σ (· = .str y)) : Ev K a G (tOp (rEqA K) ta tb) σ (· = .bool (decide (x = y))) := by
  refine ev_op ha hb ?_
  rintro _ _ rfl rfl
  exact R2D.inl r2_eqStr
theorem r2_neStr {x y : Str} : R2D K a rNe (.str x) (.str y) (· = .bool (!decide (x = y))) := by
  intro S H u v f mx my Q q
  cases mx
  cases my
  refine ⟨rfl, q _ _ H Ext.refl (.bl _) ?_⟩
  by_cases e : x = y
  · rw [e]
    simp
  · have e' : ¬ V.str x = V.str y := fun z => e (V.str.inj z)
    rw [decide_eq_false e, decide_eq_false e']
theorem ev_neS {x y : Str} (ha : Ev K a G ta σ (· = .str x)) (hb : Ev K a G tb σ (· = .str y)) : Ev K a G (tOp (rNeA K) ta tb) σ (· = .bool (!decide (x = y))) := by
  refine ev_op ha hb ?_
  rintro _ _ rfl rfl
  exact R2D.inl r2_neStr
/-! in -/
theorem ev_inSgn {P : Nat → Prop} {z : Str} {B : Bool → Prop} (ha : Ev K a G ta σ (fun d => ∃ c, d = .str ⟨#[c]⟩ ∧ P c)) (hb : Ev K a G tb σ (· = .str z)) (hB : ∀ c, P c → B (decide (c ∈ z.cps.toList))) :
    Ev K a G (tOp (rInA K) ta tb) σ (IsB B) := by
  refine ev_op ha hb ?_
  rintro _ _ ⟨c, rfl, hc⟩ rfl
  exact R2D.inl fun S H x y f m1 m2 Q q => by
    cases m1
    cases m2
    exact ⟨c, z, rfl, rfl, q _ _ H Ext.refl (.bl _) ⟨_, rfl, hB c hc⟩⟩
/-! len -/
def lenD : PyData → Option Nat
  | .str x => some x.length
  | .list xs => some xs.length
  | .tuple xs => some xs.length
  | _ => none
theorem ev_len {cI : Int → Prop} (h : Ev K a G te σ C) (hl : ∀ d, C d → ∃ n, lenD d = some n ∧ n ≤ 1000000 ∧ cI (n : Nat)) : Ev K a G (tCB (rLenA K) (tCons te tNil)) σ (IsI cI) := fun S H1 f s Q q =>
  h S H1 f s _ fun v d H2 x2 m c => by
    obtain ⟨n, e, z, hn⟩ := hl d c
    have big : ∀ k : Nat, k ≤ 1000000 → k ≤ sizeLine := fun k hk => Nat.le_trans hk (by decide)
    cases m with
    | str x =>
      cases e
      exact ⟨.str x, x.length, rfl, ⟨big _ z, rfl⟩, q _ _ H2 x2 (.int _) ⟨_, rfl, hn⟩⟩
    | lst h1 h2 =>
      cases e
      exact ⟨_, _, rfl, .inl ⟨_, SqL.of (off_le _ _ h1), h2.length.symm⟩, q _ _ H2 x2 (.int _) ⟨_, rfl, hn⟩⟩
    | tup h1 h2 =>
      cases e
      exact ⟨_, _, rfl, .inr ⟨_, sqT_same off_le h1, h2.length.symm⟩, q _ _ H2 x2 (.int _) ⟨_, rfl, hn⟩⟩
    | _ => cases e
/-! all -/
theorem ev_all {B : Bool → Prop} (h : Ev K a G te σ C) (hl : ∀ d, C d → ∃ bs : List Bool, d = .list (bs.map .bool) ∧ B (bs.all id)) : Ev K a G (tCB (rAll K) (tCons te tNil)) σ (IsB B) := fun S H1 f s Q q =>
  h S H1 f s _ fun v d H2 x2 m c => by
    obtain ⟨bs, rfl, hB⟩ := hl d c
    cases m with
    | lst h1 h2 =>
      have e := h2.bools
      subst e
      exact ⟨_, bs, rfl, SqL.of (off_le _ _ h1), q _ _ H2 x2 (.bl _) ⟨_, rfl, hB⟩⟩
/-! items -/
theorem ev_ixL {cI : Int → Prop} (ha : Ev K a G ta σ C1) (hb : Ev K a G tb σ (IsI cI)) (hr : ∀ d i, C1 d → cI i → ∃ ds z, (d = .list ds ∨ d = .tuple ds) ∧ atI ds i = some z ∧ C z) : Ev K a G (tOp (rIx K) ta tb) σ C := by
  refine ev_op ha hb ?_
  rintro d _ c1 ⟨i, rfl, ci⟩
  obtain ⟨ds, z, e, hz, cz⟩ := hr d i c1 ci
  intro S H x y f m1 m2 Q q
  cases m2
  have item : ∀ {xs : List V}, DA K (off S H) xs ds → ∃ v, atI xs i = some v ∧ D K (off S H) v z := by
    intro xs da
    unfold atI at hz ⊢
    rw [da.length]
    cases hx : ixN ds.length i with
    | none =>
      rw [hx] at hz
      cases hz
    | some j =>
      rw [hx] at hz
      exact da.get hz
  rcases e with rfl | rfl
  · cases m1 with
    | lst h1 n1 =>
      obtain ⟨v, e1, e2⟩ := item n1
      exact .inl ⟨_, _, i, v, rfl, rfl, SqL.of (off_le _ _ h1), e1, q v z H Ext.refl e2 cz⟩
  · cases m1 with
    | tup h1 n1 =>
      obtain ⟨v, e1, e2⟩ := item n1
      exact .inr (.inl ⟨_, _, i, v, rfl, rfl, sqT_same off_le h1, e1, q v z H Ext.refl e2 cz⟩)
/-- a sign of a text -/
theorem ev_ixS {cI : Int → Prop} {z : Str} (ha : Ev K a G ta σ (· = .str z)) (hb : Ev K a G tb σ (IsI cI)) (hz : z.length ≤ 1000000) (hr : ∀ i, cI i → ∃ c, atI z.cps.toList i = some c ∧ C (.str ⟨#[c]⟩)) : Ev K a G (tOp (rIx K) ta tb) σ C := by
  refine ev_op ha hb ?_
  rintro _ _ rfl ⟨i, rfl, ci⟩
  obtain ⟨c, hc, cz⟩ := hr i ci
  intro S H x y f m1 m2 Q q
  cases m1
  cases m2
  exact .inr (.inr ⟨z, i, c, rfl, rfl, Nat.le_trans hz (by decide), hc, q _ _ H Ext.refl (.str _) cz⟩)
/-! a < b < c of ints -/
theorem et_chainI {cA cB cC : Int → Prop} {B : Bool → Prop} {g g' : Int → Int → Bool} (ha : Ev K a G ta σ (IsI cA)) (hb : Ev K a G tb σ (IsI cB)) (hc : Ev K a G tc σ (IsI cC)) (h : ∀ i j k, cA i → cB j → cC k → B (g i j && g' j k))
    (hf : ∀ i j, cA i → cB j → g i j = false → B false) : EvT a G (tTest (tChain (rI0 fun i j => .bl (g i j)) (rI0 fun i j => .bl (g' i j)) ta tb tc)) σ B := fun S H1 f s Q q =>
  ha S H1 f s _ fun v d H2 x2 m c => hb S H2 (f.ext x2) (f.same x2 s) _ fun w e H3 x3 m3 c3 => by
    obtain ⟨i, rfl, hi⟩ := c
    obtain ⟨j, rfl, hj⟩ := c3
    cases m
    cases m3
    refine ⟨i, j, rfl, rfl, g i j, rfl, ?_⟩
    cases hg : g i j with
    | false => exact ⟨false, rfl, q false H3 (x2.trans x3) (hf i j hi hj hg)⟩
    | true =>
      have f3 := (f.ext x2).ext x3
      refine hc S H3 f3 (f.same (x2.trans x3) s) _ fun z g2 H4 x4 m4 c4 => ?_
      obtain ⟨k, rfl, hk⟩ := c4
      cases m4
      have hB := h i j k hi hj hk
      rw [hg, Bool.true_and] at hB
      exact ⟨j, k, rfl, rfl, g' j k, rfl, q _ H4 ((x2.trans x3).trans x4) hB⟩
/-! what is walked -/
theorem wr_range {cI : Int → Prop} (h : Ev K a G te σ (IsI cI)) (hb : ∀ i, cI i → 0 ≤ i ∧ i < 100000) {S : List Addr} {H1 : Hp} (f : Fr a S H1) (s : Same G (off S H1)) (R : It → Hp → Prop) (q : ∀ n H2, Ext a H1 H2 → cI (n : Nat) → R (Itr 0 n) H2) : iRng1 (tCons te tNil) σ H1 R :=
  h S H1 f s _ fun v d H2 x2 m c => by
    obtain ⟨i, rfl, ci⟩ := c
    cases m
    obtain ⟨h1, h2⟩ := hb i ci
    have e : ((i.toNat : Nat) : Int) = i := Int.toNat_of_nonneg h1
    exact ⟨i, rfl, by omega, by omega, q i.toNat H2 x2 (by rw [e]; exact ci)⟩
theorem wr_str {z : Str} (h : Ev K a G te σ (· = .str z)) {S : List Addr} {H1 : Hp} (f : Fr a S H1) (s : Same G (off S H1)) (R : It → Hp → Prop) (q : ∀ H2, Ext a H1 H2 → R (Its z) H2) : iStr te σ H1 R :=
  h S H1 f s _ fun v d H2 x2 m c => by
    subst c
    cases m
    exact ⟨z, rfl, q H2 x2⟩
theorem et_yes : EvT a G tYes σ (· = true) := fun S H1 f s Q q => q true H1 Ext.refl rfl
/-- [e for k in range(n)] -/
theorem ev_lcR {cI : Int → Prop} {j : Nat} {Y : Nat → PyData → Prop} (h : Ev K a G ta σ (IsI cI)) (hb : ∀ i, cI i → 0 ≤ i ∧ i < 100000) (hj : ∀ x, wipe ((wipe σ [j]).set j (some x)) [j] = wipe σ [j])
    (he : ∀ i : Nat, Ev K a G te ((wipe σ [j]).set j (some (.int (i : Nat)))) (Y i)) :
    Ev K a G (tLc (iRng1 (tCons ta tNil)) (gName j) tYes te [j]) σ (fun d => ∃ n ds, cI (n : Nat) ∧ d = .list ds ∧ ds.length = n ∧ ∀ i z, ds[i]? = some z → Y i z) := by
  refine ev_lc (N := fun n => cI (n : Nat)) (J := fun n => Itr 0 n) (fun S H1 f s R q => wr_range h hb f s R q) (fun n i H' _ l => l) (fun n i H' _ l => l) ?_ ?_
  · rintro n i _ _ H' x H2 ⟨e1, e2⟩
    refine ⟨e1, hj x, et_yes, ?_⟩
    rw [e2, Int.zero_add]
    exact he i
  · intro n hn
    have := (hb _ hn).2
    omega
/-- [e for c in text] -/
theorem ev_lcS {z : Str} {j : Nat} {Y : Nat → PyData → Prop} (h : Ev K a G ta σ (· = .str z)) (hz : z.length < 100000) (hj : ∀ x, wipe ((wipe σ [j]).set j (some x)) [j] = wipe σ [j])
    (he : ∀ i c, z.cps[i]? = some c → Ev K a G te ((wipe σ [j]).set j (some (.str ⟨#[c]⟩))) (Y i)) :
    Ev K a G (tLc (iStr ta) (gName j) tYes te [j]) σ (fun d => ∃ ds, d = .list ds ∧ ds.length = z.length ∧ ∀ i z, ds[i]? = some z → Y i z) := by
  refine Ev.imp (ev_lc (Y := Y) (N := fun n => n = z.length) (J := fun n => Its z) (fun S H1 f s R q => wr_str h f s R fun H2 x2 => q z.length H2 x2 rfl) (fun n i H' e l => by subst e; exact l) (fun n i H' e l => by subst e; exact l) ?_ ?_) ?_
  · rintro n i hn _ H' x H2 ⟨e1, c, hc, e2⟩
    refine ⟨e1, hj x, et_yes, ?_⟩
    rw [e2]
    exact he i c hc
  · rintro n rfl
    exact hz
  · rintro d ⟨n, ds, rfl, e, hl, hY⟩
    exact ⟨ds, e, hl, hY⟩
end
end LK
set_option Elab.async false
set_option linter.all false
set_option maxRecDepth 100000
set_option maxHeartbeats 4000000
/-! LK6: written data, joined texts, items by a draw -/
namespace LK
open PySem PySem.Spec L2
open PyProof.Rows hiding St
section
variable {K : PySem.W.Frag} {a : Addr} {S : List Addr} {σ : St} {G H : Hp} {ta tb tc te : TE} {tr : TA} {C C1 C2 : PyData → Prop}
theorem ev_negE {i : Int} (h : Ev K a G te σ (· = .int i)) : Ev K a G (tUn (rU fun i => .int (-i)) te) σ (· = .int (-i)) := by
  refine ev_un h ?_
  rintro _ rfl S H x f m Q q
  cases m
  exact ⟨i, rfl, q _ _ H Ext.refl (.int _) rfl⟩
theorem ev_powE {i j : Int} (ha : Ev K a G ta σ (· = .int i)) (hb : Ev K a G tb σ (· = .int j)) (hc : CPow i j) : Ev K a G (tOp (rI CPow fun i j => .int (i ^ j.toNat)) ta tb) σ (· = .int (i ^ j.toNat)) := by
  refine ev_op ha hb ?_
  rintro _ _ rfl rfl
  exact r2_I hc (fun _ => .int _) rfl
theorem ev_dnew : Ev K a G tDNewK σ (· = .dict []) := fun S H1 f s Q q p hp =>
  q _ _ _ (Ext.new hp) (.dic (off_mk (f.out hp) upd_same) .nil) rfl
theorem ev_catL {ds es : List PyData} (ha : Ev K a G ta σ (· = .list ds)) (hb : Ev K a G tb σ (· = .list es)) (h : ds.length + es.length ≤ 1000000) : Ev K a G (tOp (rAddA K) ta tb) σ (· = .list (ds ++ es)) := by
  refine ev_op ha hb ?_
  rintro _ _ rfl rfl
  exact ra_lst h
theorem ev_catS {x y : Str} (ha : Ev K a G ta σ (· = .str x)) (hb : Ev K a G tb σ (· = .str y)) (h : x.length + y.length ≤ 1000000) : Ev K a G (tOp (rAddA K) ta tb) σ (· = .str (x ++ y)) := by
  refine ev_op ha hb ?_
  rintro _ _ rfl rfl
  exact ra_str h
theorem at_mem {ds : List PyData} {i : Int} (h0 : 0 ≤ i) (h1 : i < (ds.length : Nat)) : ∃ z, atI ds i = some z ∧ z ∈ ds := by
  have hl : i.toNat < ds.length := by omega
  refine ⟨ds[i.toNat], ?_, List.getElem_mem hl⟩
  have e : ((i.toNat : Nat) : Int) = i := Int.toNat_of_nonneg h0
  have h := atI_nat (List.getElem?_eq_getElem hl)
  rw [e] at h
  exact h
theorem at_memN {ds : List Nat} {i : Int} (h0 : 0 ≤ i) (h1 : i < (ds.length : Nat)) : ∃ z, atI ds i = some z ∧ z ∈ ds := by
  have hl : i.toNat < ds.length := by omega
  refine ⟨ds[i.toNat], ?_, List.getElem_mem hl⟩
  have e : ((i.toNat : Nat) : Int) = i := Int.toNat_of_nonneg h0
  have h := atI_nat (List.getElem?_eq_getElem hl)
  rw [e] at h
  exact h
/-- an item of a written list, by a draw -/
theorem ev_pick {ds : List PyData} (ha : Ev K a G ta σ (· = .list ds)) (hb : Ev K a G tb σ (IsI fun k => 0 ≤ k ∧ k < (ds.length : Nat))) : Ev K a G (tOp (rIx K) ta tb) σ (· ∈ ds) := by
  refine ev_ixL ha hb ?_
  rintro _ i rfl ⟨h0, h1⟩
  obtain ⟨z, e, m⟩ := at_mem h0 h1
  exact ⟨ds, z, .inl rfl, e, m⟩
/-- .. of a list whose items are told -/
theorem ev_pickL {n : Nat} {A : List PyData → Prop} (ha : Ev K a G ta σ (fun d => ∃ ds, d = .list ds ∧ A ds)) (hb : Ev K a G tb σ (IsI fun k => 0 ≤ k ∧ k < (n : Nat))) (hn : ∀ ds, A ds → ds.length = n ∧ ∀ z ∈ ds, C z) : Ev K a G (tOp (rIx K) ta tb) σ C := by
  refine ev_ixL ha hb ?_
  rintro _ i ⟨ds, rfl, hA⟩ ⟨h0, h1⟩
  obtain ⟨l, hC⟩ := hn ds hA
  obtain ⟨z, e, m⟩ := at_mem (ds := ds) h0 (by omega)
  exact ⟨ds, z, .inl rfl, e, hC z m⟩
/-- a sign of a written text, by a draw -/
theorem ev_pickS {z : Str} (ha : Ev K a G ta σ (· = .str z)) (hb : Ev K a G tb σ (IsI fun k => 0 ≤ k ∧ k < (z.length : Nat))) (hz : z.length ≤ 1000000) : Ev K a G (tOp (rIx K) ta tb) σ (fun d => ∃ c, d = .str ⟨#[c]⟩ ∧ c ∈ z.cps.toList) := by
  refine ev_ixS ha hb hz ?_
  rintro i ⟨h0, h1⟩
  obtain ⟨c, e, m⟩ := at_memN (ds := z.cps.toList) h0 (by rw [Array.length_toList]; exact h1)
  exact ⟨c, e, c, rfl, m⟩
end
/-! ### joined texts -/
theorem join_chars : ∀ ys : List Str, (Str.join Str.empty ys).cps.toList = (ys.map fun y => y.cps.toList).flatten
  | [] => rfl
  | [x] => by
    show x.cps.toList = ([x.cps.toList]).flatten
    simp
  | x :: y :: r => by
    have ih := join_chars (y :: r)
    show (x ++ Str.empty ++ Str.join Str.empty (y :: r)).cps.toList = _
    have e : ∀ u v : Str, (u ++ v).cps.toList = u.cps.toList ++ v.cps.toList := fun u v => Array.toList_append
    rw [e, e, ih]
    simp [Str.empty]
theorem empty_is : ("" : Str) = Str.empty := by decide +kernel
/-- one sign each -/
theorem join_ones {cs : List Nat} : (Txt.join ("" : Str) (cs.map fun c => (⟨#[c]⟩ : Str))).cps.toList = cs := by
  rw [TL.join_eq, empty_is, join_chars]
  induction cs with
  | nil => rfl
  | cons c r ih =>
    rw [List.map_cons, List.map_cons, List.flatten_cons, ih]
    rfl
section
variable {K : PySem.W.Frag} {a : Addr} {S : List Addr} {σ : St} {G H : Hp} {ta tb tc te : TE} {tr : TA} {C C1 C2 : PyData → Prop}
theorem DA.strs : ∀ {vs : List V} {ys : List Str}, DA K H vs (ys.map .str) → vs = ys.map V.str
  | _, [], h => by
    cases h
    rfl
  | _, b :: bs, h => by
    cases h with
    | cons h1 h2 =>
      cases h1
      rw [DA.strs h2]
      rfl
end
section
variable {X : Cx} {K : PySem.W.Frag} {o e : Expr} {es : List Expr} {to : TE} {t : TA} {pos apos : Pos}
abbrev rJoin (K : PySem.W.Frag) : V → List V → Hp → VK → Prop := fun x xs H Q => ∃ a p, ∃ ys : List Str, x = .str a ∧ xs = [.ref p] ∧ (SqL K H p (ys.map V.str) ∨ SqT K H p (ys.map V.str)) ∧ (ys.map (·.length)).sum + ys.length * a.length ≤ 16777216 ∧ Q (.str (Txt.join a ys)) H
theorem kJoin (e : X.K = K := by rfl) : MtR X "str.join" (rJoin K) := e ▸ mt_join
end
section
variable {K : PySem.W.Frag} {a : Addr} {S : List Addr} {σ : St} {G H : Hp} {ta tb tc te : TE} {tr : TA} {C C1 C2 : PyData → Prop}
theorem ev_join {z : Str} (h : Ev K a G te σ C) (hC : ∀ d, C d → ∃ ys : List Str, d = .list (ys.map .str) ∧ (ys.map (·.length)).sum + ys.length * z.length ≤ 16777216 ∧ C1 (.str (Txt.join z ys))) :
    Ev K a G (tBM K "str" (rJoin K) (tC (.str z)) (tCons te tNil)) σ C1 := fun S H1 f s Q q =>
  ⟨rfl, h S H1 f s _ fun v d H2 x2 m c => by
    obtain ⟨ys, rfl, hs, hc⟩ := hC d c
    cases m with
    | lst h1 h2 =>
      have e := h2.strs
      subst e
      exact ⟨z, _, ys, rfl, rfl, .inl (SqL.of (off_le _ _ h1)), hs, q _ _ H2 x2 (.str _) hc⟩⟩
/-- ''.join of a list of signs -/
theorem ev_joinS {P : Nat → Prop} {N : Nat → Prop} (h : Ev K a G te σ (fun d => ∃ n ds, N n ∧ d = .list ds ∧ ds.length = n ∧ ∀ (i : Nat) z, ds[i]? = some z → ∃ c, z = .str ⟨#[c]⟩ ∧ P c)) (hN : ∀ n, N n → n ≤ 1000) :
    Ev K a G (tBM K "str" (rJoin K) (tC (.str "")) (tCons te tNil)) σ (fun d => ∃ w : Str, d = .str w ∧ N w.length ∧ ∀ c ∈ w.cps.toList, P c) := by
  refine ev_join h ?_
  rintro _ ⟨n, ds, hn, rfl, hl, hY⟩
  obtain ⟨cs, e, hP⟩ : ∃ cs : List Nat, ds = cs.map (fun c => PyData.str ⟨#[c]⟩) ∧ ∀ c ∈ cs, P c := by
    clear h hN hn hl
    induction ds with
    | nil => exact ⟨[], rfl, by simp⟩
    | cons d r ih =>
      obtain ⟨cs, e, hc⟩ := ih fun i z hz => hY (i + 1) z (by simpa using hz)
      obtain ⟨c, ec, pc⟩ := hY 0 d rfl
      refine ⟨c :: cs, by rw [e, ec]; rfl, fun x hx => ?_⟩
      rcases List.mem_cons.mp hx with z | z
      · rw [z]
        exact pc
      · exact hc x z
  have ones := join_ones (cs := cs)
  refine ⟨cs.map fun c => (⟨#[c]⟩ : Str), by rw [e, List.map_map]; rfl, ?_, _, rfl, ?_, ?_⟩
  · have e1 : ((cs.map fun c => (⟨#[c]⟩ : Str)).map (·.length)).sum = cs.length := by
      rw [List.map_map]
      clear e hP ones
      induction cs with
      | nil => rfl
      | cons c r ih =>
        rw [List.map_cons, List.sum_cons, ih, List.length_cons, Nat.add_comm]
        rfl
    have e2 : ("" : Str).length = 0 := by decide +kernel
    have l : cs.length = n := by rw [← hl, e, List.length_map]
    have := hN n hn
    rw [e1, e2]
    omega
  · have l : cs.length = n := by rw [← hl, e, List.length_map]
    have e3 : (Txt.join ("" : Str) (cs.map fun c => (⟨#[c]⟩ : Str))).length = n := by
      show (Txt.join ("" : Str) (cs.map fun c => (⟨#[c]⟩ : Str))).cps.size = n
      rw [← Array.length_toList, ones, l]
    rw [e3]
    exact hn
  · rw [ones]
    exact hP
end
end LK
set_option Elab.async false
set_option linter.all false
set_option maxRecDepth 100000
set_option maxHeartbeats 4000000
/-! LK7: own exceptions whose __init__ names its own base class and keeps a field; made, raised, caught, asked; defaults -/
namespace LK
open PySem PySem.Spec L2
open PyProof.Rows hiding St

/-! ### classes -/
structure XC (K : PySem.W.Frag) (mg : Str → Option Value) (x : Str) (C : Addr) : Prop where
  g : mg x = some (.ref C)
  ox : OexC K C
  fl : XfC K C
  is : ExcC K C
  tp : PySem.W.typeIn K (.ref C) = some (.type "type")
  self : PySem.W.subIn K (.ref C) (.ref C) = some true
/-- a base class of the program's own over ValueError, as its heirs' __init__ names it -/
structure XB (K : PySem.W.Frag) (mg : Str → Option Value) (x : Str) (L : Addr) : Prop where
  g : mg x = some (.ref L)
  rd : ClX.CRead K L (.type "type")
  it : PySem.W.findCls K (.ref L) (.type "type") "__init__" = some (.val (.builtin "ValueError.__init__"))
theorem XC.exm {K : PySem.W.Frag} {mg : Str → Option Value} {x : Str} {C : Addr} (T : XC K mg x C) : PySem.W.exmOne K (.ref C) (.ref C) = some true :=
  PySem.W.exm_ref T.is.hs T.is.hd T.tp T.self
theorem kit_sub {K : PySem.W.Frag} {C B : Addr} {b : Bool} (h : PySem.W.subIn K (.ref C) (.ref B) = some b) (hs : PySem.W.subIn K (.ref C) (.ref C) = some true) (hc : PySem.W.isClsIn K B = true) (ht : PySem.W.typeIn K (.ref B) = some (.type "type")) :
    PySem.W.kitOne K (.ref C) (.ref B) = some b := by
  unfold PySem.W.kitOne
  by_cases e : C = B
  · subst e
    rw [h] at hs
    injection hs with hs
    rw [hs, if_pos (beq_self_eq_true _)]
  · rw [if_neg (by simpa using e)]
    unfold PySem.W.kitCls
    have hc' : (PySem.W.clsIn K B).isSome = true := hc
    dsimp only
    rw [hc', ht]
    exact h
theorem kit_subT {K : PySem.W.Frag} {C : Addr} {T : String} {b : Bool} (h : PySem.W.subIn K (.ref C) (.type T) = some b) (hm : PySem.W.kitMeta T = true) : PySem.W.kitOne K (.ref C) (.type T) = some b := by
  unfold PySem.W.kitOne
  rw [if_neg (by simp)]
  unfold PySem.W.kitCls
  dsimp only
  rw [hm]
  exact h

/-! ### __init__ -/
section
variable {X : Cx} {e : Expr} {es : List Expr} {ta : TA} {te : TE} {x : Str} {L : Addr} {p p1 p2 pos pos' : Pos}
def MethIs (X : Cx) (o : Expr) (m : Str) (p2 pos : Pos) (as : List Expr) (pl : Sem Bool) : Prop :=
  eval (.Call (.Attribute o m p2) as [] pos) X.env = (eval o X.env >>= fun ov => standAt p2.atName >>= fun _ => holding [ov] (getMethod ov m pl) >>= fun fx => callWith pos fx.1 fx.2 (backTo pos (starEach as X.env)) (backToKw pos (keywordEach [] X.env)))
theorem pe_bi (B : XB X.K X.mg x L) (hg : Gl X x) (ha : PA X (e :: es) ta) {pl : Sem Bool} (hc : MethIs X (.Name x p1) "__init__" p2 pos (e :: es) pl := by rfl) (hdb : (x == ("__debug__" : Str)) = false := by decide)
    (he : starEach (e :: es) X.env = (false, eval e X.env) :: starEach es X.env := by rfl) (hpl : (backTo pos (starEach es X.env)).any (·.1) = false := by rfl) :
    PE X (.Call (.Attribute (.Name x p1) "__init__" p2) (e :: es) [] pos) (tVeI X.K ta) := by
  constructor
  intro pins s σ H Q I h
  apply PySem.W.methodCall_KW (pl := pl) _ hc
  apply ld_glob I hg B.g _ hdb
  apply PySem.W.method_cls I.kIn B.rd.ga
  apply PySem.W.cls_value I.kIn B.rd.rd B.it (by decide +kernel)
  show wpAny (model X.prog X.w) X.A (callWith pos (.builtin "ValueError.__init__") [] (backTo pos (starEach (e :: es) X.env)) []) _ _ _
  apply callWith_method1 _ he hpl
  apply thn (ha.run pos pins _ σ H _ (I.tok _) h)
  rintro us s1 ⟨vs, H1, I1, r1, a, C, ws, rfl, hl, T, ea, q⟩
  cases r1 with
  | @cons _ u0 _ ur ra rw' =>
    cases (show u0 = Value.ref a from ra)
    have hlen : ur.length ≤ sizeLine := by
      have := Paired.length rw'
      rw [sizeLine_eq]
      omega
    exact oinit_ok T I1 ea hlen fun s' J => ⟨.non, H1, J, rfl, q⟩
end
/-- [self, v]: the exception without a dict; behind it its dict holds f = v -/
def spI (C : Addr) (f : Str) : Sp := fun vs H Q _ => ∃ (a : Addr) (v : V), vs = [.ref a, v] ∧ H a = some (exo a C none) ∧ ∀ dx, H dx = none → dx ≠ a → Q .non (upd (upd H dx (exd dx [(f, v)])) a (exo a C (some dx)))
theorem rd_init {K : PySem.W.Frag} {C : Addr} {f z : Str} {vs : List V} {H : Hp} {Q : VK} {E : XK} {p0 p1 : Str} (T : OexC K C) (hno : PySem.W.findIn K (.ref C) f = some none) (h : spI C f vs H Q E) :
    tSeq (tDrop (tVeI K (tCons (tVar 0) (tCons (tC (.str z)) tNil)))) (tOst K f (tVar 0) (tVar 1)) { nx := fun _ H' => Q .non H', rt := Q } (start [p0, p1] vs) H := by
  obtain ⟨a, v, rfl, ea, q⟩ := h
  refine ⟨.ref a, rfl, a, C, [.str z], rfl, (by show 1 ≤ 1000; decide), T, ea, v, rfl, .ref a, rfl, a, C, rfl, T, hno, .inl ⟨ea, fun dx hn hne => q dx hn hne⟩⟩

/-! ### a class that may be raised: C(v) -/
structure XR (P : Program) (w : World) (K : PySem.W.Frag) (mg : Str → Option Value) (base : Heap) (x : Str) (C : Addr) (f : Str) : Prop where
  c : XC K mg x C
  init : ∃ (fI : Addr) (fd : FuncData) (ps : List Str), PySem.W.findIn K (.ref C) "__init__" = some (some (.ref fI)) ∧ PySem.W.typeIn K (.ref fI) = some (.type "function") ∧ FnOk P w K mg base CX0 1 fI fd ps (spI C f) ∧ Binds K fd ps []
/-- a reading, made weaker in its end -/
def tUp (te : TE) : TE := fun σ H Q => ∃ K1 : VK, te σ H K1 ∧ ∀ v H1, K1 v H1 → Q v H1
section
variable {X : Cx} {e : Expr} {te : TE} {x f : Str} {C : Addr} {p pos pos' : Pos} {W : WX}
theorem pe_up (h : PE X e te) : PE X e (tUp te) := by
  constructor
  rintro pins s σ H Q I ⟨K1, h1, h2⟩
  apply thn (h.run pins s σ H K1 I h1)
  rintro u s1 ⟨v, H1, I1, r, q⟩
  exact ⟨v, H1, I1, r, h2 v H1 q⟩
def tMkV (C : Addr) (f : Str) (te : TE) : St → Hp → XK → Prop := fun σ H Q => te σ H fun v H1 => ∀ (dd : Addr) (H' : Hp), Same H1 H' → H1 dd = none → H' dd = some (.xd [(f, v)]) → Q (.ref C) (some dd) H'
theorem pmk_v (R : XR X.prog X.w X.K X.mg X.base x C f) (hr : Room 2 X.A) (hg : Gl X x) (he : PE X e te) (hdb : (x == ("__debug__" : Str)) = false := by decide)
    (hs : starEach [e] X.env = (false, eval e X.env) :: starEach [] X.env := by rfl) (hpl : (backTo pos (starEach [] X.env)).any (·.1) = false := by rfl) : PMk X (.Call (.Name x p) [e] [] pos) (tMkV C f te) := by
  obtain ⟨fI, fd, ps, iC, tI, F1, hb⟩ := R.init
  intro pins s σ H Q I h
  refine pmk_oex (ds := []) (dvs := []) R.c.ox iC tI F1 hr hb .nil pass0 hg R.c.g (pa_cons (pe_up he) pa_nil hs) hdb hs hpl pins s σ H Q I ⟨_, h, fun v H1 k => ⟨(by show 1 ≤ 1000; decide), fun a na => ?_⟩⟩
  refine ⟨a, v, rfl, upd_same, fun dx nd ne => ⟨rfl, dx, [(f, v)], upd_same, ?_, ?_, ?_⟩⟩
  · rw [upd_ne ne]
    exact upd_same
  · rw [upd_ne ne] at nd
    exact nd
  · have nd' : H1 dx = none := by
      rw [upd_ne ne] at nd
      exact nd
    refine k dx _ (fun b o e => ?_) nd' upd_same
    have ba := ne_of_none e na
    rw [upd_ne (ne_of_none e nd'), del_ne ba, upd_ne ba, upd_ne (ne_of_none e nd'), upd_ne ba]
    exact e
/-- raise C(e) -/
def tRse (C : Addr) (f : Str) (W : WX) (te : TE) : TS := fun _ σ H => tMkV C f te σ H fun cls d H' => W cls d σ H'
theorem ps_rse (hc : X.calm = true) (tk : Takes X W) (R : XR X.prog X.w X.K X.mg X.base x C f) (hr : Room 2 X.A) (hg : Gl X x) (he : PE X e te) (hdb : (x == ("__debug__" : Str)) = false := by decide)
    (hs : starEach [e] X.env = (false, eval e X.env) :: starEach [] X.env := by rfl) (hpl : (backTo pos (starEach [] X.env)).any (·.1) = false := by rfl) : PS X (.Raise (some (.Call (.Name x p) [e] [] pos)) none pos') (tRse C f W te) :=
  ps_raise hc tk (pmk_v R hr hg he hdb hs hpl)
end

/-! ### calls that may raise, with defaults -/
structure DfX (P : Program) (w : World) (K : PySem.W.Frag) (mg : Str → Option Value) (base : Heap) (CX : CXT) (k : Nat) (x : Str) (ps : List Str) (dvs : List V) (sp : Sp) : Prop where
  ex : ∃ (f : Addr) (fd : FuncData), FnG P w K mg base CX k f fd ps sp ∧ mg x = some (.ref f) ∧ PySem.W.keepIn K (.ref f) = true ∧ ∃ ds, Vals dvs ds ∧ Binds K fd ps ds
def tCallX (sp : Sp) (dvs : List V) (E : St → XK) (t : TA) : TE := fun σ H Q => t σ H fun vs H1 => sp (vs ++ dvs) H1 Q (E σ)
section
variable {X : Cx} {CX : CXT} {k : Nat} {ps : List Str} {sp : Sp} {dvs : List V} {E : St → XK} {x : Str} {p pos : Pos} {e : Expr} {es : List Expr} {t : TA}
theorem pe_fnX (F : DfX X.prog X.w X.K X.mg X.base CX k x ps dvs sp) (hg : NoG X.A) (hr : Room k X.A) (hgl : Gl X x) (hx : ∀ σ, PassesAt CX X σ (E σ)) (ha : PA X (e :: es) t)
    (hdb : (x == ("__debug__" : Str)) = false := by decide) (he : starEach (e :: es) X.env = (false, eval e X.env) :: starEach es X.env := by rfl) (hpl : (backTo pos (starEach es X.env)).any (·.1) = false := by rfl) :
    PE X (.Call (.Name x p) (e :: es) [] pos) (tCallX sp dvs E t) := by
  obtain ⟨f, fd, G, hm, hk, ds, rd, hb⟩ := F.ex
  constructor
  intro pins s σ H Q I h
  apply wpAny_Call_Name_kw
  apply ld_glob I hgl hm _ hdb
  apply PySem.W.callWith_K (h₀ := X.base) I.ok.mod.kin hk _ he hpl
  apply thn (ha.run pos pins s σ H _ I h)
  rintro us s1 ⟨vs, H1, I1, r, q⟩
  have r2 : Vals (vs ++ dvs) (us ++ ds) := r.append rd
  have l : (us ++ ds).length = ps.length := by
    rw [← r2.length]
    exact G.size _ _ _ _ q
  refine ⟨I1.kIn, wpAny_call (codeAny_mono (G.go X.A hg hr X.stack s1 H1 I1.env0 ⟨us, []⟩ (us ++ ds) (vs ++ dvs) Q (E σ) (hb s1 us I1.kIn l) r2 q) fun r' s' q' => ?_)⟩
  rcases r' with er | fl
  · exact hx σ pins H1 s1 er s' I1 q'
  · cases fl
    case ret u => exact I1.after q'
    all_goals exact False.elim q'
end
/-- a def with defaults -/
theorem FunD.okG {P : Program} {w : World} {K : PySem.W.Frag} {mg : Str → Option Value} {base : Heap} {x qual : Str} {params : Arguments} {body : List Stmt} {scope : Scope} {dvs : List V} {kws : List (Str × V)} {f : Addr} {fd : FuncData}
    {CX : CXT} {N ps : List Str} {k : Nat} {sp : Sp} (F : FunD K x qual params body scope dvs kws f fd) (S : FnScope N ps scope) (len : ∀ vs H Q E, sp vs H Q E → vs.length = ps.length)
    (hbody : ∀ (cdv : Value) (A : Around) (outer : List Env) (s : Shared) (H : Hp) (vs : List V) (Q : VK) (E : XK), NoG A → Room k (A.deeper (envOfC qual scope s.heap.objs.size f cdv)) → sp vs H Q E →
      ∃ t, PSs (cxOf CX P w K mg base N qual scope f cdv A outer s H E) body t ∧ t { nx := fun _ H' => Q .non H', rt := Q } (start N vs) H) : FnG P w K mg base CX (k + 1) f fd ps sp := by
  obtain ⟨oc, od, dV, kV, doc, pm, an, cdv, ct, osl, rfl, lk, hcd, _, _⟩ := F.ex
  exact fn_ofG lk hcd S len fun A outer s H vs Q E hg hr hsp => hbody cdv A outer s H vs Q E hg hr hsp
theorem fund_mk {K : PySem.W.Frag} {x qual : Str} {st : Stmt} {f T : Addr} {oc tc : Value} {od an td : Option Addr} {osl tsl : Array (Option Value)} {kV doc pm cdv ct : Value} {its : List Value} {n : Nat} {dvs : List V}
    (l : K.lookup f = some ⟨oc, od, .func (PySem.W.fnOf x qual (defArgs st) (defBody st) (defScope st) (.ref T) kV doc pm an cdv ct), osl⟩) (c : PySem.W.codeIn K cdv qual = true) (k : PySem.W.keepIn K (.ref f) = true)
    (lT : K.lookup T = some ⟨tc, td, .seq its.toArray n, tsl⟩) (r : Vals dvs its) (hd : dvs ≠ []) : FunD K x qual (defArgs st) (defBody st) (defScope st) dvs [] f (PySem.W.fnOf x qual (defArgs st) (defBody st) (defScope st) (.ref T) kV doc pm an cdv ct) :=
  ⟨⟨oc, od, .ref T, kV, doc, pm, an, cdv, ct, osl, rfl, l, c, .inr ⟨hd, T, _, its, n, rfl, lT, rfl, r⟩, .inl rfl⟩, k⟩
/-- names alone, defaults looked up but not used -/
theorem FunD.kb0 {K : PySem.W.Frag} {x qual : Str} {params : Arguments} {body : List Stmt} {scope : Scope} {dvs : List V} {kws : List (Str × V)} {f : Addr} {fd : FuncData} {ps ks : List Str} {g : {α : Type} → List α → List α}
    (F : FunD K x qual params body scope dvs kws f fd) (hd : dvs ≠ []) (hrel : ∀ {zs : List V} {ws : List Value}, Vals zs ws → Vals (g zs) (g ws))
    (h : ∀ (T : Addr) (kV doc pm : Value) (an : Option Addr) (cdv ct : Value) (ws its : List Value), ws.length = ks.length → its.length = dvs.length →
      ∃ k, bindArgs (PySem.W.fnOf x qual params body scope (.ref T) kV doc pm an cdv ct) ⟨[], ks.zip ws⟩ = seqItems? (.ref T) >>= k ∧ k (some its.toArray) = pure (ps.zip (g ws))) : KB0 K fd ps ks g := by
  obtain ⟨oc, od, dV, kV, doc, pm, an, cdv, ct, osl, rfl, lk, hcd, hD, _⟩ := F.ex
  rcases hD with ⟨e, _⟩ | ⟨_, T, o, its, m, rfl, lT, oT, rT⟩
  · exact absurd e hd
  · refine ⟨fun s ws X hl => ?_, hrel⟩
    obtain ⟨k, e1, e2⟩ := h T kV doc pm an cdv ct ws its hl rT.length.symm
    apply BindsTo.of_looks
    intro M
    rw [e1]
    exact looks_items X lT oT (.of_pure e2)

/-! ### the caught exception: its field, isinstance -/
/-- the dict of the exception holds fs -/
def rIsX (K : PySem.W.Frag) (a : Addr) (cls : Value) (d : Option Addr) : List V → Hp → VK → Prop := fun xs H Q => ∃ (C : Addr) (c : V) (b : Bool), xs = [.ref a, c] ∧ cls = .ref C ∧ ExcC K C ∧ (∀ dx, d = some dx → ∃ fs, H dx = some (.xd fs)) ∧
  ((∃ u, ClsV c u ∧ PySem.W.kitOne K (.ref C) u = some b) ∨ (∃ tp cs us, c = .ref tp ∧ H tp = some (.tup cs) ∧ Paired ClsV cs us ∧ PySem.W.kitAny K (.ref C) us = some b)) ∧ Q (.bl b) H
section
variable {X : Cx} {a : Addr} {oe : Obj} {cls : Value} {d : Option Addr} {pn : List (Addr × Obj)}
theorem call_isX (hz : Zc cls d oe) (hf : ∃ vs, oe.data = .fields vs) : CallR (X.suite a ((a, oe) :: pn)) (.builtin "isinstance") (rIsX X.K a cls d) := by
  intro pins s σ H xs us Q I r h
  obtain ⟨C, c, b, rfl, rfl, T, hdd, hk, q⟩ := h
  cases r with
  | cons rx rr =>
    cases rr with
    | cons rt rr =>
      cases rr
      cases rx
      have hget := (I.pin (a, oe) (List.mem_append_left _ List.mem_cons_self)).1
      obtain ⟨vs, hv⟩ := hf
      have J : ∃ od, PySem.W.InstAt s.heap a oe C od := by
        have hno : PySem.W.notCls oe = true := by
          unfold PySem.W.notCls
          rw [hv] <;> rfl
        obtain ⟨h1, h2⟩ := hz
        cases d with
        | none => exact ⟨none, hget, h1, hno, by rw [h2]; exact True.intro⟩
        | some dx =>
          obtain ⟨fs, hfs⟩ := hdd dx rfl
          obtain ⟨o, ho⟩ := objOk_get (I.hok dx _ hfs)
          exact ⟨some o, hget, h1, hno, by rw [h2]; exact ho⟩
      obtain ⟨od, J⟩ := J
      have hcl : (PySem.W.clsIn X.K C).isSome = true := by
        have := T.hd
        unfold PySem.W.hasDictIn at this
        cases hc : PySem.W.clsIn X.K C with
        | some _ => rfl
        | none =>
          rw [hc] at this
          cases this
      have Z := PySem.W.kitx_exc (x := a) (ox := oe) (od := od) hcl T.hg T.hk T.hs T.ha T.hn T.ht T.hm
      rcases hk with ⟨u, hu, e⟩ | ⟨tp, cs, ws, rfl, hT, k, e⟩
      · cases hu.eq rt
        exact PySem.W.kia_one Z I.kIn J e (fun z => nomatch z) fun tk => ⟨.bl b, H, I.tok tk, rfl, q⟩
      · cases rt
        obtain ⟨_, its, rv, o, h1, h2, n, h3⟩ := (show ObjOk X.prog X.w H s.heap tp (.tup cs) from I.hok tp _ hT)
        cases ClsV.all k rv
        obtain ⟨oc, od', dt, sl⟩ := o
        simp only at h2 h3
        subst h2 h3
        exact PySem.W.kia_tup Z I.kIn J h1 e (fun z => nomatch z) fun tk => ⟨.bl b, H, I.tok tk, rfl, q⟩
theorem kIsX {K : PySem.W.Frag} (hz : Zc cls d oe) (hf : ∃ vs, oe.data = .fields vs) (e : X.K = K := by rfl) : CallR (X.suite a ((a, oe) :: pn)) (.builtin "isinstance") (rIsX K a cls d) := e ▸ call_isX hz hf
/-- e.f -/
def tXg (K : PySem.W.Frag) (a : Addr) (cls : Value) (d : Option Addr) (f : Str) (te : TE) : TE := fun σ H Q => te σ H fun x H1 => x = .ref a ∧ ∃ (C dd : Addr) (fs : List (Str × V)) (v : V), cls = .ref C ∧ XfC K C ∧ PySem.W.findIn K (.ref C) f = some none ∧ d = some dd ∧ H1 dd = some (.xd fs) ∧ fs.lookup f = some v ∧ Q v H1
theorem pe_xg {e : Expr} {te : TE} {pos : Pos} {n : Str} (hz : Zc cls d oe) (hf : ∃ vs, oe.data = .fields vs) (he : PE (X.suite a ((a, oe) :: pn)) e te)
    (hb : attributeBase e n X.env (eval e X.env) = eval e X.env := by rfl) : PE (X.suite a ((a, oe) :: pn)) (.Attribute e n pos) (tXg X.K a cls d n te) := by
  constructor
  intro pins s σ H Q I h
  apply attr_of hb
  apply thn (he.run pins s σ H _ I h)
  rintro u s1 ⟨x, H1, I1, rx, rfl, C, dd, fs, v, rfl, T, hno, rfl, ea, l, q⟩
  cases (show u = Value.ref a from rx)
  have hx : ObjOk X.prog X.w H1 s1.heap dd (.xd fs) := I1.hok dd _ ea
  obtain ⟨mA, hns, hr⟩ := hx
  obtain ⟨od, ho, hl⟩ := lookIn_ns hns
  obtain ⟨u, hu, ru⟩ := RelO.some_of (v := v) (o := mA n) (by rw [← l]; exact hr n)
  have J : PySem.W.InstAt s1.heap a oe C (some od) := by
    obtain ⟨vs, hd⟩ := hf
    refine ⟨(I1.pin (a, oe) (List.mem_append_left _ List.mem_cons_self)).1, hz.1, ?_, ?_⟩
    · unfold PySem.W.notCls
      rw [hd] <;> rfl
    · rw [hz.2]
      exact ho
  have ff := PySem.W.findObj_own (od := od) T.hdC hno rfl (by rw [hl, hu])
  apply HandSPX.exc_get I1.kIn J T.ga T.gg T.exC ff (handed_of ru)
  exact ⟨v, H1, I1.tok _, ru, q⟩
end

/-! ### promises with a way out, by data -/
def spX (K : PySem.W.Frag) (C : Addr) (f : Str) (pre : List PyData → Prop) (post rp : List PyData → PyData → Prop) : Sp := fun vs H Q E => ∃ (a : Addr) (S : List Addr) (ds : List PyData),
  Fr a S H ∧ DA K (off S H) vs ds ∧ pre ds ∧ (∀ v d H', Ext a H H' → D K (off S H') v d → post ds d → Q v H') ∧
    ∀ v d dd H', Ext a H H' → D K (off S H') v d → rp ds d → H' dd = some (.xd [(f, v)]) → dd ∉ S → E (.ref C) (some dd) H'
theorem spX_len {K : PySem.W.Frag} {C : Addr} {f : Str} {pre : List PyData → Prop} {post rp : List PyData → PyData → Prop} {n : Nat} (hp : ∀ ds, pre ds → ds.length = n) {vs : List V} {H : Hp} {Q : VK} {E : XK} (h : spX K C f pre post rp vs H Q E) : vs.length = n := by
  obtain ⟨a, S, ds, _, m, p, _⟩ := h
  rw [m.length]
  exact hp ds p
section
variable {K : PySem.W.Frag} {a : Addr} {S : List Addr} {σ : St} {G H : Hp} {ta tb te : TE} {tr : TA} {C C1 C2 : PyData → Prop} {A1 : List PyData → Prop} {Dn : Ends} {W : WX} {Cl : Addr} {f : Str}
theorem q_rse (h : Ev K a G te σ C) (fr : Fr a S H) (s : Same G (off S H)) (q : ∀ v d dd H', Ext a H H' → Fr a S H' → D K (off S H') v d → C d → H' dd = some (.xd [(f, v)]) → dd ∉ S → W (.ref Cl) (some dd) σ H') : tRse Cl f W te Dn σ H :=
  h S H fr s _ fun v d H2 x m c dd H' sm nd hd => q v d dd H' (x.trans (Ext.of_same sm)) (fr.ext (x.trans (Ext.of_same sm))) (m.mono ((Ext.of_same sm).off fr.mem)) c hd ((fr.ext x).out nd)
/-! ### ints compared -/
theorem ev_eqI {cI cJ : Int → Prop} {cB : Bool → Prop} (ha : Ev K a G ta σ (IsI cI)) (hb : Ev K a G tb σ (IsI cJ)) (hr : ∀ i j, cI i → cJ j → cB (decide (i = j))) : Ev K a G (tOp (rEqA K) ta tb) σ (IsB cB) := by
  refine ev_op ha hb ?_
  rintro _ _ ⟨i, rfl, hi⟩ ⟨j, rfl, hj⟩
  refine R2D.inl fun S H x y f mx my Q q => ?_
  cases mx
  cases my
  refine ⟨rfl, q _ (.bool (decide (i = j))) H Ext.refl ?_ ⟨_, rfl, hr i j hi hj⟩⟩
  have e : decide (V.int i = V.int j) = decide (i = j) := by simp
  rw [e]
  exact .bl _
theorem ev_neI {cI cJ : Int → Prop} {cB : Bool → Prop} (ha : Ev K a G ta σ (IsI cI)) (hb : Ev K a G tb σ (IsI cJ)) (hr : ∀ i j, cI i → cJ j → cB (!decide (i = j))) : Ev K a G (tOp (rNeA K) ta tb) σ (IsB cB) := by
  refine ev_op ha hb ?_
  rintro _ _ ⟨i, rfl, hi⟩ ⟨j, rfl, hj⟩
  refine R2D.inl fun S H x y f mx my Q q => ?_
  cases mx
  cases my
  refine ⟨rfl, q _ (.bool (!decide (i = j))) H Ext.refl ?_ ⟨_, rfl, hr i j hi hj⟩⟩
  have e : decide (V.int i = V.int j) = decide (i = j) := by simp
  rw [e]
  exact .bl _
end
/-! ### // by any divisor but 0 -/
def CDivV (_ j : Int) : Prop := j ≠ 0 ∧ j.natAbs.log2 < 9000
theorem op_fdivV {X : Cx} : OpR X (binaryOp .FloorDiv) (rI CDivV fun i j => .int (i.fdiv j)) := by
  refine opI (g := fun i j => i.fdiv j) fun i j _ _ _ _ _ hc q => ?_
  exact floordiv_int hc.1 q (.inl (PyProof.noPylong_of_log2 hc.2))
theorem div_ok {i j : Int} {b : Nat} (h : j ≠ 0) (hb : j.natAbs < 2 ^ b) (h0 : 0 < b) (h9 : b ≤ 9000) : CDivV i j := ⟨h, Nat.lt_of_lt_of_le (PySem.Flt.log2_lt_of h0 hb) h9⟩
end LK
set_option Elab.async false
set_option linter.all false
set_option maxRecDepth 100000
set_option maxHeartbeats 4000000
/-! LK8: sizes of data, pairs of slots, walks over a tuple's items, ratios -/
namespace LK
open PySem PySem.Spec L2
open PyProof.Rows hiding St

/-! ### sizes -/
structure Sz (n k : Nat) (d : PyData) : Prop where
  sh : d.showable = true
  lv : d.leavesShort 2000 = true
  bk : d.bulk ≤ n
  dp : d.depth ≤ k
theorem Sz.tame {n k : Nat} {d : PyData} (h : Sz n k d) (hn : n ≤ 8000 := by decide) (hk : k ≤ 60 := by decide) : Tame d := ⟨h.sh, h.lv, Nat.le_trans h.bk hn, Nat.le_trans h.dp hk⟩
theorem Sz.up {n k m j : Nat} {d : PyData} (h : Sz n k d) (hn : n ≤ m) (hk : k ≤ j) : Sz m j d := ⟨h.sh, h.lv, Nat.le_trans h.bk hn, Nat.le_trans h.dp hk⟩
theorem sz_all {n k : Nat} : ∀ ds : List PyData, (∀ d ∈ ds, Sz n k d) → PyData.showableAll ds = true ∧ PyData.leavesShortAll 2000 ds = true ∧ PyData.bulkAll ds ≤ ds.length * (n + 1) ∧ PyData.depthAll ds ≤ k
  | [], _ => ⟨by simp [PyData.showableAll], by simp [PyData.leavesShortAll], by simp [PyData.bulkAll], by simp [PyData.depthAll]⟩
  | d :: ds, h => by
    obtain ⟨a, b, c, e⟩ := sz_all ds fun z m => h z (List.mem_cons_of_mem _ m)
    obtain ⟨a1, b1, c1, e1⟩ := h d List.mem_cons_self
    refine ⟨by simp [PyData.showableAll, a, a1], by simp [PyData.leavesShortAll, b, b1], ?_, ?_⟩
    · simp only [PyData.bulkAll, List.length_cons, Nat.add_mul, Nat.one_mul]
      omega
    · simp only [PyData.depthAll]
      omega
theorem Sz.list {n k : Nat} {ds : List PyData} (h : ∀ d ∈ ds, Sz n k d) : Sz (ds.length * (n + 1)) (k + 1) (.list ds) := by
  obtain ⟨a, b, c, e⟩ := sz_all ds h
  refine ⟨by simp [PyData.showable, a], by simp [PyData.leavesShort, b], ?_, ?_⟩
  · simp only [PyData.bulk]
    exact c
  · simp only [PyData.depth]
    omega
theorem Sz.tup {n k : Nat} {ds : List PyData} (h : ∀ d ∈ ds, Sz n k d) : Sz (ds.length * (n + 1)) (k + 1) (.tuple ds) := by
  obtain ⟨a, b, c, e⟩ := sz_all ds h
  refine ⟨by simp [PyData.showable, a], by simp [PyData.leavesShort, b], ?_, ?_⟩
  · simp only [PyData.bulk]
    exact c
  · simp only [PyData.depth]
    omega
theorem sz_int {i : Int} (h : i.natAbs < 2 ^ 1000) : Sz 0 0 (.int i) := by
  have hl : i.natAbs.log2 < 1001 := by
    by_cases z : i.natAbs = 0
    · rw [z]
      decide
    · exact Nat.lt_succ_of_lt ((Nat.log2_lt z).mpr h)
  refine ⟨?_, ?_, by simp [PyData.bulk], by simp [PyData.depth]⟩
  · simp only [PyData.showable, decide_eq_true_eq]
    omega
  · simp only [PyData.leavesShort, decide_eq_true_eq, PyData.shown_int]
    have := int_text_length_le (a := i) (k := 1001) (by decide) hl
    rw [PySem.ofString_length]
    omega
theorem sz_bool {b : Bool} : Sz 0 0 (.bool b) := ⟨by simp [PyData.showable], by simp [PyData.leavesShort], by simp [PyData.bulk], by simp [PyData.depth]⟩
def szB (n k : Nat) (d : PyData) : Bool := d.showable && d.leavesShort 2000 && decide (d.bulk ≤ n) && decide (d.depth ≤ k)
theorem Sz.of {n k : Nat} {d : PyData} (h : szB n k d = true) : Sz n k d := by
  unfold szB at h
  simp only [Bool.and_eq_true, decide_eq_true_eq] at h
  exact ⟨h.1.1.1, h.1.1.2, h.1.2, h.2⟩

section
variable {K : PySem.W.Frag} {a : Addr} {S : List Addr} {σ : St} {G H : Hp} {ta tb te : TE} {tt : TT} {tr : TA} {C C1 C2 : PyData → Prop} {B : Bool → Prop} {A1 : List PyData → Prop} {Dn : Ends}
/-- x, y = e, f -/
theorem q_par {i j : Nat} (ha : Ev K a G ta σ C1) (hb : Ev K a G tb σ C2) (f : Fr a S H) (s : Same G (off S H))
    (q : ∀ v w d e H', Ext a H H' → Fr a S H' → D K (off S H') v d → D K (off S H') w e → C1 d → C2 e → Dn.nx ((σ.set i (some v)).set j (some w)) H') : tPar i j (tCons ta (tCons tb tNil)) Dn σ H :=
  ha S H f s _ fun v d H1 x1 m1 c1 => hb S H1 (f.ext x1) (f.same x1 s) _ fun w e H2 x2 m2 c2 =>
    ⟨v, w, rfl, q v w d e H2 (x1.trans x2) ((f.ext x1).ext x2) (m1.mono (x2.off f.mem)) m2 c1 c2⟩
/-- if t: x = e, where x holds something before -/
theorem q_opt {i : Nat} {R : TS} {v0 : V} {d0 : PyData} (ht : EvT a G tt σ B) (he : Ev K a G te σ C) (hi : σ[i]? = some (some v0)) (m0 : D K (off S H) v0 d0) (c0 : C d0) (f : Fr a S H) (s : Same G (off S H))
    (q : ∀ v d H', Ext a H H' → Fr a S H' → D K (off S H') v d → C d → R Dn (σ.set i (some v)) H') : tSeq (tIfS tt (tAsg te (gName i)) tNext) R Dn σ H := by
  refine ht S H f s _ fun b H1 x1 _ => ?_
  cases b with
  | true => exact he S H1 (f.ext x1) (f.same x1 s) _ fun v d H2 x2 m c => q v d H2 (x1.trans x2) ((f.ext x1).ext x2) m c
  | false =>
    have e : σ.set i (some v0) = σ := by
      apply List.ext_getElem?
      intro j
      by_cases h : i = j
      · subst h
        rw [hi]
        have hl : i < σ.length := by
          by_cases h : i < σ.length
          · exact h
          · rw [List.getElem?_eq_none (by omega)] at hi
            cases hi
        rw [List.getElem?_set_self hl]
      · rw [List.getElem?_set_ne h]
    have z := q v0 d0 H1 x1 (f.ext x1) (m0.mono (x1.off f.mem)) c0
    rw [e] at z
    exact z
theorem ev_I {σ : St} {te : TE} {i : Int} {cI : Int → Prop} (h : Ev K a G te σ (· = .int i)) (hc : cI i) : Ev K a G te σ (IsI cI) := ev_isI h hc
/-- abs -/
def rAbs : List V → Hp → VK → Prop := fun xs H Q => ∃ i, xs = [V.int i] ∧ Q (V.int (if i < 0 then -i else i)) H
theorem ev_abs {i : Int} (h : Ev K a G te σ (· = .int i)) : Ev K a G (tCB (fun xs H Q => ∃ i, xs = [V.int i] ∧ Q (V.int (if i < 0 then -i else i)) H) (tCons te tNil)) σ (· = .int (i.natAbs : Int)) := by
  refine ev_cb (A1 := (· = [.int i])) (ea_eq h ea_nil) ?_
  rintro _ rfl S H vs f m Q q
  obtain ⟨v, rfl, mv⟩ : ∃ v, vs = [v] ∧ D K (off S H) v (.int i) := by
    cases m with
    | cons m1 m2 =>
      cases m2
      exact ⟨_, rfl, m1⟩
  cases mv
  have e : (if i < 0 then -i else i) = (i.natAbs : Int) := by
    split <;> omega
  refine ⟨i, rfl, ?_⟩
  rw [e]
  exact q _ _ H Ext.refl (.int _) rfl
theorem ev_modE {i j : Int} (ha : Ev K a G ta σ (· = .int i)) (hb : Ev K a G tb σ (· = .int j)) (hj : 0 < j) : Ev K a G (tOp (rI (fun _ j => 0 < j) fun i j => .int (i % j)) ta tb) σ (· = .int (i % j)) := by
  refine ev_op ha hb ?_
  rintro _ _ rfl rfl
  exact r2_I hj (fun _ => .int _) rfl
theorem ev_divE {i j : Int} (ha : Ev K a G ta σ (· = .int i)) (hb : Ev K a G tb σ (· = .int j)) (hj : CDivW i j) : Ev K a G (tOp (rI CDivW fun i j => .int (i / j)) ta tb) σ (· = .int (i / j)) := by
  refine ev_op ha hb ?_
  rintro _ _ rfl rfl
  exact r2_I hj (fun _ => .int _) rfl
theorem ev_divV {i j : Int} (ha : Ev K a G ta σ (· = .int i)) (hb : Ev K a G tb σ (· = .int j)) (hj : CDivV i j) : Ev K a G (tOp (rI CDivV fun i j => .int (i.fdiv j)) ta tb) σ (· = .int (i.fdiv j)) := by
  refine ev_op ha hb ?_
  rintro _ _ rfl rfl
  exact r2_I hj (fun _ => .int _) rfl
/-- an item of a known tuple or list -/
theorem ev_at {ds : List PyData} {i : Int} {d : PyData} (ha : Ev K a G ta σ (fun z => z = .list ds ∨ z = .tuple ds)) (hb : Ev K a G tb σ (· = .int i)) (h : atI ds i = some d) : Ev K a G (tOp (rIx K) ta tb) σ (· = d) := by
  refine ev_ixL ha (ev_isI (c := (· = i)) hb rfl) ?_
  rintro z _ hz rfl
  exact ⟨ds, d, hz, h, rfl⟩
/-- a comprehension over what is walked, the walk told from what is known -/
theorem ev_lc2 {wi : TI} {vs : List Nat} {j : Nat} {N : Nat → Prop} {J : Nat → It} {Y : Nat → PyData → Prop}
    (hw : ∀ S H1, Fr a S H1 → Same G (off S H1) → ∀ R : It → Hp → Prop, (∀ n H2, Ext a H1 H2 → N n → R (J n) H2) → wi σ H1 R)
    (hgo : ∀ n i H', Same G H' → N n → i < n → (J n).go i H') (hst : ∀ n i H', Same G H' → N n → n ≤ i → (J n).stop i H')
    (hb : ∀ n i, N n → i < n → ∀ H' x H2, Same G H' → (J n).yld i H' x H2 → H2 = H' ∧ wipe ((wipe σ vs).set j (some x)) vs = wipe σ vs ∧ EvT a G tt ((wipe σ vs).set j (some x)) (· = true) ∧ Ev K a G te ((wipe σ vs).set j (some x)) (Y i))
    (hn : ∀ n, N n → n < 100000) :
    Ev K a G (tLc wi (gName j) tt te vs) σ (fun d => ∃ n ds, N n ∧ d = .list ds ∧ ds.length = n ∧ ∀ (i : Nat) z, ds[i]? = some z → Y i z) := by
  intro S H1 f s Q q
  refine hw S H1 f s _ fun n H2 x2 hN L hL => ?_
  have f2 := f.ext x2
  have hLS := f2.out hL
  refine ⟨fun i m H' => m = n - i ∧ i ≤ n ∧ Ext a H2 H' ∧ ∃ acc ds, H' L = some (.lst acc) ∧ DA K (off (L :: S) H') acc ds ∧ ds.length = i ∧ ∀ (i : Nat) z, ds[i]? = some z → Y i z,
    ⟨n, by simp, Nat.zero_le _, Ext.new hL, [], [], upd_same, .nil, rfl, fun i z e => by simp at e⟩, ?_⟩
  rintro i m H' ⟨rfl, hi, x', acc, ds, hacc, md, hlen, hY⟩
  have x12 := x2.trans x'
  have fL : Fr a (L :: S) H' := by
    refine ⟨List.mem_cons_of_mem _ f.mem, (f.ext x12).pot, fun b m => ?_⟩
    rcases List.mem_cons.mp m with e | m
    · rw [e]
      exact ⟨_, hacc⟩
    · exact (f.ext x12).all b m
  have sL : Same G (off (L :: S) H') := by
    intro b o e
    exact same_off_push hL (x'.off f.mem) b o (f.same x2 s b o e)
  have sH : Same G H' := fun b o e => (off_some (sL b o e)).2
  have haL : L ≠ a := fun e => hLS (e ▸ f.mem)
  by_cases hlt : i < n
  · refine .inr ⟨hgo n i H' sH hN hlt, fun H'' => (n - (i + 1) = n - (i + 1) ∧ i + 1 ≤ n ∧ Ext a H2 H'' ∧ ∃ acc ds, H'' L = some (.lst acc) ∧ DA K (off (L :: S) H'') acc ds ∧ ds.length = i + 1 ∧ ∀ (i : Nat) z, ds[i]? = some z → Y i z), ?_, ?_⟩
    · intro H'' h
      exact ⟨n - (i + 1), by omega, h⟩
    · intro x H3 hy
      obtain ⟨e3, hwp, ht, he⟩ := hb n i hN hlt H' x H3 sH hy
      subst e3
      refine ⟨hwp, ?_⟩
      refine ht (L :: S) H3 fL sL _ fun b H4 x4 eb => ?_
      subst eb
      show te _ H4 _
      have f4 := fL.ext x4
      refine he (L :: S) H4 f4 (fL.same x4 sL) _ fun v d H5 x5 m5 c5 => ?_
      have x45 := x4.trans x5
      have hacc5 : H5 L = some (.lst acc) := x45.keep _ _ haL hacc
      have md5 : DA K (off (L :: S) H5) acc ds := md.mono (x45.off fL.mem)
      have off5 : off (L :: S) (upd H5 L (.lst (acc ++ [v]))) = off (L :: S) H5 := by
        funext b
        unfold off
        by_cases hb : b ∈ L :: S
        · rw [if_pos hb, if_pos hb]
        · rw [if_neg hb, if_neg hb, upd_ne (fun e => hb (by rw [e]; exact List.mem_cons_self))]
      refine ⟨acc, hacc5, ?_, rfl, hlt, ?_, acc ++ [v], ds ++ [d], upd_same, ?_, ?_, ?_⟩
      · rw [md.length, hlen]
        exact Nat.lt_trans (Nat.lt_of_lt_of_le hlt (Nat.le_of_lt (hn n hN))) (by decide)
      · have xx := x'.trans x45
        refine ⟨fun b o nb hb => ?_, fun hp => ?_⟩
        · rw [upd_ne (ne_of_none hb hL)]
          exact xx.keep b o nb hb
        · obtain ⟨p, q, h1, h2⟩ := xx.pot hp
          exact ⟨p, q, by rw [upd_ne haL.symm]; exact h1, h2⟩
      · rw [off5]
        exact md5.append (.cons m5 .nil)
      · rw [List.length_append, hlen]
        rfl
      · intro i2 z hz
        rw [List.getElem?_append] at hz
        split at hz
        · exact hY i2 z hz
        · rename_i h2
          have h3 : i2 - ds.length = 0 := by
            by_cases h4 : i2 - ds.length = 0
            · exact h4
            · rw [List.getElem?_eq_none (by simp; omega)] at hz
              cases hz
          rw [h3] at hz
          simp at hz
          subst hz
          have : i2 = i := by omega
          rw [this]
          exact c5
  · have hin : i = n := by omega
    refine .inl ⟨hst n i H' sH hN (by omega), ?_⟩
    refine q (.ref L) (.list ds) H' x12 ?_ ⟨n, ds, hN, rfl, by omega, hY⟩
    exact .lst (off_mk hLS hacc) (md.mono same_off_pop)
/-- [e for x in t], t a tuple that stands in a slot -/
theorem ev_lcT {k j : Nat} {v : V} {ds : List PyData} {Y : Nat → PyData → Prop} (hk : σ[k]? = some (some v)) (m : D K G v (.tuple ds)) (hl : ds.length < 100000) (hj : ∀ x, wipe ((wipe σ [j]).set j (some x)) [j] = wipe σ [j])
    (hb : ∀ i x d, ds[i]? = some d → D K G x d → Ev K a G te ((wipe σ [j]).set j (some x)) (Y i)) :
    Ev K a G (tLc (iTup K (tVar k)) (gName j) tYes te [j]) σ (fun d => ∃ es, d = .list es ∧ es.length = ds.length ∧ ∀ (i : Nat) z, es[i]? = some z → Y i z) := by
  cases m with
  | @tup t xs _ ht mx =>
    refine Ev.imp (ev_lc2 (N := (· = ds.length)) (Y := Y) (J := fun _ => Itt K t) ?_ ?_ ?_ ?_ (by rintro _ rfl; exact hl)) ?_
    · intro S H1 f s R r
      exact ⟨.ref t, hk, t, rfl, ⟨xs, sqT_same (fun b o e => (off_some (s b o e)).2) ht⟩, r _ H1 Ext.refl rfl⟩
    · rintro _ i H' s rfl hi
      obtain ⟨x, hx, _⟩ := mx.get (List.getElem?_eq_getElem hi)
      exact ⟨xs, x, sqT_same s ht, hx⟩
    · rintro _ i H' s rfl hi
      exact ⟨xs, sqT_same s ht, by rw [mx.length]; exact hi⟩
    · rintro _ i rfl hi H' x H2 s ⟨rfl, hy⟩
      have hx := hy xs (sqT_same s ht)
      obtain ⟨d, hd, md⟩ := mx.getV hx
      exact ⟨rfl, hj x, et_yes, hb i x d hd md⟩
    · rintro d ⟨n, es, rfl, rfl, hl', hY⟩
      exact ⟨es, rfl, hl', hY⟩
end

/-! ### ratios -/
def ratioD (n d : Int) : PyData :=
  let t := if d < 0 then -n else n
  let l := if d < 0 then -d else d
  let p : Int := (Int.gcd t l : Nat)
  if l = p then .int (t / p) else .tuple [.int (t / p), .int (l / p)]
theorem low_ratio {n d : Int} (h : d ≠ 0) :
    (if d.fdiv (if d < 0 then -((Int.gcd n d : Nat) : Int) else (Int.gcd n d : Nat)) = 1 then PyData.int (n.fdiv (if d < 0 then -((Int.gcd n d : Nat) : Int) else (Int.gcd n d : Nat)))
      else .tuple [.int (n.fdiv (if d < 0 then -((Int.gcd n d : Nat) : Int) else (Int.gcd n d : Nat))), .int (d.fdiv (if d < 0 then -((Int.gcd n d : Nat) : Int) else (Int.gcd n d : Nat)))]) = ratioD n d := by
  have gp : (0 : Int) < (Int.gcd n d : Nat) := by
    have := Int.gcd_pos_of_ne_zero_right n h
    omega
  obtain ⟨k, hk⟩ := Int.gcd_dvd_left n d
  obtain ⟨m, hm⟩ := Int.gcd_dvd_right n d
  unfold ratioD
  dsimp only
  by_cases hd : d < 0
  · simp only [if_pos hd, Int.neg_gcd, Int.gcd_neg]
    generalize ((Int.gcd n d : Nat) : Int) = g at *
    have hg : -g ≠ 0 := by omega
    have e1 : n.fdiv (-g) = -k := by
      rw [hk, show g * k = (-g) * (-k) by rw [Int.neg_mul_neg]]
      exact Int.mul_fdiv_cancel_left _ hg
    have e2 : d.fdiv (-g) = -m := by
      rw [hm, show g * m = (-g) * (-m) by rw [Int.neg_mul_neg]]
      exact Int.mul_fdiv_cancel_left _ hg
    have e3 : -n / g = -k := by
      rw [hk, ← Int.mul_neg]
      exact Int.mul_ediv_cancel_left _ (by omega)
    have e4 : -d / g = -m := by
      rw [hm, ← Int.mul_neg]
      exact Int.mul_ediv_cancel_left _ (by omega)
    rw [e1, e2, e3, e4]
    have e5 : (-m = 1) ↔ (-d = g) := by
      constructor
      · intro z
        rw [hm, ← Int.mul_neg, z, Int.mul_one]
      · intro z
        rw [← e4, z]
        exact Int.ediv_self (by omega)
    by_cases z : -m = 1
    · rw [if_pos z, if_pos (e5.mp z)]
    · rw [if_neg z, if_neg fun y => z (e5.mpr y)]
  · simp only [if_neg hd]
    generalize ((Int.gcd n d : Nat) : Int) = g at *
    rw [Int.fdiv_eq_ediv_of_nonneg _ (by omega), Int.fdiv_eq_ediv_of_nonneg _ (by omega)]
    have e4 : d / g = m := by
      rw [hm]
      exact Int.mul_ediv_cancel_left _ (by omega)
    have e5 : (d / g = 1) ↔ (d = g) := by
      constructor
      · intro z
        rw [e4] at z
        rw [hm, z, Int.mul_one]
      · intro z
        rw [z]
        exact Int.ediv_self (by omega)
    by_cases z : d / g = 1
    · rw [if_pos z, if_pos (e5.mp z)]
    · rw [if_neg z, if_neg fun y => z (e5.mpr y)]
theorem gcd_step {x y : Int} (h : 0 < y) : Int.gcd y (x % y) = Int.gcd x y := by
  have e : x % y = x - y * (x / y) := by
    have := Int.emod_add_mul_ediv x y
    omega
  rw [e, Int.gcd_sub_mul_left_right, Int.gcd_comm]
end LK
set_option Elab.async false
set_option linter.all false
set_option maxRecDepth 100000
set_option maxHeartbeats 4000000
/-! LK9: texts: slices, str, int, split, f-strings, signs; x is None; unpacking a pair; for over a list of data -/
namespace LK
open PySem PySem.Spec L2
open PyProof.Rows hiding St
open TL (tl)

theorem log_ok {i : Int} {n : Nat} (h : i.natAbs < 2 ^ n) (hn : n < 1920) : i.natAbs.log2 < 1920 := by
  by_cases z : i.natAbs = 0
  · rw [z]
    decide
  · exact Nat.lt_of_lt_of_le ((Nat.log2_lt z).mpr h) (Nat.le_of_lt hn)
theorem tl_cutF (x : Str) (k : Nat) (h : k ≤ x.length) : tl (cutS x (some (k : Int)) none) = (tl x).drop k := by
  show (x.cps.toList.drop (HT.sIx x.length 0 (some (k : Int)))).take (HT.sIx x.length x.length none - HT.sIx x.length 0 (some (k : Int))) = _
  rw [HT.sIx_nat, HT.sIx_none, Nat.min_eq_left h]
  apply List.take_of_length_le
  rw [List.length_drop, Array.length_toList]
  exact Nat.le_refl _
theorem tl_cutF1 (x : Str) : tl (cutS x (some 1) none) = (tl x).drop 1 := by
  by_cases h : 1 ≤ x.length
  · exact tl_cutF x 1 h
  · have h0 : x.length = 0 := by omega
    have e : tl x = [] := by
      have := TL.len_tl x
      exact List.length_eq_zero_iff.mp (by omega)
    have l := cutS_length x (some 1) none
    have e2 : tl (cutS x (some 1) none) = [] := by
      have := TL.len_tl (cutS x (some 1) none)
      exact List.length_eq_zero_iff.mp (by omega)
    rw [e2, e]
    rfl
theorem tl_cutT1 (x : Str) : tl (cutS x none (some 1)) = (tl x).take 1 := by
  show (x.cps.toList.drop (HT.sIx x.length 0 none)).take (HT.sIx x.length x.length (some ((1 : Nat) : Int)) - HT.sIx x.length 0 none) = _
  rw [HT.sIx_nat, HT.sIx_none, List.drop_zero, Nat.sub_zero]
  have hl : x.cps.toList.length = x.length := (TL.len_tl x).symm
  by_cases h : 1 ≤ x.length
  · rw [Nat.min_eq_left h]
  · have h0 : x.cps.toList = [] := List.length_eq_zero_iff.mp (by omega)
    show x.cps.toList.take _ = x.cps.toList.take 1
    rw [h0]
    simp
section
variable {K : PySem.W.Frag} {a : Addr} {S : List Addr} {σ : St} {G H : Hp} {ta tb te : TE} {tt : TT} {tr : TA} {C C1 C2 : PyData → Prop} {B : Bool → Prop} {A1 : List PyData → Prop} {Dn : Ends}
/-! ### slices -/
theorem ev_slF {x : Str} {cI : Int → Prop} (h : Ev K a G te σ (· = .str x)) (hb : Ev K a G tb σ (IsI cI)) (hl : x.length ≤ 1000000) (hC : ∀ i, cI i → C (.str (cutS x (some i) none))) : Ev K a G (tSl rSlS te (tPart tb) tNoPart) σ C := fun S H1 f s Q q =>
  h S H1 f s _ fun v d H2 x2 m c => hb S H2 (f.ext x2) (f.same x2 s) _ fun w e H3 x3 m3 c3 => by
    subst c
    obtain ⟨i, rfl, ci⟩ := c3
    cases m
    cases m3
    exact ⟨i, rfl, x, rfl, Nat.le_trans hl (by decide), q _ _ H3 (x2.trans x3) (.str _) (hC i ci)⟩
theorem ev_slT {x : Str} {cI : Int → Prop} (h : Ev K a G te σ (· = .str x)) (hb : Ev K a G tb σ (IsI cI)) (hl : x.length ≤ 1000000) (hC : ∀ i, cI i → C (.str (cutS x none (some i)))) : Ev K a G (tSl rSlS te tNoPart (tPart tb)) σ C := fun S H1 f s Q q =>
  h S H1 f s _ fun v d H2 x2 m c => hb S H2 (f.ext x2) (f.same x2 s) _ fun w e H3 x3 m3 c3 => by
    subst c
    obtain ⟨i, rfl, ci⟩ := c3
    cases m
    cases m3
    exact ⟨i, rfl, x, rfl, Nat.le_trans hl (by decide), q _ _ H3 (x2.trans x3) (.str _) (hC i ci)⟩
/-! ### str(i), int(x) -/
theorem ev_strI {i : Int} (h : Ev K a G te σ (· = .int i)) (hb : i.natAbs < 2 ^ 1900) : Ev K a G (tCB (fun xs H Q => ∃ i, xs = [V.int i] ∧ i.natAbs.log2 < 1920 ∧ Q (V.str (toString i)) H) (tCons te tNil)) σ (· = .str (Str.ofString (toString i))) := fun S H1 f s Q q =>
  h S H1 f s _ fun v d H2 x2 m c => by
    subst c
    cases m
    exact ⟨i, rfl, log_ok hb (by decide), q _ _ H2 x2 (.str _) rfl⟩
theorem ev_intS {x : Str} {n : Int} (h : Ev K a G te σ (· = .str x)) (hn : intText? x = some n) (hl : x.length ≤ 640) : Ev K a G (tCB (fun xs H Q => ∃ a n, xs = [V.str a] ∧ intText? a = some n ∧ a.length ≤ 640 ∧ Q (V.int n) H) (tCons te tNil)) σ (· = .int n) := fun S H1 f s Q q =>
  h S H1 f s _ fun v d H2 x2 m c => by
    subst c
    cases m
    exact ⟨x, n, rfl, hn, hl, q _ _ H2 x2 (.int _) rfl⟩
/-! ### split -/
theorem DA.of_strs : ∀ ys : List Str, DA K H (ys.map V.str) (ys.map PyData.str)
  | [] => .nil
  | y :: ys => .cons (.str y) (DA.of_strs ys)
theorem ev_split {x y : Str} (h : Ev K a G te σ (· = .str x)) (hy : (y.length == 0) = false) (hl : x.length ≤ 1000000) : Ev K a G (tM1 (fun x xs H Q => ∃ a b, x = V.str a ∧ xs = [V.str b] ∧ (b.length == 0) = false ∧ a.length + 2 ≤ sizeLine ∧ rNewStrs (Txt.split a b) H Q) te (tC (.str y))) σ
    (· = .list ((Txt.split x y).map .str)) := fun S H1 f s Q q => h S H1 f s _ fun v d H2 x2 m c => by
  subst c
  cases m
  refine ⟨⟨x, rfl⟩, x, y, rfl, rfl, hy, Nat.le_trans (Nat.add_le_add_right hl 2) (by decide), fun p hp => ?_⟩
  exact q _ _ _ (x2.trans (Ext.new hp)) (D.new_lst hp ((f.ext x2).out hp) (DA.of_strs _)) rfl
/-! ### f'{i}/{j}' -/
theorem ev_fmt2 {i j : Int} {z : Str} (ha : Ev K a G ta σ (· = .int i)) (hb : Ev K a G tb σ (· = .int j)) (hi : i.natAbs < 2 ^ 1900) (hj : j.natAbs < 2 ^ 1900)
    (h1 : (Str.ofString (toString i)).length ≤ 1000) (h2 : (Str.ofString (toString j)).length ≤ 1000) (h3 : z.length ≤ 1000) :
    Ev K a G (fun σ H Q => tJs [tFmt ta, tC (.str z), tFmt tb] Str.empty σ H fun out H1 => Q (.str out) H1) σ (· = .str (Str.ofString (toString i) ++ z ++ Str.ofString (toString j))) := fun S H1 f s Q q =>
  ha S H1 f s _ fun v d H2 x2 m c => by
    subst c
    cases m
    have e0 : Str.empty ++ Str.ofString (toString i) = Str.ofString (toString i) := by
      apply TL.ext_tl
      rw [TL.tl_append]
      rfl
    have len : ∀ x y : Str, (x ++ y).length = x.length + y.length := fun x y => by rw [TL.len_tl, TL.tl_append, List.length_append, ← TL.len_tl, ← TL.len_tl]
    refine .inr ⟨i, rfl, log_ok hi (by decide), _, rfl, ?_, ?_⟩
    · rw [e0]
      exact Nat.le_trans h1 (by decide)
    · rw [e0]
      refine ⟨z, rfl, ?_, ?_⟩
      · rw [len]
        exact Nat.le_trans (Nat.add_le_add h1 h3) (by decide)
      · refine hb S H2 (f.ext x2) (f.same x2 s) _ fun w e H3 x3 m3 c3 => ?_
        subst c3
        cases m3
        refine .inr ⟨j, rfl, log_ok hj (by decide), _, rfl, ?_, q _ _ H3 (x2.trans x3) (.str _) rfl⟩
        rw [len, len]
        exact Nat.le_trans (Nat.add_le_add (Nat.add_le_add h1 h3) h2) (by decide)
/-! ### x is None -/
def noneD : PyData → Bool
  | .none => true
  | _ => false
theorem ev_isN {d : PyData} (h : Ev K a G te σ (· = d)) : Ev K a G (tOp (fun x y H Q => y = V.non ∧ Q (.bl (decide (x = .non))) H) te (tC .non)) σ (· = .bool (noneD d)) := fun S H1 f s Q q =>
  h S H1 f s _ fun v d' H2 x2 m c => by
    subst c
    refine ⟨rfl, ?_⟩
    have e : decide (v = V.non) = noneD d' := by
      cases m <;> simp [noneD]
    rw [e]
    exact q _ _ H2 x2 (.bl _) rfl
/-! ### all([c in z for c in x]) -/
theorem ev_allIn {x z : Str} {j : Nat} {tz : TE} (h : Ev K a G te σ (· = .str x)) (hz : ∀ v, Ev K a G tz ((wipe σ [j]).set j (some v)) (· = .str z)) (hl : x.length < 100000) (hj : ∀ x, wipe ((wipe σ [j]).set j (some x)) [j] = wipe σ [j]) (hσ : ∀ v, ((wipe σ [j]).set j (some v))[j]? = some (some v)) :
    Ev K a G (tCB (rAll K) (tCons (tLc (iStr te) (gName j) tYes (tOp (rInA K) (tVar j) tz) [j]) tNil)) σ (· = .bool ((tl x).all fun c => decide (c ∈ tl z))) := by
  refine Ev.imp (ev_all (B := (· = (tl x).all fun c => decide (c ∈ tl z))) (ev_lcS (Y := fun i y => ∃ c, x.cps[i]? = some c ∧ y = .bool (decide (c ∈ tl z))) h hl hj ?_) ?_) ?_
  · intro i c hc
    refine (ev_inSgn (P := (· = c)) (B := (· = decide (c ∈ tl z))) (ev_var (hσ _) (.str _) |>.imp ?_) (hz _) ?_).imp ?_
    · rintro _ rfl
      exact ⟨c, rfl, rfl⟩
    · rintro _ rfl
      rfl
    · rintro _ ⟨b, rfl, rfl⟩
      exact ⟨c, hc, rfl⟩
  · rintro _ ⟨ds, rfl, hl, hY⟩
    refine ⟨(tl x).map fun c => decide (c ∈ tl z), ?_, ?_⟩
    · congr 1
      apply List.ext_getElem?
      intro i
      rw [List.getElem?_map, List.getElem?_map]
      by_cases hi : i < x.length
      · obtain ⟨c, hc, hz⟩ := hY i ds[i] (List.getElem?_eq_getElem (by omega))
        have hc' : (tl x)[i]? = some c := by simpa using hc
        rw [hc', List.getElem?_eq_getElem (by omega), hz]
        rfl
      · have hx : (tl x).length ≤ i := by
          rw [← TL.len_tl]
          omega
        rw [List.getElem?_eq_none (by omega), List.getElem?_eq_none hx]
        rfl
    · rw [List.all_map]
      rfl
  · rintro _ ⟨b, rfl, rfl⟩
    rfl
/-! ### a call that may raise -/
theorem callX_ok {sp : Sp} {C0 : Addr} {f : Str} {pre : List PyData → Prop} {post rp : List PyData → PyData → Prop} {dvs : List V} {dds : List PyData} {E : St → XK} {Qc : VK} (h : EvA K a G tr σ A1) (fr : Fr a S H) (s : Same G (off S H)) (md : ∀ H, DA K H dvs dds)
    (hp : ∀ ds, A1 ds → pre (ds ++ dds)) (q : ∀ ds v d H', A1 ds → Ext a H H' → Fr a S H' → D K (off S H') v d → post (ds ++ dds) d → Qc v H')
    (e : ∀ ds v d dd H', A1 ds → Ext a H H' → Fr a S H' → D K (off S H') v d → rp (ds ++ dds) d → H' dd = some (.xd [(f, v)]) → dd ∉ S → E σ (.ref C0) (some dd) H') : tCallX (spX K C0 f pre post rp) dvs E tr σ H Qc :=
  h S H fr s _ fun vs ds H1 x1 m c => ⟨a, S, ds ++ dds, fr.ext x1, m.append (md _), hp ds c, fun v d H2 x2 m2 p => q ds v d H2 c (x1.trans x2) ((fr.ext x1).ext x2) m2 p,
    fun v d dd H2 x2 m2 p hd hS => e ds v d dd H2 c (x1.trans x2) ((fr.ext x1).ext x2) m2 p hd hS⟩
theorem q_dropX {C0 : Addr} {f : Str} {pre : List PyData → Prop} {post rp : List PyData → PyData → Prop} {dvs : List V} {dds : List PyData} {W : WX} (h : EvA K a G tr σ A1) (fr : Fr a S H) (s : Same G (off S H)) (md : ∀ H, DA K H dvs dds)
    (hp : ∀ ds, A1 ds → pre (ds ++ dds)) (q : ∀ ds v d H', A1 ds → Ext a H H' → Fr a S H' → D K (off S H') v d → post (ds ++ dds) d → Dn.nx σ H')
    (e : ∀ ds v d dd H', A1 ds → Ext a H H' → Fr a S H' → D K (off S H') v d → rp (ds ++ dds) d → H' dd = some (.xd [(f, v)]) → dd ∉ S → W (.ref C0) (some dd) σ H') : tDrop (tCallX (spX K C0 f pre post rp) dvs (fun σ => WE W σ) tr) Dn σ H :=
  callX_ok (sp := fun _ _ _ _ => True) (E := fun σ => WE W σ) (Qc := fun _ H1 => Dn.nx σ H1) h fr s md hp q e
theorem q_setX {i : Nat} {C0 : Addr} {f : Str} {pre : List PyData → Prop} {post rp : List PyData → PyData → Prop} {dvs : List V} {dds : List PyData} {W : WX} (h : EvA K a G tr σ A1) (fr : Fr a S H) (s : Same G (off S H)) (md : ∀ H, DA K H dvs dds)
    (hp : ∀ ds, A1 ds → pre (ds ++ dds)) (q : ∀ ds v d H', A1 ds → Ext a H H' → Fr a S H' → D K (off S H') v d → post (ds ++ dds) d → Dn.nx (σ.set i (some v)) H')
    (e : ∀ ds v d dd H', A1 ds → Ext a H H' → Fr a S H' → D K (off S H') v d → rp (ds ++ dds) d → H' dd = some (.xd [(f, v)]) → dd ∉ S → W (.ref C0) (some dd) σ H') : tAsg (tCallX (spX K C0 f pre post rp) dvs (fun σ => WE W σ) tr) (gName i) Dn σ H :=
  callX_ok (sp := fun _ _ _ _ => True) (E := fun σ => WE W σ) (Qc := fun v H1 => Dn.nx (σ.set i (some v)) H1) h fr s md hp q e
/-- .. of which no exception comes -/
theorem ev_callXn {C0 : Addr} {f : Str} {pre : List PyData → Prop} {post rp : List PyData → PyData → Prop} {dvs : List V} {dds : List PyData} {E : St → XK} (h : EvA K a G tr σ A1) (md : ∀ H, DA K H dvs dds) (hp : ∀ ds, A1 ds → pre (ds ++ dds)) (hc : ∀ ds d, A1 ds → post (ds ++ dds) d → C d)
    (hn : ∀ ds d, A1 ds → ¬ rp (ds ++ dds) d) : Ev K a G (tCallX (spX K C0 f pre post rp) dvs E tr) σ C := fun S H1 f s Q q =>
  callX_ok (sp := fun _ _ _ _ => True) h f s md hp (fun ds v d H' c x _ m p => q v d H' x m (hc ds d c p)) fun ds v d dd H' c _ _ _ p _ _ => absurd p (hn ds d c)
theorem ev_callXk {C0 : Addr} {f : Str} {pre : List PyData → Prop} {post rp : List PyData → PyData → Prop} {n : Nat} {g : {α : Type} → List α → List α} {E : XK} (h : EvA K a G tr σ A1) (hl : ∀ ds, A1 ds → ds.length = n) (hg : ∀ {H : Hp} {vs : List V} {ds : List PyData}, vs.length = n → DA K H vs ds → DA K H (g vs) (g ds))
    (hp : ∀ ds, A1 ds → pre (g ds)) (hc : ∀ ds d, A1 ds → post (g ds) d → C d) (hn : ∀ ds d, A1 ds → ¬ rp (g ds) d) : Ev K a G (tCallK0 n (spX K C0 f pre post rp) g E tr) σ C := fun S H1 fr s Q q =>
  h S H1 fr s _ fun vs ds H2 x2 m c => ⟨by rw [m.length]; exact hl ds c, a, S, g ds, fr.ext x2, hg (by rw [m.length]; exact hl ds c) m, hp ds c, fun v d H3 x3 m3 p => q v d H3 (x2.trans x3) m3 (hc ds d c p),
    fun v d dd H3 _ _ p _ _ => absurd p (hn ds d c)⟩
/-! ### x, y = a pair -/
theorem q_unpack {i j : Nat} {d e : PyData} (h : Ev K a G te σ (· = .tuple [d, e])) (f : Fr a S H) (s : Same G (off S H))
    (q : ∀ v w H', Ext a H H' → Fr a S H' → D K (off S H') v d → D K (off S H') w e → Dn.nx ((σ.set i (some v)).set j (some w)) H') : tAsg te (gTup K 2 (gCons (gName i) (gCons (gName j) gNil))) Dn σ H :=
  h S H f s _ fun v d' H2 x2 m c => by
    subst c
    cases m with
    | tup ht mx =>
      cases mx with
      | cons m1 mx =>
        cases mx with
        | cons m2 mx =>
          cases mx
          exact ⟨_, _, rfl, sqT_same off_le ht, rfl, _, _, rfl, _, _, rfl, rfl, q _ _ H2 x2 (f.ext x2) m1 m2⟩
end
end LK
--NEVER law _law_right _law_parsed _law_refused
set_option Elab.async false
set_option linter.all false
set_option maxRecDepth 100000
set_option maxHeartbeats 4000000
namespace K14
open PySem PySem.Spec L2 LK
open PyProof.Rows hiding St
def topS (i : Nat) : Stmt := PySem.Challenge.pw_lastheld_k14_number_texts.main.body.getD i (.Pass ⟨0, 0, 0, 0⟩)
abbrev s_InvalidNumber___init__ : Stmt := inClass (topS 5) 0
theorem sc_InvalidNumber___init__ : FnScope ["self", "value"] ["self", "value"] (defScope s_InvalidNumber___init__) := ⟨rfl, rfl, rfl, by decide +kernel, rfl, by decide +kernel, by decide +kernel⟩
abbrev s_InvalidText___init__ : Stmt := inClass (topS 6) 0
theorem sc_InvalidText___init__ : FnScope ["self", "line"] ["self", "line"] (defScope s_InvalidText___init__) := ⟨rfl, rfl, rfl, by decide +kernel, rfl, by decide +kernel, by decide +kernel⟩
abbrev s_is_integer : Stmt := topS 8
theorem sc_is_integer : FnScope ["value"] ["value"] (defScope s_is_integer) := ⟨rfl, rfl, rfl, by decide +kernel, rfl, by decide +kernel, by decide +kernel⟩
abbrev s_common_divisor : Stmt := topS 11
theorem sc_common_divisor : FnScope ["one", "other", "first", "second"] ["one", "other"] (defScope s_common_divisor) := ⟨rfl, rfl, rfl, by decide +kernel, rfl, by decide +kernel, by decide +kernel⟩
abbrev s_is_number : Stmt := topS 12
theorem sc_is_number : FnScope ["value"] ["value"] (defScope s_is_number) := ⟨rfl, rfl, rfl, by decide +kernel, rfl, by decide +kernel, by decide +kernel⟩
abbrev s_check_numbers : Stmt := topS 13
theorem sc_check_numbers : FnScope ["values", "value"] ["values"] (defScope s_check_numbers) := ⟨rfl, rfl, rfl, by decide +kernel, rfl, by decide +kernel, by decide +kernel⟩
abbrev s_top_and_low : Stmt := topS 14
theorem sc_top_and_low : FnScope ["value"] ["value"] (defScope s_top_and_low) := ⟨rfl, rfl, rfl, by decide +kernel, rfl, by decide +kernel, by decide +kernel⟩
abbrev s_number_text : Stmt := topS 15
theorem sc_number_text : FnScope ["value", "top", "low"] ["value"] (defScope s_number_text) := ⟨rfl, rfl, rfl, by decide +kernel, rfl, by decide +kernel, by decide +kernel⟩
abbrev s_is_decimal : Stmt := topS 16
theorem sc_is_decimal : FnScope ["word", "sign"] ["word"] (defScope s_is_decimal) := ⟨rfl, rfl, rfl, by decide +kernel, rfl, by decide +kernel, by decide +kernel⟩
abbrev s_parse_integer : Stmt := topS 17
theorem sc_parse_integer : FnScope ["word", "rest"] ["word"] (defScope s_parse_integer) := ⟨rfl, rfl, rfl, by decide +kernel, rfl, by decide +kernel, by decide +kernel⟩
abbrev s_parse_number : Stmt := topS 18
theorem sc_parse_number : FnScope ["text", "words", "top"] ["text"] (defScope s_parse_number) := ⟨rfl, rfl, rfl, by decide +kernel, rfl, by decide +kernel, by decide +kernel⟩
abbrev s_l_pot : Stmt := topS 20
theorem sc_l_pot : FnScope ["_law_script", "_law_k", "_law_digits"] ["_law_script", "_law_k"] (defScope s_l_pot) := ⟨rfl, rfl, rfl, by decide +kernel, rfl, by decide +kernel, by decide +kernel⟩
abbrev s_l_draw : Stmt := topS 21
theorem sc_l_draw : FnScope ["_law_pot_here", "_law_many", "_law_digit"] ["_law_pot_here", "_law_many"] (defScope s_l_draw) := ⟨rfl, rfl, rfl, by decide +kernel, rfl, by decide +kernel, by decide +kernel⟩
abbrev s_l_common : Stmt := topS 22
theorem sc_l_common : FnScope ["_law_a", "_law_b"] ["_law_a", "_law_b"] (defScope s_l_common) := ⟨rfl, rfl, rfl, by decide +kernel, rfl, by decide +kernel, by decide +kernel⟩
abbrev s_l_ratio : Stmt := topS 23
theorem sc_l_ratio : FnScope ["_law_top", "_law_low", "_law_part"] ["_law_top", "_law_low"] (defScope s_l_ratio) := ⟨rfl, rfl, rfl, by decide +kernel, rfl, by decide +kernel, by decide +kernel⟩
abbrev s_l_worth : Stmt := topS 24
theorem sc_l_worth : FnScope ["_law_pot_here", "_law_way", "_law_top"] ["_law_pot_here"] (defScope s_l_worth) := ⟨rfl, rfl, rfl, by decide +kernel, rfl, by decide +kernel, by decide +kernel⟩
abbrev s_l_odd : Stmt := topS 25
theorem sc_l_odd : FnScope ["_law_pot_here", "_law_some"] ["_law_pot_here"] (defScope s_l_odd) := ⟨rfl, rfl, rfl, by decide +kernel, rfl, by decide +kernel, by decide +kernel⟩
abbrev s_l_is_ratio : Stmt := topS 26
theorem sc_l_is_ratio : FnScope ["_law_thing", "_law_part"] ["_law_thing"] (defScope s_l_is_ratio) := ⟨rfl, rfl, rfl, by decide +kernel, rfl, by decide +kernel, by decide +kernel⟩
abbrev s_l_written : Stmt := topS 27
theorem sc_l_written : FnScope ["_law_thing"] ["_law_thing"] (defScope s_l_written) := ⟨rfl, rfl, rfl, by decide +kernel, rfl, by decide +kernel, by decide +kernel⟩
abbrev s_l_parsed : Stmt := topS 28
theorem sc_l_parsed : FnScope ["_law_words", "_law_told", "e", "_law_others"] ["_law_words"] (defScope s_l_parsed) := ⟨rfl, rfl, rfl, by decide +kernel, rfl, by decide +kernel, by decide +kernel⟩
abbrev s_l_is_plain : Stmt := topS 29
theorem sc_l_is_plain : FnScope ["_law_word", "_law_is_signed", "_law_rest", "_law_sign"] ["_law_word", "_law_is_signed"] (defScope s_l_is_plain) := ⟨rfl, rfl, rfl, by decide +kernel, rfl, by decide +kernel, by decide +kernel⟩
abbrev s_l_due : Stmt := topS 30
theorem sc_l_due : FnScope ["_law_words", "_law_some", "_law_thing"] ["_law_words"] (defScope s_l_due) := ⟨rfl, rfl, rfl, by decide +kernel, rfl, by decide +kernel, by decide +kernel⟩
abbrev s_l_spoilt : Stmt := topS 31
theorem sc_l_spoilt : FnScope ["_law_pot_here", "_law_words", "_law_sign", "_law_at", "_law_way"] ["_law_pot_here", "_law_words"] (defScope s_l_spoilt) := ⟨rfl, rfl, rfl, by decide +kernel, rfl, by decide +kernel, by decide +kernel⟩
abbrev s_l_refused : Stmt := topS 32
theorem sc_l_refused : FnScope ["_law_thing", "_law_told", "e"] ["_law_thing"] (defScope s_l_refused) := ⟨rfl, rfl, rfl, by decide +kernel, rfl, by decide +kernel, by decide +kernel⟩
abbrev s_l_right : Stmt := topS 33
theorem sc_l_right : FnScope ["_law_pot_here", "_law_thing", "_law_words", "_law_spoilt_here", "_law_turn", "_law_fixed", "_law_one", "_law_told", "_law_odd_here"] ["_law_pot_here"] (defScope s_l_right) := ⟨rfl, rfl, rfl, by decide +kernel, rfl, by decide +kernel, by decide +kernel⟩
abbrev s_law : Stmt := topS 34
theorem sc_law : FnScope ["_law_script", "_law_k", "_law_pot_here", "_law_turn"] ["_law_script"] (defScope s_law) := ⟨rfl, rfl, rfl, by decide +kernel, rfl, by decide +kernel, by decide +kernel⟩
structure Cls where
  LastheldError : Addr
  MissingError : Addr
  StateError : Addr
  LimitError : Addr
  InvalidNumber : Addr
  InvalidText : Addr
structure Txt (K : PySem.W.Frag) (mg : Str → Option Value) (c : Cls) : Prop where
  triv : True
  b_abs : mg "abs" = none
  b_all : mg "all" = none
  b_bool : mg "bool" = none
  b_divmod : mg "divmod" = none
  b_int : mg "int" = none
  b_isinstance : mg "isinstance" = none
  b_len : mg "len" = none
  b_max : mg "max" = none
  b_min : mg "min" = none
  b_range : mg "range" = none
  b_repr : mg "repr" = none
  b_str : mg "str" = none
  b_tuple : mg "tuple" = none
  g_LastheldError : mg "LastheldError" = some (.ref c.LastheldError)
  g_MissingError : mg "MissingError" = some (.ref c.MissingError)
  g_StateError : mg "StateError" = some (.ref c.StateError)
  g_LimitError : mg "LimitError" = some (.ref c.LimitError)
  g_InvalidNumber : mg "InvalidNumber" = some (.ref c.InvalidNumber)
  g_InvalidText : mg "InvalidText" = some (.ref c.InvalidText)
  xb_LastheldError : XB K mg "LastheldError" c.LastheldError
  xc_InvalidNumber : XC K mg "InvalidNumber" c.InvalidNumber
  nf_InvalidNumber : PySem.W.findIn K (.ref c.InvalidNumber) "value" = some none
  in_InvalidNumber : ∃ (fI : Addr) (fd : FuncData), PySem.W.findIn K (.ref c.InvalidNumber) "__init__" = some (some (.ref fI)) ∧ PySem.W.typeIn K (.ref fI) = some (.type "function") ∧ Fun K "__init__" "InvalidNumber.__init__" s_InvalidNumber___init__ fI fd
  k_InvalidNumber_InvalidNumber : PySem.W.kitOne K (.ref c.InvalidNumber) (.ref c.InvalidNumber) = some true
  k_InvalidNumber_LimitError : PySem.W.kitOne K (.ref c.InvalidNumber) (.ref c.LimitError) = some false
  k_InvalidNumber_MissingError : PySem.W.kitOne K (.ref c.InvalidNumber) (.ref c.MissingError) = some false
  k_InvalidNumber_StateError : PySem.W.kitOne K (.ref c.InvalidNumber) (.ref c.StateError) = some false
  k_InvalidNumber_LastheldError : PySem.W.kitOne K (.ref c.InvalidNumber) (.ref c.LastheldError) = some true
  xc_InvalidText : XC K mg "InvalidText" c.InvalidText
  nf_InvalidText : PySem.W.findIn K (.ref c.InvalidText) "line" = some none
  in_InvalidText : ∃ (fI : Addr) (fd : FuncData), PySem.W.findIn K (.ref c.InvalidText) "__init__" = some (some (.ref fI)) ∧ PySem.W.typeIn K (.ref fI) = some (.type "function") ∧ Fun K "__init__" "InvalidText.__init__" s_InvalidText___init__ fI fd
  k_InvalidText_InvalidNumber : PySem.W.kitOne K (.ref c.InvalidText) (.ref c.InvalidNumber) = some false
  k_InvalidText_LimitError : PySem.W.kitOne K (.ref c.InvalidText) (.ref c.LimitError) = some false
  k_InvalidText_MissingError : PySem.W.kitOne K (.ref c.InvalidText) (.ref c.MissingError) = some false
  k_InvalidText_StateError : PySem.W.kitOne K (.ref c.InvalidText) (.ref c.StateError) = some false
  k_InvalidText_LastheldError : PySem.W.kitOne K (.ref c.InvalidText) (.ref c.LastheldError) = some true
  g_DIGITS : ∃ t, mg "DIGITS" = some (.str "0123456789" t)
theorem ok_InvalidNumber___init__ {P : Program} {w : World} {K : PySem.W.Frag} {mg : Str → Option Value} {base : Heap} {c : Cls} (T : Txt K mg c) : XR P w K mg base "InvalidNumber" c.InvalidNumber "value" := by
  obtain ⟨fI, fd, h1, h2, F⟩ := T.in_InvalidNumber
  refine ⟨T.xc_InvalidNumber, fI, fd, ["self", "value"], h1, h2, F.ok sc_InvalidNumber___init__ (fun vs H Q E h => ?_) (fun cdv A outer s H vs Q E hr h => ⟨_, ?_, rd_init (z := "the value is not a number") T.xc_InvalidNumber.ox T.nf_InvalidNumber h⟩), F.binds fun _ _ _ _ _ _ us hl => match us, hl with | [_, _], _ => rfl⟩
  · obtain ⟨a, v, rfl, _⟩ := h
    rfl
  · have B_LastheldError := T.xb_LastheldError
    exact (pss_cons (ps_expr (pe_bi B_LastheldError (by rfl) (pa_cons (pv 0) (pa_cons pe_str pa_nil))))
    (pss_one (ps_ost (pv 0) (pv 1))))
theorem ok_InvalidText___init__ {P : Program} {w : World} {K : PySem.W.Frag} {mg : Str → Option Value} {base : Heap} {c : Cls} (T : Txt K mg c) : XR P w K mg base "InvalidText" c.InvalidText "line" := by
  obtain ⟨fI, fd, h1, h2, F⟩ := T.in_InvalidText
  refine ⟨T.xc_InvalidText, fI, fd, ["self", "line"], h1, h2, F.ok sc_InvalidText___init__ (fun vs H Q E h => ?_) (fun cdv A outer s H vs Q E hr h => ⟨_, ?_, rd_init (z := "the value is not a text that can be read") T.xc_InvalidText.ox T.nf_InvalidText h⟩), F.binds fun _ _ _ _ _ _ us hl => match us, hl with | [_, _], _ => rfl⟩
  · obtain ⟨a, v, rfl, _⟩ := h
    rfl
  · have B_LastheldError := T.xb_LastheldError
    exact (pss_cons (ps_expr (pe_bi B_LastheldError (by rfl) (pa_cons (pv 0) (pa_cons pe_str pa_nil))))
    (pss_one (ps_ost (pv 0) (pv 1))))
end K14
--NEVER law _law_right _law_parsed _law_refused
set_option Elab.async false
set_option linter.all false
set_option maxRecDepth 100000
set_option maxHeartbeats 4000000
namespace K14
open PySem PySem.Spec L2 LK
open PyProof.Rows hiding St
def isIntD : PyData → Bool
  | .int _ => true
  | _ => false
def intOrBool : PyData → Bool
  | .int _ => true
  | .bool _ => true
  | _ => false
def boolD : PyData → Bool
  | .bool _ => true
  | _ => false
def tupD : PyData → Bool
  | .tuple _ => true
  | _ => false
theorem kit_int : ∀ d : PyData, kitB (tyD d) "int" = some (intOrBool d)
  | .none => (by decide +kernel : kitB "NoneType" "int" = some false)
  | .bool _ => (by decide +kernel : kitB "bool" "int" = some true)
  | .int _ => (by decide +kernel : kitB "int" "int" = some true)
  | .str _ => (by decide +kernel : kitB "str" "int" = some false)
  | .list _ => (by decide +kernel : kitB "list" "int" = some false)
  | .tuple _ => (by decide +kernel : kitB "tuple" "int" = some false)
  | .dict _ => (by decide +kernel : kitB "dict" "int" = some false)
theorem kit_bool : ∀ d : PyData, kitB (tyD d) "bool" = some (boolD d)
  | .none => (by decide +kernel : kitB "NoneType" "bool" = some false)
  | .bool _ => (by decide +kernel : kitB "bool" "bool" = some true)
  | .int _ => (by decide +kernel : kitB "int" "bool" = some false)
  | .str _ => (by decide +kernel : kitB "str" "bool" = some false)
  | .list _ => (by decide +kernel : kitB "list" "bool" = some false)
  | .tuple _ => (by decide +kernel : kitB "tuple" "bool" = some false)
  | .dict _ => (by decide +kernel : kitB "dict" "bool" = some false)
theorem kit_tup : ∀ d : PyData, kitB (tyD d) "tuple" = some (tupD d)
  | .none => (by decide +kernel : kitB "NoneType" "tuple" = some false)
  | .bool _ => (by decide +kernel : kitB "bool" "tuple" = some false)
  | .int _ => (by decide +kernel : kitB "int" "tuple" = some false)
  | .str _ => (by decide +kernel : kitB "str" "tuple" = some false)
  | .list _ => (by decide +kernel : kitB "list" "tuple" = some false)
  | .tuple _ => (by decide +kernel : kitB "tuple" "tuple" = some true)
  | .dict _ => (by decide +kernel : kitB "dict" "tuple" = some false)
theorem isInt_eq (d : PyData) : (intOrBool d && !boolD d) = isIntD d := by cases d <;> rfl
def pre1 (ds : List PyData) : Prop := ∃ d, ds = [d]
def post1 (f : PyData → PyData) (ds : List PyData) (r : PyData) : Prop := ∃ d, ds = [d] ∧ r = f d
theorem pre1_len {ds : List PyData} (h : pre1 ds) : ds.length = 1 := by
  obtain ⟨d, rfl⟩ := h
  rfl
theorem DA.one {K : PySem.W.Frag} {H : Hp} {vs : List V} {d : PyData} (h : DA K H vs [d]) : ∃ v, vs = [v] ∧ D K H v d := by
  cases h with
  | cons h1 h2 =>
    cases h2
    exact ⟨_, rfl, h1⟩
theorem DA.two {K : PySem.W.Frag} {H : Hp} {vs : List V} {d e : PyData} (h : DA K H vs [d, e]) : ∃ v w, vs = [v, w] ∧ D K H v d ∧ D K H w e := by
  cases h with
  | cons h1 h2 =>
    obtain ⟨w, rfl, h3⟩ := DA.one h2
    exact ⟨_, w, rfl, h1, h3⟩
/-- two ints -/
def preI (c : Int → Int → Prop) (ds : List PyData) : Prop := ∃ x y : Int, ds = [.int x, .int y] ∧ c x y
def postI (g : Int → Int → PyData) (ds : List PyData) (r : PyData) : Prop := ∃ x y : Int, ds = [.int x, .int y] ∧ r = g x y
theorem preI_len {c : Int → Int → Prop} {ds : List PyData} (h : preI c ds) : ds.length = 2 := by
  obtain ⟨x, y, rfl, _⟩ := h
  rfl
section
variable {P : Program} {w : World} {K : PySem.W.Frag} {mg : Str → Option Value} {c : Cls} {base : Heap} {a : Addr} {G : Hp} {S : List Addr} {H : Hp}
/-! ### calls of such defs -/
theorem ev_call1 {σ : L2.St} {te : TE} {d : PyData} {fn : PyData → PyData} {E : XK} (h : Ev K a G te σ (· = d)) : Ev K a G (tCall (spG K pre1 (post1 fn)) [] E (tCons te tNil)) σ (· = fn d) := by
  refine ev_callG (ea_eq h ea_nil) ?_ ?_
  · rintro _ rfl
    exact ⟨d, rfl⟩
  · rintro _ r rfl ⟨d', e, rfl⟩
    injection e with e _
    rw [e]
theorem ev_callI {σ : L2.St} {ta tb : TE} {x y : Int} {c : Int → Int → Prop} {g : Int → Int → PyData} {E : XK} (ha : Ev K a G ta σ (· = .int x)) (hb : Ev K a G tb σ (· = .int y)) (hc : c x y) : Ev K a G (tCall (spG K (preI c) (postI g)) [] E (tCons ta (tCons tb tNil))) σ (· = g x y) := by
  refine ev_callG (ea_eq ha (ea_eq hb ea_nil)) ?_ ?_
  · rintro _ rfl
    exact ⟨x, y, rfl, hc⟩
  · rintro _ r rfl ⟨x', y', e, rfl⟩
    injection e with e1 e
    injection e with e2 _
    injection e1 with e1
    injection e2 with e2
    rw [e1, e2]
/-! ### is_integer, and its twin -/
theorem ev_isInteger {σ : L2.St} {te : TE} {d : PyData} (e0 : Ev K a G te σ (· = d)) :
    Ev K a G (tAndV (tCB (rIsi K) (tCons te (tCons (tC (.ty "int")) tNil))) (tNotV (tCB (rIsi K) (tCons te (tCons (tC (.ty "bool")) tNil))))) σ (· = .bool (isIntD d)) := by
  refine ev_andV (B := (· = intOrBool d)) (ev_isi e0 ?_) (fun h => ev_notV (C := (· = .bool (isIntD d))) (ev_isi e0 ?_)) ?_
  · rintro _ rfl
    exact ⟨_, kit_int _, rfl⟩
  · rintro _ rfl
    refine ⟨_, kit_bool _, ?_⟩
    rw [← isInt_eq, ← h, Bool.true_and]
  · intro h
    rw [← isInt_eq, ← h, Bool.false_and]
theorem ok_is_integer {f : Addr} {fd : FuncData} (F : Fun K "is_integer" "is_integer" s_is_integer f fd) (T : Txt K mg c) : FnG P w K mg base CX0 1 f fd ["value"] (spG K pre1 (post1 fun d => .bool (isIntD d))) := by
  refine fun_okG F sc_is_integer (fun vs H Q E h => spG_len (fun _ => pre1_len) h) (fun cdv A outer s H vs Q E hg hr h => ?_)
  obtain ⟨a, S, ds, f, m, ⟨d, rfl⟩, k⟩ := h
  obtain ⟨v, rfl, mv⟩ := DA.one m
  refine ⟨_, (pss_one (ps_ret (pe_and (pe_callB (kIsi (K := K)) (by rfl) T.b_isinstance (by decide +kernel) (pa_cons (pv 0) (pa_cons (pe_bltn (v := .ty "int") (by rfl) T.b_int (by decide +kernel) rfl) pa_nil))) (pe_one (pe_not (pe_callB (kIsi (K := K)) (by rfl) T.b_isinstance (by decide +kernel) (pa_cons (pv 0) (pa_cons (pe_bltn (v := .ty "bool") (by rfl) T.b_bool (by decide +kernel) rfl) pa_nil)))))))), ?_⟩
  refine q_ret (ev_isInteger (d := d) (ev_var rfl mv)) f (Same.refl _) ?_
  rintro v2 _ H' x m2 rfl
  exact k _ _ H' x m2 ⟨d, rfl, rfl⟩
/-! ### the greatest common divisor, twice -/
def gcdP (x y : Int) : PyData := .int (Int.gcd x y : Nat)
theorem rd_gcd {σ : Int → Int → L2.St} {i j : Nat} {H : Hp} {Dn : Ends} {x y : Int} (hi : ∀ f s, (σ f s)[i]? = some (some (.int f))) (hj : ∀ f s, (σ f s)[j]? = some (some (.int s))) (hs : ∀ f s f' s', ((σ f s).set i (some (.int f'))).set j (some (.int s')) = σ f' s')
    (h0 : 0 ≤ y) (q : ∀ f : Int, (f.natAbs : Nat) = Int.gcd x y → (0 ≤ x → 0 ≤ f) → Dn.nx (σ f 0) H) :
    tWhile (tTest (tOp (rNeA K) (tVar j) (tC (.int 0)))) (tPar i j (tCons (tVar j) (tCons (tOp (rI (fun _ j => 0 < j) fun i j => .int (i % j)) (tVar i) (tVar j)) tNil))) Dn (σ x y) H := by
  refine ⟨fun m σ' H' => ∃ f s : Int, σ' = σ f s ∧ H' = H ∧ 0 ≤ s ∧ m = s.natAbs ∧ Int.gcd f s = Int.gcd x y ∧ (0 ≤ x → 0 ≤ f), ⟨y.natAbs, x, y, rfl, rfl, h0, rfl, rfl, id⟩, ?_⟩
  rintro m _ H1 ⟨f, s, rfl, eH, hs0, rfl, hg, hx⟩
  subst eH
  refine ⟨.int s, hj f s, .inl ⟨rfl, _, rfl, ?_⟩⟩
  refine ite2 (fun e => ?_) (fun e => ?_)
  · have hne : s ≠ 0 := by
      intro z
      subst z
      cases e
    have hp : 0 < s := by omega
    refine ⟨fun σ' H' => ∃ f' s' : Int, σ' = σ f' s' ∧ H' = H1 ∧ 0 ≤ s' ∧ s'.natAbs < s.natAbs ∧ Int.gcd f' s' = Int.gcd x y ∧ (0 ≤ x → 0 ≤ f'), ?_, ?_⟩
    · rintro σ' H' ⟨f', s', rfl, rfl, h1, h2, h3, h4⟩
      exact ⟨_, h2, f', s', rfl, rfl, h1, rfl, h3, h4⟩
    · refine ⟨.int s, hj f s, .int f, hi f s, .int s, hj f s, f, s, rfl, rfl, hp, .int s, .int (f % s), rfl, ?_⟩
      refine ⟨s, f % s, hs _ _ _ _, rfl, Int.emod_nonneg _ hne, ?_, ?_, fun _ => hs0⟩
      · have h1 := Int.emod_nonneg f hne
        have h2 := Int.emod_lt_of_pos f hp
        omega
      · rw [gcd_step hp, hg]
  · have z : s = 0 := by
      by_cases z : s = 0
      · exact z
      · exact absurd (by simp [z]) e
    subst z
    refine q f ?_ hx
    rw [← hg, Int.gcd_zero]
theorem ok_common_divisor {f : Addr} {fd : FuncData} (F : Fun K "common_divisor" "common_divisor" s_common_divisor f fd) (T : Txt K mg c) : FnG P w K mg base CX0 1 f fd ["one", "other"] (spG K (preI fun _ _ => True) (postI gcdP)) := by
  refine fun_okG F sc_common_divisor (fun vs H Q E h => spG_len (fun _ => preI_len) h) (fun cdv A outer s H vs Q E hg hr h => ?_)
  obtain ⟨a, S, ds, f, m, ⟨x, y, rfl, _⟩, k⟩ := h
  obtain ⟨v1, v2, rfl, m1, m2⟩ := DA.two m
  cases m1
  cases m2
  refine ⟨_, (pss_cons (ps_par (i := 2) (j := 3) (by rfl) sc_common_divisor.nd rfl rfl (by decide) rfl rfl (pa_cons (pe_callB call_abs (by rfl) T.b_abs (by decide +kernel) (pa_cons (pv 0) pa_nil)) (pa_cons (pe_callB call_abs (by rfl) T.b_abs (by decide +kernel) (pa_cons (pv 1) pa_nil)) pa_nil)) (by rfl))
    (pss_cons (ps_while PassesOwn.never (pt_cmpR (kNe (K := K) hr.units) (pv 3) pe_int (nomark _))
    (pss_one (ps_par (i := 2) (j := 3) (by rfl) sc_common_divisor.nd rfl rfl (by decide) rfl rfl (pa_cons (pv 3) (pa_cons (pe_op op_mod (pv 2) (pv 3)) pa_nil)) (by rfl))))
    (pss_one (ps_ret (pv 2))))), ?_⟩
  refine q_par (K := K) (σ := [some (.int x), some (.int y), none, none]) (ev_abs (ev_var rfl (.int x))) (ev_abs (ev_var rfl (.int y))) f (Same.refl _) ?_
  rintro v w _ _ H1 x1 f1 mv mw rfl rfl
  cases mv
  cases mw
  refine rd_gcd (σ := fun f s => [some (.int x), some (.int y), some (.int f), some (.int s)]) (fun _ _ => rfl) (fun _ _ => rfl) (fun _ _ _ _ => rfl) (Int.natCast_nonneg _) ?_
  intro g e h0
  have h0' := h0 (Int.natCast_nonneg _)
  have e2 : g = (Int.gcd x y : Nat) := by
    have e3 : Int.gcd (x.natAbs : Int) (y.natAbs : Int) = Int.gcd x y := by simp [Int.gcd_eq_natAbs_gcd_natAbs]
    rw [e3] at e
    omega
  subst e2
  exact ⟨_, rfl, k _ _ H1 x1 (.int _) ⟨x, y, rfl, rfl⟩⟩
theorem ok_l_common {f : Addr} {fd : FuncData} (F : Fun K "_law_common" "_law_common" s_l_common f fd) (T : Txt K mg c) : FnG P w K mg base CX0 1 f fd ["_law_a", "_law_b"] (spG K (preI fun _ y => 0 ≤ y) (postI gcdP)) := by
  refine fun_okG F sc_l_common (fun vs H Q E h => spG_len (fun _ => preI_len) h) (fun cdv A outer s H vs Q E hg hr h => ?_)
  obtain ⟨a, S, ds, f, m, ⟨x, y, rfl, hy⟩, k⟩ := h
  obtain ⟨v1, v2, rfl, m1, m2⟩ := DA.two m
  cases m1
  cases m2
  refine ⟨_, (pss_cons (ps_while PassesOwn.never (pt_cmpR (kNe (K := K) hr.units) (pv 1) pe_int (nomark _))
    (pss_one (ps_par (i := 0) (j := 1) (by rfl) sc_l_common.nd rfl rfl (by decide) rfl rfl (pa_cons (pv 1) (pa_cons (pe_op op_mod (pv 0) (pv 1)) pa_nil)) (by rfl))))
    (pss_one (ps_ret (pe_callB call_abs (by rfl) T.b_abs (by decide +kernel) (pa_cons (pv 0) pa_nil))))), ?_⟩
  refine rd_gcd (σ := fun f s => [some (.int f), some (.int s)]) (fun _ _ => rfl) (fun _ _ => rfl) (fun _ _ _ _ => rfl) hy ?_
  intro g e _
  refine q_ret (K := K) (σ := [some (.int g), some (.int 0)]) (ev_abs (ev_var rfl (.int g))) f (Same.refl _) ?_
  rintro v _ H1 x1 mv rfl
  refine k _ _ H1 x1 mv ⟨x, y, rfl, ?_⟩
  rw [e]
  rfl
abbrev DfI (P : Program) (w : World) (K : PySem.W.Frag) (mg : Str → Option Value) (base : Heap) (k : Nat) (x : Str) (ps : List Str) (c : Int → Int → Prop) (g : Int → Int → PyData) : Prop := Df P w K mg base CX0 k x ps (spG K (preI c) (postI g))
abbrev Df1 (P : Program) (w : World) (K : PySem.W.Frag) (mg : Str → Option Value) (base : Heap) (k : Nat) (x p : Str) (fn : PyData → PyData) : Prop := Df P w K mg base CX0 k x [p] (spG K pre1 (post1 fn))
/-! ### is_number -/
def isRatD : PyData → Bool
  | .int _ => true
  | .tuple [.int x, .int y] => decide (2 ≤ y) && decide (Int.gcd x y = 1)
  | _ => false
theorem isRat_tup {x y : PyData} (h : ¬ ((isIntD x && isIntD y) = true)) : isRatD (.tuple [x, y]) = false := by
  cases x <;> first | rfl | skip
  cases y <;> first | rfl | skip
  exact absurd rfl h
theorem isRat_len {ds : List PyData} (h : ds.length ≠ 2) : isRatD (.tuple ds) = false := by
  match ds, h with
  | [], _ => rfl
  | [x], _ =>
    cases x <;> rfl
  | [_, _], h => exact absurd rfl h
  | x :: y :: _ :: _, _ =>
    cases x <;> first | rfl | skip
    cases y <;> rfl
end
end K14
--NEVER law _law_right _law_parsed _law_refused
set_option Elab.async false
set_option linter.all false
set_option maxRecDepth 100000
set_option maxHeartbeats 4000000
namespace K14
open PySem PySem.Spec L2 LK
open PyProof.Rows hiding St
section
variable {P : Program} {w : World} {K : PySem.W.Frag} {mg : Str → Option Value} {c : Cls} {base : Heap} {a : Addr} {G : Hp} {S : List Addr} {H : Hp}
abbrev FIs (P : Program) (w : World) (K : PySem.W.Frag) (mg : Str → Option Value) (base : Heap) : Prop := Df1 P w K mg base 1 "is_integer" "value" fun d => .bool (isIntD d)
abbrev FCd (P : Program) (w : World) (K : PySem.W.Frag) (mg : Str → Option Value) (base : Heap) : Prop := DfI P w K mg base 1 "common_divisor" ["one", "other"] (fun _ _ => True) gcdP
abbrev FCm (P : Program) (w : World) (K : PySem.W.Frag) (mg : Str → Option Value) (base : Heap) : Prop := DfI P w K mg base 1 "_law_common" ["_law_a", "_law_b"] (fun _ y => 0 ≤ y) gcdP
theorem not_true {b : Bool} (h : b = false) : (!b) = true := by rw [h]; rfl
theorem not_false {b : Bool} (h : b = true) : (!b) = false := by rw [h]; rfl
/-! ### is_number -/
theorem ok_is_number {f : Addr} {fd : FuncData} (F : Fun K "is_number" "is_number" s_is_number f fd) (T : Txt K mg c) (F_is_integer : FIs P w K mg base) (F_common_divisor : FCd P w K mg base) :
    FnG P w K mg base CX0 2 f fd ["value"] (spG K (fun ds => ∃ d, ds = [d] ∧ Tame d) (post1 fun d => .bool (isRatD d))) := by
  refine fun_okG F sc_is_number (fun vs H Q E h => spG_len (n := 1) (fun ds ⟨d, e, _⟩ => by rw [e]; rfl) h) (fun cdv A outer s H vs Q E hg hr h => ?_)
  obtain ⟨a, S, ds, f, m, ⟨d, rfl, tm⟩, k⟩ := h
  obtain ⟨v, rfl, mv⟩ := DA.one m
  refine ⟨_, (pss_cons (ps_if (pt_val (pe_fn F_is_integer hg (hr.mono (by decide)) (by rfl) pass0 (pa_cons (pv 0) pa_nil)))
    (pss_one (ps_ret pe_bl))
    pss_nil)
    (pss_cons (ps_if (PW.pt (pw_or (pt_not (pt_val (pe_callB (kIsi (K := K)) (by rfl) T.b_isinstance (by decide +kernel) (pa_cons (pv 0) (pa_cons (pe_bltn (v := .ty "tuple") (by rfl) T.b_tuple (by decide +kernel) rfl) pa_nil))))) (pw_or (pt_cmpR (kNe (K := K) hr.units) (pe_callB (kLen (K := K)) (by rfl) T.b_len (by decide +kernel) (pa_cons (pv 0) pa_nil)) pe_int (nomark _)) (pw_or (pt_not (pt_val (pe_fn F_is_integer hg (hr.mono (by decide)) (by rfl) pass0 (pa_cons (pe_ix (kIx (K := K)) (pv 0) pe_int (fun _ _ => rfl)) pa_nil)))) (pw_or1 (pt_not (pt_val (pe_fn F_is_integer hg (hr.mono (by decide)) (by rfl) pass0 (pa_cons (pe_ix (kIx (K := K)) (pv 0) pe_int (fun _ _ => rfl)) pa_nil)))))))))
    (pss_one (ps_ret pe_bl))
    pss_nil)
    (pss_one (ps_ret (pe_and (pe_cmpR op_ge (pe_ix (kIx (K := K)) (pv 0) pe_int (fun _ _ => rfl)) pe_int (nomark _)) (pe_one (pe_cmpR (kEq (K := K) hr.units) (pe_fn F_common_divisor hg (hr.mono (by decide)) (by rfl) pass0 (pa_cons (pe_ix (kIx (K := K)) (pv 0) pe_int (fun _ _ => rfl)) (pa_cons (pe_ix (kIx (K := K)) (pv 0) pe_int (fun _ _ => rfl)) pa_nil))) pe_int (nomark _)))))))), ?_⟩
  have fin : ∀ {b : Bool} {H' : Hp}, Ext a H H' → b = isRatD d → Q (.bl b) H' := fun {b H'} x e => by
    subst e
    exact k _ _ H' x (.bl _) ⟨d, rfl, rfl⟩
  refine q_if (σ := [some v]) (B := (· = isIntD d)) (et_val (Ev.imp (ev_call1 (ev_var rfl mv)) ?_)) f (Same.refl _) (fun H1 x1 f1 e1 => ?_) (fun H1 x1 f1 e1 => ?_)
  · rintro _ rfl
    exact ⟨_, rfl, rfl⟩
  · refine fin x1 ?_
    cases d <;> first | rfl | cases e1
  have mv1 := mv.mono (x1.off f.mem)
  by_cases ht : ∃ es, d = .tuple es
  · obtain ⟨es, rfl⟩ := ht
    have hlen : es.length ≤ 8000 := by
      have h1 := tm.bk
      simp only [PyData.bulk] at h1
      have h2 : ∀ l : List PyData, l.length ≤ PyData.bulkAll l := by
        intro l
        induction l with
        | nil => simp
        | cons z l ih =>
          simp only [PyData.bulkAll, List.length_cons]
          omega
      exact Nat.le_trans (h2 es) h1
    by_cases hl : es.length = 2
    · match es, hl with
      | [x, y], hl2 =>
        have e0 : ∀ σ : L2.St, σ[0]? = some (some v) → Ev K a (off S H1) (tVar 0) σ (· = .tuple [x, y]) := fun σ h => ev_var h mv1
        have ex : Ev K a (off S H1) (tOp (rIx K) (tVar 0) (tC (.int 0))) [some v] (· = x) := ev_at (i := 0) (ds := [x, y]) ((e0 _ rfl).imp fun _ h => .inr h) ev_i rfl
        have ey : Ev K a (off S H1) (tOp (rIx K) (tVar 0) (tC (.int 1))) [some v] (· = y) := ev_at (i := 1) (ds := [x, y]) ((e0 _ rfl).imp fun _ h => .inr h) ev_i rfl
        refine q_if (σ := [some v]) (B := (· = !(isIntD x && isIntD y))) (et_or (B1 := (· = false)) (et_not (B1 := (· = true)) (et_val (ev_isi (e0 _ rfl) ?_)) ?_) (fun _ => et_or (B1 := (· = false)) (et_test (ev_neI (cI := (· = 2)) (cJ := (· = 2)) (ev_len (e0 _ rfl) ?_) (ev_isI ev_i rfl) ?_)) (fun _ =>
          et_or (B1 := (· = !isIntD x)) (et_not (B1 := (· = isIntD x)) (et_val (Ev.imp (ev_call1 ex) ?_)) ?_) (fun hx => et_not (B1 := (· = isIntD y)) (et_val (Ev.imp (ev_call1 ey) ?_)) ?_) ?_) ?_) ?_) f1 (Same.refl _) (fun H2 x2 f2 e2 => ?_) (fun H2 x2 f2 e2 => ?_)
        · rintro _ rfl
          exact ⟨_, kit_tup _, rfl⟩
        · rintro _ rfl
          rfl
        · rintro _ rfl
          exact ⟨2, rfl, by decide, rfl⟩
        · rintro _ _ rfl rfl
          rfl
        · rintro _ rfl
          exact ⟨_, rfl, rfl⟩
        · rintro _ rfl
          rfl
        · rintro _ rfl
          exact ⟨_, rfl, rfl⟩
        · rintro _ rfl
          have hx' : isIntD x = true := by
            cases h : isIntD x
            · rw [h] at hx
              cases hx
            · rfl
          rw [hx', Bool.true_and]
        · intro hx
          have hx' : isIntD x = false := by
            cases h : isIntD x
            · rfl
            · rw [h] at hx
              cases hx
          rw [hx']
          rfl
        · intro h
          cases h
        · intro h
          cases h
        · refine fin (x1.trans x2) ?_
          refine (isRat_tup fun h => ?_).symm
          rw [h] at e2
          cases e2
        · have hxy : (isIntD x && isIntD y) = true := by
            cases h : (isIntD x && isIntD y)
            · rw [h] at e2
              cases e2
            · rfl
          rw [Bool.and_eq_true] at hxy
          obtain ⟨hx, hy⟩ := hxy
          cases x <;> first | cases hx | skip
          cases y <;> first | cases hy | skip
          rename_i x y
          have ex2 := ex.at (x2.off f1.mem)
          have ey2 := ey.at (x2.off f1.mem)
          refine q_ret (K := K) (σ := [some v]) (C := (· = .bool (isRatD (.tuple [.int x, .int y])))) (ev_andV (B := (· = decide (2 ≤ y))) (ev_cmpI (g := fun i j => decide (j ≤ i)) (cI := (· = y)) (cJ := (· = 2)) (ev_isI ey2 rfl) (ev_isI ev_i rfl) ?_)
            (fun h => Ev.imp (ev_eqI (cB := (· = decide (Int.gcd x y = 1))) (cI := (· = (Int.gcd x y : Nat))) (cJ := (· = 1)) (Ev.imp (ev_callI (g := gcdP) ex2 ey2 True.intro) ?_) (ev_isI ev_i rfl) ?_) ?_) ?_) f2 (Same.refl _) ?_
          · rintro _ _ rfl rfl
            rfl
          · rintro _ rfl
            exact ⟨_, rfl, rfl⟩
          · rintro _ _ rfl rfl
            show decide ((Int.gcd x y : Int) = 1) = _
            congr 1
            apply propext
            omega
          · rintro _ ⟨b, rfl, rfl⟩
            show PyData.bool _ = PyData.bool (decide (2 ≤ y) && decide (Int.gcd x y = 1))
            rw [← h, Bool.true_and]
          · intro h
            show PyData.bool _ = PyData.bool (decide (2 ≤ y) && decide (Int.gcd x y = 1))
            rw [← h, Bool.false_and]
          · rintro v2 _ H3 x3 m3 rfl
            cases m3
            exact fin ((x1.trans x2).trans x3) rfl
    · refine q_if (σ := [some v]) (B := (· = true)) (et_or (B1 := (· = false)) (et_not (B1 := (· = true)) (et_val (ev_isi (ev_var rfl mv1) ?_)) ?_) (fun _ => et_or (B1 := (· = true)) (et_test (ev_neI (cI := (· = (es.length : Nat))) (cJ := (· = 2)) (ev_len (ev_var rfl mv1) ?_) (ev_isI ev_i rfl) ?_)) ?_ ?_) ?_) f1 (Same.refl _) (fun H2 x2 f2 e2 => ?_) (fun H2 x2 f2 e2 => ?_)
      · rintro _ rfl
        exact ⟨_, kit_tup _, rfl⟩
      · rintro _ rfl
        rfl
      · rintro _ rfl
        exact ⟨es.length, rfl, by omega, rfl⟩
      · rintro _ _ rfl rfl
        have : ¬ ((es.length : Int) = 2) := by omega
        rw [decide_eq_false this]
        rfl
      · intro h
        cases h
      · intro _
        rfl
      · intro h
        cases h
      · exact fin (x1.trans x2) (isRat_len hl).symm
      · cases e2
  · have hn : tupD d = false := by
      cases d <;> first | rfl | exact absurd ⟨_, rfl⟩ ht
    refine q_if (σ := [some v]) (B := (· = true)) (et_or (B1 := (· = true)) (et_not (B1 := (· = false)) (et_val (ev_isi (ev_var rfl mv1) ?_)) ?_) ?_ fun _ => rfl) f1 (Same.refl _) (fun H2 x2 f2 e2 => ?_) (fun H2 x2 f2 e2 => ?_)
    · rintro _ rfl
      exact ⟨_, kit_tup _, hn⟩
    · rintro _ rfl
      rfl
    · intro h
      cases h
    · refine fin (x1.trans x2) ?_
      cases d <;> first | rfl | (exact absurd ⟨_, rfl⟩ ht) | cases e1
    · cases e2
end
end K14
--NEVER law _law_right _law_parsed _law_refused
set_option Elab.async false
set_option linter.all false
set_option maxRecDepth 100000
set_option maxHeartbeats 4000000
namespace K14
open PySem PySem.Spec L2 LK
open PyProof.Rows hiding St
open TL (tl numL)
open NumText (digitsVal AllDigits)
/-! ### decimal texts, by their signs -/
def allDig (l : List Nat) : Bool := l.all fun c => decide (48 ≤ c) && decide (c ≤ 57)
theorem allDig_iff {l : List Nat} : allDig l = true ↔ AllDigits l := by
  unfold allDig AllDigits
  simp
def canon (l : List Nat) : Bool := (l == [48]) || !(l.head? == some 48)
def decB (l : List Nat) : Bool := (!(l == []) && allDig l) && canon l
theorem val_app (l : List Nat) (c : Nat) : digitsVal (l ++ [c]) = digitsVal l * 10 + (c - 48) := by
  unfold digitsVal
  rw [List.foldl_append]
  rfl
theorem val_lt : ∀ (n : Nat) (l : List Nat), l.length = n → AllDigits l → digitsVal l < 10 ^ n
  | 0, l, h, _ => by
    rw [List.length_eq_zero_iff.mp h]
    decide
  | n + 1, l, h, d => by
    rcases List.eq_nil_or_concat l with e | ⟨L, c, e⟩
    · rw [e] at h
      cases h
    · rw [List.concat_eq_append] at e
      subst e
      have hl : L.length = n := by simpa using h
      have i := val_lt n L hl fun x m => d x (List.mem_append_left _ m)
      have hc := d c (List.mem_append_right _ (List.mem_singleton.mpr rfl))
      rw [val_app, Nat.pow_succ]
      omega
theorem dec_num : ∀ (n : Nat) (l : List Nat), l.length = n → AllDigits l → l ≠ [] → canon l = true → numL (digitsVal l) = l ∧ (l ≠ [48] → 0 < digitsVal l)
  | 0, l, h, _, hn, _ => absurd (List.length_eq_zero_iff.mp h) hn
  | n + 1, l, h, d, hn, hc => by
    rcases List.eq_nil_or_concat l with e | ⟨L, c, e⟩
    · exact absurd e hn
    · rw [List.concat_eq_append] at e
      subst e
      have hl : L.length = n := by simpa using h
      have dc := d c (List.mem_append_right _ (List.mem_singleton.mpr rfl))
      have dL : AllDigits L := fun x m => d x (List.mem_append_left _ m)
      by_cases e : L = []
      · subst e
        have v : digitsVal ([] ++ [c]) = c - 48 := by
          rw [val_app]
          show 0 * 10 + (c - 48) = c - 48
          omega
        rw [v]
        refine ⟨?_, fun z => ?_⟩
        · rw [TL.numL_lt (by omega)]
          show [48 + (c - 48)] = [c]
          congr 1
          omega
        · have : c ≠ 48 := fun y => z (by rw [y]; rfl)
          omega
      · have hh : L.head? ≠ some 48 := by
          intro z
          have z2 : (L ++ [c]).head? = some 48 := by
            rw [List.head?_append, z]
            rfl
          unfold canon at hc
          rw [z2] at hc
          have z3 : (L ++ [c] == [48]) = false := by
            apply Bool.eq_false_iff.mpr
            intro y
            have y2 := congrArg List.length (beq_iff_eq.mp y)
            have : 0 < L.length := List.length_pos_iff.mpr e
            simp only [List.length_append, List.length_cons, List.length_nil] at y2
            omega
          rw [z3] at hc
          cases hc
        have cL : canon L = true := by
          unfold canon
          rw [Bool.or_eq_true]
          right
          simpa using hh
        have ne48 : L ≠ [48] := fun z => hh (by rw [z]; rfl)
        obtain ⟨i1, i2⟩ := dec_num n L hl dL e cL
        have pos := i2 ne48
        have v := val_app L c
        have big : 10 ≤ digitsVal (L ++ [c]) := by
          rw [v]
          omega
        refine ⟨?_, fun _ => by omega⟩
        rw [TL.numL_step big, v]
        have q1 : (digitsVal L * 10 + (c - 48)) / 10 = digitsVal L := by omega
        have q2 : (digitsVal L * 10 + (c - 48)) % 10 = c - 48 := by omega
        rw [q1, q2, i1]
        congr 2
        omega
theorem num_head : ∀ n : Nat, 0 < n → (numL n).head? ≠ some 48 := by
  intro n
  induction n using Nat.strongRecOn with
  | _ n ih =>
    intro h0
    by_cases h : n < 10
    · rw [TL.numL_lt h]
      intro z
      injection z with z
      omega
    · rw [TL.numL_step (by omega), List.head?_append]
      have i := ih (n / 10) (by omega) (by omega)
      cases e : (numL (n / 10)).head? with
      | none =>
        have := List.head?_eq_none_iff.mp e
        exact absurd this (TL.numL_ne _)
      | some x =>
        rw [e] at i
        exact i
theorem num_dec (n : Nat) : decB (numL n) = true := by
  unfold decB
  rw [Bool.and_eq_true, Bool.and_eq_true]
  refine ⟨⟨?_, allDig_iff.mpr (TL.numL_digits n)⟩, ?_⟩
  · have := TL.numL_ne n
    simpa using this
  · unfold canon
    by_cases h : n = 0
    · subst h
      rw [TL.numL_lt (by decide)]
      rfl
    · have := num_head n (by omega)
      rw [Bool.or_eq_true]
      right
      simpa using this
theorem dec_of {l : List Nat} (h : decB l = true) : AllDigits l ∧ l ≠ [] ∧ canon l = true := by
  unfold decB at h
  rw [Bool.and_eq_true, Bool.and_eq_true] at h
  exact ⟨allDig_iff.mp h.1.2, by simpa using h.1.1, h.2⟩
/-! ### signed -/
def restL (l : List Nat) : List Nat := if l.take 1 = [45] then l.drop 1 else l
def toI (l : List Nat) : Int := if l.take 1 = [45] then -((digitsVal (l.drop 1) : Nat) : Int) else (digitsVal l : Nat)
def parseL (l : List Nat) : Option Int := if (decB (restL l) && !(l == [45, 48])) = true then some (toI l) else none
def textL (i : Int) : List Nat := if i < 0 then 45 :: numL i.natAbs else numL i.natAbs
theorem text_tl (i : Int) : tl (Str.ofString (toString i)) = textL i := by
  unfold textL
  by_cases h : i < 0
  · rw [if_pos h]
    obtain ⟨n, rfl⟩ : ∃ n : Nat, i = Int.negSucc n := by
      cases i with
      | ofNat n => exact absurd h (by simp)
      | negSucc n => exact ⟨n, rfl⟩
    have e : toString (Int.negSucc n) = "-" ++ toString ((n + 1 : Nat) : Int) := rfl
    rw [e, TL.tl_ofString, String.toList_append, List.map_append]
    have e2 := TL.tl_num (n + 1)
    rw [TL.tl_ofString] at e2
    rw [e2]
    rfl
  · rw [if_neg h]
    have e : i = ((i.natAbs : Nat) : Int) := by omega
    rw [e, TL.tl_num]
    congr 1
theorem num_no_minus (n : Nat) : (numL n).take 1 ≠ [45] := by
  intro h
  have := TL.numL_ne n
  cases e : numL n with
  | nil => exact this e
  | cons c r =>
    rw [e] at h
    have hc : c = 45 := by simpa using h
    have d := TL.numL_digits n c (by rw [e]; exact List.mem_cons_self)
    omega
theorem parse_text (i : Int) : parseL (textL i) = some i := by
  unfold textL parseL restL toI
  by_cases h : i < 0
  · rw [if_pos h]
    have t1 : (45 :: numL i.natAbs).take 1 = [45] := rfl
    have t2 : (45 :: numL i.natAbs).drop 1 = numL i.natAbs := rfl
    rw [if_pos t1, if_pos t1, t2, num_dec, TL.numL_val]
    have t3 : (45 :: numL i.natAbs == [45, 48]) = false := by
      apply Bool.eq_false_iff.mpr
      intro z
      have z2 := beq_iff_eq.mp z
      injection z2 with _ z2
      have := num_head i.natAbs (by omega)
      rw [z2] at this
      exact this rfl
    rw [t3]
    simp
    omega
  · rw [if_neg h, if_neg (num_no_minus _), if_neg (num_no_minus _), num_dec, TL.numL_val]
    have t3 : (numL i.natAbs == [45, 48]) = false := by
      apply Bool.eq_false_iff.mpr
      intro z
      have z2 := beq_iff_eq.mp z
      exact num_no_minus i.natAbs (by rw [z2]; rfl)
    rw [t3]
    simp
    omega
theorem text_parse {l : List Nat} {i : Int} (h : parseL l = some i) : textL i = l := by
  unfold parseL at h
  split at h
  · rename_i hd
    injection h with h
    subst h
    rw [Bool.and_eq_true] at hd
    obtain ⟨h1, h2⟩ := hd
    obtain ⟨a, b, c⟩ := dec_of h1
    obtain ⟨e, p⟩ := dec_num _ _ rfl a b c
    unfold toI
    by_cases m : l.take 1 = [45]
    · have r : restL l = l.drop 1 := if_pos m
      rw [r] at e p
      rw [if_pos m]
      have l2 : l = 45 :: l.drop 1 := by
        have := List.take_append_drop 1 l
        rw [m] at this
        exact this.symm
      have pos : 0 < digitsVal (l.drop 1) := p fun z => by
        rw [z] at l2
        rw [l2] at h2
        exact absurd h2 (by decide)
      unfold textL
      rw [if_pos (by omega)]
      have : (-((digitsVal (l.drop 1) : Nat) : Int)).natAbs = digitsVal (l.drop 1) := by omega
      rw [this, e]
      exact l2.symm
    · have r : restL l = l := if_neg m
      rw [r] at e
      rw [if_neg m]
      unfold textL
      rw [if_neg (by omega), Int.natAbs_natCast, e]
  · cases h
theorem toI_lt {l : List Nat} {i : Int} {n : Nat} (h : parseL l = some i) (hl : l.length ≤ n) : i.natAbs < 10 ^ n := by
  unfold parseL at h
  split at h
  · rename_i hd
    injection h with h
    subst h
    rw [Bool.and_eq_true] at hd
    obtain ⟨a, _, _⟩ := dec_of hd.1
    have v := val_lt _ _ rfl a
    have rl : (restL l).length ≤ n := by
      unfold restL
      split
      · rw [List.length_drop]
        omega
      · exact hl
    have v2 : digitsVal (restL l) < 10 ^ n := Nat.lt_of_lt_of_le v (Nat.pow_le_pow_right (by decide) rl)
    unfold toI
    unfold restL at v2
    split
    · rename_i m
      rw [if_pos m] at v2
      omega
    · rename_i m
      rw [if_neg m] at v2
      omega
  · cases h
/-- int(x) of such a text -/
theorem int_parse {x : Str} {i : Int} (h : parseL (tl x) = some i) (hl : x.length ≤ 4300) : intText? x = some i := by
  unfold parseL at h
  split at h
  · rename_i hd
    injection h with h
    subst h
    rw [Bool.and_eq_true] at hd
    obtain ⟨a, b, _⟩ := dec_of hd.1
    unfold toI
    unfold restL at a b
    split
    · rename_i m
      rw [if_pos m] at a b
      have l2 : tl x = 45 :: (tl x).drop 1 := by
        have := List.take_append_drop 1 (tl x)
        rw [m] at this
        exact this.symm
      exact PySem.intText_neg l2 a b hl
    · rename_i m
      rw [if_neg m] at a b
      exact PySem.intText_digits a b hl
  · cases h
theorem int_dec {x : Str} (h : decB (tl x) = true) (hl : x.length ≤ 4300) : intText? x = some ((digitsVal (tl x) : Nat) : Int) := by
  obtain ⟨a, b, _⟩ := dec_of h
  exact PySem.intText_digits a b hl
/-! ### whole texts -/
theorem spl_back : ∀ (l acc : List Nat), TL.joinL [47] (TL.spl [47] 0 acc l) = acc ++ l
  | [], acc => by
    rw [TL.spl_nil, List.append_nil]
    rfl
  | c :: r, acc => by
    by_cases h : c = 47
    · subst h
      rw [TL.spl_hit (by rfl)]
      have i := spl_back r []
      rw [List.nil_append] at i
      have ne : TL.spl [47] ([47].length - 1) [] r ≠ [] := fun z => by
        have z2 : TL.spl [47] 0 [] r = [] := z
        cases r with
        | nil =>
          rw [TL.spl_nil] at z2
          cases z2
        | cons y r =>
          unfold TL.spl at z2
          split at z2
          · cases z2
          · have : ∀ (l acc : List Nat), TL.spl [47] 0 acc l ≠ [] := by
              intro l
              induction l with
              | nil =>
                intro acc w
                rw [TL.spl_nil] at w
                cases w
              | cons y l ih =>
                intro acc w
                unfold TL.spl at w
                split at w
                · cases w
                · exact ih _ w
            exact this _ _ z2
      have e : TL.spl [47] ([47].length - 1) [] r = TL.spl [47] 0 [] r := rfl
      cases hq : TL.spl [47] ([47].length - 1) [] r with
      | nil => exact absurd hq ne
      | cons q t =>
        show acc ++ ([47] ++ TL.joinL [47] (q :: t)) = _
        rw [← hq, e, i]
        rfl
    · rw [TL.spl_miss (by
        unfold TL.pre
        simp
        exact h)]
      rw [spl_back r (acc ++ [c]), List.append_assoc]
      rfl
abbrev slash : Str := "/"
theorem tl_slash : tl slash = [47] := by decide +kernel
theorem split_spl (x : Str) : (Txt.split x slash).map tl = TL.spl [47] 0 [] (tl x) := by
  rw [TL.split_spl x slash (by rw [tl_slash]; simp) (TL.kind_ok (by decide +kernel)), tl_slash]
theorem split_one {x a : Str} (h : Txt.split x slash = [a]) : tl x = tl a := by
  have e := split_spl x
  rw [h] at e
  have b := spl_back (tl x) []
  rw [← e] at b
  exact b.symm
theorem split_two {x a b : Str} (h : Txt.split x slash = [a, b]) : tl x = tl a ++ ([47] ++ tl b) := by
  have e := split_spl x
  rw [h] at e
  have b := spl_back (tl x) []
  rw [← e] at b
  exact b.symm
theorem split_ne (x : Str) : Txt.split x slash ≠ [] := by
  intro h
  have e := split_spl x
  rw [h] at e
  have b := spl_back (tl x) []
  rw [← e] at b
  have e2 : tl x = [] := b.symm
  rw [e2, TL.spl_nil] at e
  cases e
def writtenD : PyData → Str
  | .int i => Str.ofString (toString i)
  | .tuple [.int t, .int l] => Str.ofString (toString t) ++ slash ++ Str.ofString (toString l)
  | _ => ""
def parseW : List Str → Option PyData
  | [a] => (parseL (tl a)).map .int
  | [a, b] => (parseL (tl a)).bind fun t => if (decB (tl b) && isRatD (.tuple [.int t, .int ((digitsVal (tl b) : Nat) : Int)])) = true then some (.tuple [.int t, .int ((digitsVal (tl b) : Nat) : Int)]) else none
  | _ => none
def parseN (x : Str) : Option PyData := parseW (Txt.split x slash)
theorem no_slash (i : Int) : (47 : Nat) ∉ textL i := by
  unfold textL
  split
  · intro m
    rcases List.mem_cons.mp m with e | m
    · cases e
    · exact TL.numL_free (.inl (by decide)) m
  · exact fun m => TL.numL_free (.inl (by decide)) m
theorem text_nat {n : Int} (h : 0 ≤ n) : textL n = numL n.natAbs := by
  unfold textL
  rw [if_neg (by omega)]
theorem parse_written {d : PyData} (h : isRatD d = true) : parseN (writtenD d) = some d := by
  unfold parseN
  match d, h with
  | .int i, _ =>
    have e : Txt.split (writtenD (.int i)) slash = [Str.ofString (toString i)] := by
      apply TL.map_tl_inj
      rw [split_spl]
      show TL.spl [47] 0 [] (tl (Str.ofString (toString i))) = [tl (Str.ofString (toString i))]
      rw [text_tl, TL.spl_last1 (no_slash i)]
      rfl
    rw [e]
    show (parseL (tl (Str.ofString (toString i)))).map PyData.int = _
    rw [text_tl, parse_text]
    rfl
  | .tuple [.int t, .int l], h =>
    have h' : (decide (2 ≤ l) && decide (Int.gcd t l = 1)) = true := h
    have l2 : 2 ≤ l := by
      rw [Bool.and_eq_true] at h'
      exact of_decide_eq_true h'.1
    have e : Txt.split (writtenD (.tuple [.int t, .int l])) slash = [Str.ofString (toString t), Str.ofString (toString l)] := by
      apply TL.map_tl_inj
      rw [split_spl]
      show TL.spl [47] 0 [] (tl (Str.ofString (toString t) ++ slash ++ Str.ofString (toString l))) = [tl (Str.ofString (toString t)), tl (Str.ofString (toString l))]
      rw [TL.tl_append, TL.tl_append, text_tl, text_tl, tl_slash, List.append_assoc, TL.spl_part1 (no_slash t), TL.spl_last1 (no_slash l)]
      rfl
    rw [e]
    show (parseL (tl (Str.ofString (toString t)))).bind _ = _
    rw [text_tl, parse_text]
    show (if (decB (tl (Str.ofString (toString l))) && isRatD (.tuple [.int t, .int ((digitsVal (tl (Str.ofString (toString l))) : Nat) : Int)])) = true then some (PyData.tuple [.int t, .int ((digitsVal (tl (Str.ofString (toString l))) : Nat) : Int)]) else none) = _
    have e2 : ((digitsVal (numL l.natAbs) : Nat) : Int) = l := by
      rw [TL.numL_val]
      omega
    rw [text_tl, text_nat (by omega), num_dec, e2, h]
    rfl
theorem written_parse {x : Str} {d : PyData} (h : parseN x = some d) : writtenD d = x ∧ isRatD d = true := by
  unfold parseN at h
  match hs : Txt.split x slash, h with
  | [a], h =>
    have h' : (parseL (tl a)).map PyData.int = some d := h
    obtain ⟨i, h1, rfl⟩ := Option.map_eq_some_iff.mp h'
    refine ⟨?_, rfl⟩
    apply TL.ext_tl
    show tl (Str.ofString (toString i)) = tl x
    rw [text_tl, text_parse h1, split_one hs]
  | [a, b], h =>
    have h' : (parseL (tl a)).bind _ = some d := h
    obtain ⟨t, h1, h2⟩ := Option.bind_eq_some_iff.mp h'
    split at h2
    · rename_i hc
      injection h2 with h2
      subst h2
      rw [Bool.and_eq_true] at hc
      refine ⟨?_, hc.2⟩
      apply TL.ext_tl
      show tl (Str.ofString (toString t) ++ slash ++ Str.ofString (toString (((digitsVal (tl b) : Nat) : Int)))) = tl x
      obtain ⟨a1, b1, c1⟩ := dec_of hc.1
      have e := (dec_num _ _ rfl a1 b1 c1).1
      rw [TL.tl_append, TL.tl_append, text_tl, text_tl, tl_slash, text_parse h1, text_nat (by omega), Int.natAbs_natCast, e, List.append_assoc, split_two hs]
    · cases h2
  | _ :: _ :: _ :: _, h => cases h
end K14
--NEVER law _law_right _law_parsed _law_refused
set_option Elab.async false
set_option linter.all false
set_option maxRecDepth 100000
set_option maxHeartbeats 4000000
namespace K14
open PySem PySem.Spec L2 LK
open PyProof.Rows hiding St
open TL (tl numL)
open NumText (digitsVal AllDigits)
abbrev digs : Str := "0123456789"
theorem dig_in (c : Nat) : decide (c ∈ tl digs) = (decide (48 ≤ c) && decide (c ≤ 57)) := by
  have e : tl digs = [48, 49, 50, 51, 52, 53, 54, 55, 56, 57] := by decide +kernel
  rw [e, Bool.eq_iff_iff]
  simp
  omega
theorem all_digs (x : Str) : ((tl x).all fun c => decide (c ∈ tl digs)) = allDig (tl x) := by
  unfold allDig
  congr 1
  funext c
  exact dig_in c
theorem str_eq {x y : Str} : decide (x = y) = (tl x == tl y) := by
  rw [Bool.eq_iff_iff, decide_eq_true_eq, beq_iff_eq]
  exact ⟨fun h => by rw [h], TL.ext_tl⟩
/-- ints of a value, not too great -/
def intsB (n : Nat) : PyData → Prop
  | .int i => i.natAbs < 2 ^ n
  | .tuple [.int i, .int j] => i.natAbs < 2 ^ n ∧ j.natAbs < 2 ^ n
  | _ => True
section
variable {P : Program} {w : World} {K : PySem.W.Frag} {mg : Str → Option Value} {c : Cls} {base : Heap} {a : Addr} {G : Hp} {S : List Addr} {H : Hp}
/-! ### is_decimal, parse_integer -/
def preS (ds : List PyData) : Prop := ∃ x : Str, ds = [.str x] ∧ x.length ≤ 600
theorem preS_len {ds : List PyData} (h : preS ds) : ds.length = 1 := by
  obtain ⟨x, rfl, _⟩ := h
  rfl
def decD : PyData → PyData
  | .str x => .bool (decB (tl x))
  | _ => .none
def pintD : PyData → PyData
  | .str x => match parseL (tl x) with
    | some i => .int i
    | none => .none
  | _ => .none
theorem ev_callS {σ : L2.St} {te : TE} {x : Str} {fn : PyData → PyData} {E : XK} (h : Ev K a G te σ (· = .str x)) (hl : x.length ≤ 600) : Ev K a G (tCall (spG K preS (post1 fn)) [] E (tCons te tNil)) σ (· = fn (.str x)) := by
  refine ev_callG (ea_eq h ea_nil) ?_ ?_
  · rintro _ rfl
    exact ⟨x, rfl, hl⟩
  · rintro _ r rfl ⟨d', e, rfl⟩
    injection e with e _
    rw [e]
theorem ok_is_decimal {f : Addr} {fd : FuncData} (F : Fun K "is_decimal" "is_decimal" s_is_decimal f fd) (T : Txt K mg c) : FnG P w K mg base CX0 1 f fd ["word"] (spG K preS (post1 decD)) := by
  refine fun_okG F sc_is_decimal (fun vs H Q E h => spG_len (fun _ => preS_len) h) (fun cdv A outer s H vs Q E hg hr h => ?_)
  obtain ⟨a, S, ds, f, m, ⟨x, rfl, hx⟩, k⟩ := h
  obtain ⟨v, rfl, mv⟩ := DA.one m
  cases mv
  refine ⟨_, (pss_cons (ps_if (PW.pt (pw_or (pt_cmpR (kEq (K := K) hr.units) (pv 0) pe_str (nomark _)) (pw_or1 (pt_not (pt_val (pe_callB (kAll (K := K) rfl) (by rfl) T.b_all (by decide +kernel) (pa_cons (pe_lc (own := [("sign", 1)]) rfl sc_is_decimal.nd (pi_str (pv 0)) (blkOk_by (N := ["word", "sign"]) (sc := defScope s_is_decimal) (by decide +kernel)) (fun _ _ _ _ _ => (pg_name (i := 1) sc_is_decimal.nd rfl (by first | exact Or.inl rfl | exact Or.inr rfl))) (fun _ _ _ _ _ => pts_nil) (fun _ _ _ _ _ => (pe_cmpR (kIn (K := K)) (pv 1) (pe_gS rfl T.g_DIGITS) (by rfl)))) pa_nil)))))))
    (pss_one (ps_ret pe_bl))
    pss_nil)
    (pss_one (ps_ret (pe_or (pe_cmpR (kEq (K := K) hr.units) (pv 0) pe_str (nomark _)) (pe_one (pe_cmpR (kNe (K := K) hr.units) (pe_ix (kIx (K := K)) (pv 0) pe_int (fun _ _ => rfl)) pe_str (nomark _))))))), ?_⟩
  have fin : ∀ {b : Bool} {H' : Hp}, Ext a H H' → b = decB (tl x) → Q (.bl b) H' := fun {b H'} y e => by
    subst e
    exact k _ _ H' y (.bl _) ⟨_, rfl, rfl⟩
  refine q_if (σ := [some (.str x), none]) (B := (· = !(!(tl x == []) && allDig (tl x)))) (et_or (B1 := (· = (tl x == []))) (et_test (Ev.imp (ev_eqS (K := K) (ev_var rfl (.str x)) ev_s) ?_)) (fun h => et_not (B1 := (· = allDig (tl x))) (et_val (Ev.imp (ev_allIn (K := K) (z := digs) (ev_var rfl (.str x)) (fun v => ev_s) (by omega) (fun _ => rfl) (fun _ => rfl)) ?_)) ?_) ?_) f (Same.refl _) (fun H1 x1 f1 e1 => ?_) (fun H1 x1 f1 e1 => ?_)
  · rintro _ rfl
    refine ⟨_, rfl, ?_⟩
    rw [str_eq]
    rfl
  · rintro _ rfl
    exact ⟨_, rfl, all_digs x⟩
  · rintro _ rfl
    rw [← h]
    rfl
  · intro h
    rw [← h]
    rfl
  · refine fin x1 ?_
    unfold decB
    cases h : (!(tl x == []) && allDig (tl x))
    · rfl
    · rw [h] at e1
      cases e1
  · have hd : (!(tl x == []) && allDig (tl x)) = true := by
      cases h : (!(tl x == []) && allDig (tl x))
      · rw [h] at e1
        cases e1
      · rfl
    have hne : tl x ≠ [] := by
      rw [Bool.and_eq_true] at hd
      simpa using hd.1
    obtain ⟨hc, hr', he⟩ : ∃ hc hr', tl x = hc :: hr' := by
      cases h : tl x with
      | nil => exact absurd h hne
      | cons y r => exact ⟨y, r, rfl⟩
    refine q_ret (K := K) (σ := [some (.str x), none]) (C := (· = .bool (decB (tl x)))) (ev_orV (B := (· = (tl x == [48]))) (Ev.imp (ev_eqS (ev_var rfl (.str x)) ev_s) ?_) (fun h => Ev.imp (ev_neS (x := ⟨#[hc]⟩) (ev_ixS (cI := (· = 0)) (ev_var rfl (.str x)) (ev_isI ev_i rfl) (by omega) ?_) ev_s) ?_) ?_) f1 (Same.refl _) ?_
    · rintro _ rfl
      refine ⟨_, rfl, ?_⟩
      rw [str_eq]
      rfl
    · rintro _ rfl
      refine ⟨hc, ?_, rfl⟩
      show atI (tl x) 0 = some hc
      rw [he]
      exact atI_nat (j := 0) rfl
    · rintro _ rfl
      unfold decB canon
      rw [hd, Bool.true_and, ← h, Bool.false_or, str_eq, he]
      congr 1
      rw [Bool.eq_iff_iff]
      have e48 : tl ("0" : Str) = [48] := by decide +kernel
      rw [e48]
      show (!([hc] == [48])) = true ↔ (!((hc :: hr').head? == some 48)) = true
      simp
    · intro h
      unfold decB canon
      rw [hd, ← h]
      rfl
    · rintro v _ H2 x2 mv rfl
      cases mv
      exact fin (x1.trans x2) rfl
abbrev FDc (P : Program) (w : World) (K : PySem.W.Frag) (mg : Str → Option Value) (base : Heap) : Prop := Df P w K mg base CX0 1 "is_decimal" ["word"] (spG K preS (post1 decD))
theorem dash : ∀ x : Str, decide (x = ("-" : Str)) = (tl x == [45]) := fun x => by
  rw [str_eq]
  have e : tl ("-" : Str) = [45] := by decide +kernel
  rw [e]
theorem rest_tl (x : Str) : ∃ y : Str, (if (tl x).take 1 = [45] then y = cutS x (some 1) none else y = x) ∧ tl y = restL (tl x) ∧ y.length ≤ x.length := by
  by_cases h : (tl x).take 1 = [45]
  · refine ⟨cutS x (some 1) none, by rw [if_pos h], ?_, cutS_length _ _ _⟩
    unfold restL
    rw [if_pos h, tl_cutF1]
  · refine ⟨x, by rw [if_neg h], ?_, Nat.le_refl _⟩
    unfold restL
    rw [if_neg h]
/-- word[1:] if word[:1] == '-' else word -/
theorem ev_rest {σ : L2.St} {x y : Str} {i : Nat} (hi : σ[i]? = some (some (.str x))) (hx : x.length ≤ 600) (hy : if (tl x).take 1 = [45] then y = cutS x (some 1) none else y = x) :
    Ev K a G (tIf (tTest (tOp (rEqA K) (tSl rSlS (tVar i) tNoPart (tPart (tC (.int 1)))) (tC (.str "-")))) (tSl rSlS (tVar i) (tPart (tC (.int 1))) tNoPart) (tVar i)) σ (· = .str y) := by
  refine ev_if (B := (· = ((tl x).take 1 == [45]))) (et_test (Ev.imp (ev_eqS (ev_slT (C := (· = .str (cutS x none (some 1)))) (cI := (· = 1)) (ev_var hi (.str x)) (ev_isI ev_i rfl) (by omega) ?_) ev_s) ?_)) (fun h => ev_slF (cI := (· = 1)) (ev_var hi (.str x)) (ev_isI ev_i rfl) (by omega) ?_) (fun h => Ev.imp (ev_var hi (.str x)) ?_)
  · rintro _ rfl
    rfl
  · rintro _ rfl
    refine ⟨_, rfl, ?_⟩
    rw [dash, tl_cutT1]
  · rintro _ rfl
    rw [if_pos (beq_iff_eq.mp h.symm)] at hy
    rw [hy]
  · rintro _ rfl
    rw [if_neg (by simpa using h.symm)] at hy
    rw [hy]
theorem ok_parse_integer {f : Addr} {fd : FuncData} (F : Fun K "parse_integer" "parse_integer" s_parse_integer f fd) (T : Txt K mg c) (F_is_decimal : FDc P w K mg base) : FnG P w K mg base CX0 2 f fd ["word"] (spG K preS (post1 pintD)) := by
  refine fun_okG F sc_parse_integer (fun vs H Q E h => spG_len (fun _ => preS_len) h) (fun cdv A outer s H vs Q E hg hr h => ?_)
  obtain ⟨a, S, ds, f, m, ⟨x, rfl, hx⟩, k⟩ := h
  obtain ⟨v, rfl, mv⟩ := DA.one m
  cases mv
  refine ⟨_, (pss_cons (ps_set (i := 1) sc_parse_integer.nd rfl (by first | exact Or.inl rfl | exact Or.inr rfl) (pe_ifExp (pt_cmpR (kEq (K := K) hr.units) (pe_slice sl_str (pv 0) po_none (po_some pe_int)) pe_str (nomark _)) (pe_slice sl_str (pv 0) (po_some pe_int) po_none) (pv 0)))
    (pss_cons (ps_if (PW.pt (pw_or (pt_not (pt_val (pe_fn F_is_decimal hg (hr.mono (by decide)) (by rfl) pass0 (pa_cons (pv 1) pa_nil)))) (pw_or1 (pt_cmpR (kEq (K := K) hr.units) (pv 0) pe_str (nomark _)))))
    (pss_one (ps_ret pe_non))
    pss_nil)
    (pss_one (ps_ret (pe_callTy call_int_str (by rfl) T.b_int (by decide +kernel) (pa_cons (pv 0) pa_nil)))))), ?_⟩
  obtain ⟨y, hy, ey, hyl⟩ := rest_tl x
  refine q_set (K := K) (σ := [some (.str x), none]) (ev_rest rfl hx hy) f (Same.refl _) ?_
  rintro _ _ H1 x1 f1 m1 rfl
  cases m1
  have fin : ∀ {v : V} {d : PyData} {H' : Hp}, Ext a H H' → D K (off S H') v d → d = pintD (.str x) → Q v H' := fun {v d H'} z mv e => k _ _ H' z mv ⟨_, rfl, e⟩
  refine q_if (σ := [some (.str x), some (.str y)]) (B := (· = !(decB (restL (tl x)) && !(tl x == [45, 48])))) (et_or (B1 := (· = !decB (restL (tl x)))) (et_not (B1 := (· = decB (restL (tl x)))) (et_val (Ev.imp (ev_callS (K := K) (fn := decD) (ev_var rfl (.str y)) (by omega)) ?_)) ?_) (fun h => et_test (Ev.imp (ev_eqS (K := K) (ev_var rfl (.str x)) ev_s) ?_)) ?_) f1 (Same.refl _) (fun H2 x2 f2 e2 => ?_) (fun H2 x2 f2 e2 => ?_)
  · rintro _ rfl
    refine ⟨_, rfl, ?_⟩
    show decB (tl y) = _
    rw [ey]
  · rintro _ rfl
    rfl
  · rintro _ rfl
    refine ⟨_, rfl, ?_⟩
    have hb : decB (restL (tl x)) = true := by
      cases h' : decB (restL (tl x))
      · rw [h'] at h
        cases h
      · rfl
    have e : tl ("-0" : Str) = [45, 48] := by decide +kernel
    rw [str_eq, e, hb, Bool.true_and, Bool.not_not]
  · intro h
    have hb : decB (restL (tl x)) = false := by
      cases h' : decB (restL (tl x))
      · rfl
      · rw [h'] at h
        cases h
    rw [hb]
    rfl
  · refine q_ret (K := K) (σ := [some (.str x), some (.str y)]) ev_n f2 (Same.refl _) ?_
    rintro v _ H3 x3 mv rfl
    refine fin ((x1.trans x2).trans x3) mv ?_
    have hb : (decB (restL (tl x)) && !(tl x == [45, 48])) = false := by
      cases h' : (decB (restL (tl x)) && !(tl x == [45, 48]))
      · rfl
      · rw [h'] at e2
        cases e2
    have e : parseL (tl x) = none := by
      unfold parseL
      rw [hb]
      rfl
    simp only [pintD, e]
  · have hb : (decB (restL (tl x)) && !(tl x == [45, 48])) = true := by
      cases h' : (decB (restL (tl x)) && !(tl x == [45, 48]))
      · rw [h'] at e2
        cases e2
      · rfl
    have e : parseL (tl x) = some (toI (tl x)) := by
      unfold parseL
      rw [hb]
      rfl
    refine q_ret (K := K) (σ := [some (.str x), some (.str y)]) (ev_intS (ev_var rfl (.str x)) (int_parse e (by omega)) (by omega)) f2 (Same.refl _) ?_
    rintro v _ H3 x3 mv rfl
    refine fin ((x1.trans x2).trans x3) mv ?_
    simp only [pintD, e]
abbrev FPi (P : Program) (w : World) (K : PySem.W.Frag) (mg : Str → Option Value) (base : Heap) : Prop := Df P w K mg base CX0 2 "parse_integer" ["word"] (spG K preS (post1 pintD))
end
end K14
--NEVER law _law_right _law_parsed _law_refused
set_option Elab.async false
set_option linter.all false
set_option maxRecDepth 100000
set_option maxHeartbeats 4000000
set_option exponentiation.threshold 2000
namespace K14
open PySem PySem.Spec L2 LK
open PyProof.Rows hiding St
open TL (tl numL)
open NumText (digitsVal AllDigits)
/-! ### bounds -/
theorem pow_big : (10 : Nat) ^ 200 < 2 ^ 700 := by decide +kernel
theorem pow_big2 : (2 : Nat) ^ 1000 < 10 ^ 302 := by decide +kernel
theorem text_len {i : Int} (h : i.natAbs < 2 ^ 1000) : (Str.ofString (toString i)).length ≤ 303 := by
  rw [TL.len_tl, text_tl]
  have l := TL.numL_len (n := i.natAbs) (k := 302) (by decide) (Nat.lt_trans h pow_big2)
  unfold textL
  split
  · simp only [List.length_cons]
    omega
  · omega
theorem ints_up {n m : Nat} {d : PyData} (h : intsB n d) (hm : n ≤ m) : intsB m d := by
  have p : (2 : Nat) ^ n ≤ 2 ^ m := Nat.pow_le_pow_right (by decide) hm
  unfold intsB at h ⊢
  split at h
  · exact Nat.lt_of_lt_of_le h p
  · exact ⟨Nat.lt_of_lt_of_le h.1 p, Nat.lt_of_lt_of_le h.2 p⟩
  · trivial
theorem rat_cases {d : PyData} (h : isRatD d = true) : (∃ i, d = .int i) ∨ ∃ i j, d = .tuple [.int i, .int j] ∧ 2 ≤ j := by
  match d, h with
  | .int i, _ => exact .inl ⟨i, rfl⟩
  | .tuple [.int i, .int j], h =>
    refine .inr ⟨i, j, rfl, ?_⟩
    have h' : (decide (2 ≤ j) && decide (Int.gcd i j = 1)) = true := h
    rw [Bool.and_eq_true] at h'
    exact of_decide_eq_true h'.1
theorem sz_ints {d : PyData} (h : intsB 1000 d) (hr : isRatD d = true) : Sz 2 1 d := by
  match d, hr with
  | .int i, _ => exact Sz.up (n := 0) (k := 0) (sz_int h) (by decide) (by decide)
  | .tuple [.int i, .int j], _ =>
    have h' : i.natAbs < 2 ^ 1000 ∧ j.natAbs < 2 ^ 1000 := h
    refine Sz.up (n := 2 * 1) (k := 1) (Sz.tup (n := 0) (k := 0) (ds := [.int i, .int j]) fun z m => ?_) (by decide) (by decide)
    simp only [List.mem_cons, List.not_mem_nil, or_false] at m
    rcases m with rfl | rfl
    · exact sz_int h'.1
    · exact sz_int h'.2
theorem join_head (a : List Nat) (r : List (List Nat)) : a.length ≤ (TL.joinL [47] (a :: r)).length := by
  cases r with
  | nil => exact Nat.le_refl _
  | cons b r =>
    show a.length ≤ (a ++ ([47] ++ TL.joinL [47] (b :: r))).length
    rw [List.length_append]
    omega
theorem split_head {x a : Str} {r : List Str} (h : Txt.split x slash = a :: r) : a.length ≤ x.length := by
  have e := split_spl x
  rw [h] at e
  have b := spl_back (tl x) []
  rw [← e] at b
  have l := join_head (tl a) (r.map tl)
  rw [show TL.joinL [47] (tl a :: r.map tl) = tl x from b] at l
  rw [TL.len_tl, TL.len_tl]
  exact l
theorem split_snd {x a b : Str} (h : Txt.split x slash = [a, b]) : b.length ≤ x.length := by
  have e := split_two h
  rw [TL.len_tl, TL.len_tl, e, List.length_append, List.length_append]
  omega
theorem val_small {l : List Nat} (d : AllDigits l) (h : l.length ≤ 200) : digitsVal l < 2 ^ 700 :=
  Nat.lt_trans (Nat.lt_of_lt_of_le (val_lt _ _ rfl d) (Nat.pow_le_pow_right (by decide) h)) pow_big
theorem parse_small {l : List Nat} {i : Int} (h : parseL l = some i) (hl : l.length ≤ 200) : i.natAbs < 2 ^ 700 := Nat.lt_trans (toI_lt h hl) pow_big
theorem parse_bound {x : Str} {d : PyData} (h : parseN x = some d) (hl : x.length ≤ 200) : intsB 700 d := by
  unfold parseN at h
  match hs : Txt.split x slash, h with
  | [a], h =>
    have h' : (parseL (tl a)).map PyData.int = some d := h
    obtain ⟨i, h1, rfl⟩ := Option.map_eq_some_iff.mp h'
    have := split_head hs
    exact parse_small h1 (by rw [← TL.len_tl]; omega)
  | [a, b], h =>
    have h' : (parseL (tl a)).bind _ = some d := h
    obtain ⟨t, h1, h2⟩ := Option.bind_eq_some_iff.mp h'
    split at h2
    · rename_i hc
      injection h2 with h2
      subst h2
      rw [Bool.and_eq_true] at hc
      have la := split_head hs
      have lb := split_snd hs
      have v := val_small (dec_of hc.1).1 (by rw [← TL.len_tl]; omega)
      exact ⟨parse_small h1 (by rw [← TL.len_tl]; omega), by simpa using v⟩
    · cases h2
  | _ :: _ :: _ :: _, h => cases h
def strD : PyData → Bool
  | .str _ => true
  | _ => false
theorem kit_str : ∀ d : PyData, kitB (tyD d) "str" = some (strD d)
  | .none => (by decide +kernel : kitB "NoneType" "str" = some false)
  | .bool _ => (by decide +kernel : kitB "bool" "str" = some false)
  | .int _ => (by decide +kernel : kitB "int" "str" = some false)
  | .str _ => (by decide +kernel : kitB "str" "str" = some true)
  | .list _ => (by decide +kernel : kitB "list" "str" = some false)
  | .tuple _ => (by decide +kernel : kitB "tuple" "str" = some false)
  | .dict _ => (by decide +kernel : kitB "dict" "str" = some false)
theorem str_of {d : PyData} (h : strD d = true) : ∃ x, d = .str x := by
  cases d <;> first | exact ⟨_, rfl⟩ | cases h
section
variable {P : Program} {w : World} {K : PySem.W.Frag} {mg : Str → Option Value} {c : Cls} {base : Heap} {a : Addr} {G : Hp} {S : List Addr} {H : Hp}
abbrev preT (ds : List PyData) : Prop := ∃ d, ds = [d] ∧ Tame d
abbrev FIN (P : Program) (w : World) (K : PySem.W.Frag) (mg : Str → Option Value) (base : Heap) : Prop := Df P w K mg base CX0 2 "is_number" ["value"] (spG K preT (post1 fun d => .bool (isRatD d)))
theorem ev_callT {σ : L2.St} {te : TE} {d : PyData} {fn : PyData → PyData} {E : XK} (h : Ev K a G te σ (· = d)) (t : Tame d) : Ev K a G (tCall (spG K preT (post1 fn)) [] E (tCons te tNil)) σ (· = fn d) := by
  refine ev_callG (ea_eq h ea_nil) ?_ ?_
  · rintro _ rfl
    exact ⟨d, rfl, t⟩
  · rintro _ r rfl ⟨d', e, rfl⟩
    injection e with e _
    rw [e]
/-! ### check_numbers([value]), top_and_low -/
def preC (ds : List PyData) : Prop := ∃ d, ds = [.list [d]] ∧ Tame d
def postC (ds : List PyData) (r : PyData) : Prop := ∃ d, ds = [.list [d]] ∧ isRatD d = true
def rpC (ds : List PyData) (r : PyData) : Prop := ∃ d, ds = [.list [d]] ∧ isRatD d = false ∧ r = d
abbrev spC (K : PySem.W.Frag) (c : Cls) : Sp := spX K c.InvalidNumber "value" preC postC rpC
theorem ok_check_numbers {f : Addr} {fd : FuncData} (F : Fun K "check_numbers" "check_numbers" s_check_numbers f fd) (T : Txt K mg c) (F_is_number : FIN P w K mg base) :
    FnG P w K mg base (L2.CX P w) 3 f fd ["values"] (spC K c) := by
  refine fun_okXG F sc_check_numbers (fun vs H Q E h => spX_len (n := 1) (fun ds ⟨d, e, _⟩ => by rw [e]; rfl) h) (fun cdv A outer s H vs Q E hg hr h => ?_)
  have R_InvalidNumber : XR P w K mg base "InvalidNumber" c.InvalidNumber "value" := ok_InvalidNumber___init__ T
  obtain ⟨a, S, ds, f, m, ⟨d, rfl, tm⟩, kQ, kE⟩ := h
  obtain ⟨v, rfl, mv⟩ := DA.one m
  cases mv with
  | @lst p xs _ hp mx =>
    obtain ⟨x, rfl, mx1⟩ := DA.one mx
    refine ⟨_, (pss_one (ps_for (passes_of rfl) rfl (pi_list (pv 0)) (pg_name (i := 1) sc_check_numbers.nd rfl (by first | exact Or.inl rfl | exact Or.inr rfl))
    (pss_one (ps_if (pt_not (pt_val (pe_fn F_is_number hg (hr.mono (by decide)) (by rfl) pass0 (pa_cons (pv 1) pa_nil))))
    (pss_one (ps_rse (by rfl) (takes_of rfl rfl rfl rfl) R_InvalidNumber (hr.mono (by decide)) (by rfl) (pv 1)))
    pss_nil)))), ?_⟩
    have hpH : H p = some (.lst [x]) := off_le _ _ hp
    have hpS : p ∉ S := (off_some hp).1
    refine ⟨.ref p, rfl, p, rfl, ⟨_, SqL.of hpH⟩, for_list (K := K) (a := p) (xs := [x]) (fun i σ H' => (∃ y, σ = [some (.ref p), y]) ∧ Ext a H H' ∧ LK.Fr a S H' ∧ (0 < i → isRatD d = true)) ⟨⟨_, rfl⟩, Ext.refl, f, fun h => absurd h (Nat.lt_irrefl 0)⟩ ?_ ?_ ?_⟩
    · rintro i σ H1 _ ⟨_, x1, _, _⟩
      exact SqL.of (x1.keep p _ (fun e => hpS (e ▸ f.mem)) hpH)
    · rintro i y σ H1 hi ⟨⟨y0, rfl⟩, x1, f1, _⟩
      have hi0 : i = 0 ∧ x = y := by
        cases i with
        | zero => exact ⟨rfl, by simpa using hi⟩
        | succ i => simp at hi
      obtain ⟨rfl, rfl⟩ := hi0
      have mx' := mx1.mono (x1.off f.mem)
      refine q_if (σ := [some (.ref p), some x]) (B := (· = !isRatD d)) (et_not (B1 := (· = isRatD d)) (et_val (Ev.imp (ev_callT (K := K) (fn := fun d => .bool (isRatD d)) (ev_var rfl mx') tm) ?_)) ?_) f1 (Same.refl _) (fun H2 x2 f2 e2 => ?_) (fun H2 x2 f2 e2 => ?_)
      · rintro _ rfl
        exact ⟨_, rfl, rfl⟩
      · rintro _ rfl
        rfl
      · have e : isRatD d = false := by
          cases h : isRatD d
          · rfl
          · rw [h] at e2
            cases e2
        refine q_rse (K := K) (ev_var rfl (mx'.mono (x2.off f.mem))) f2 (Same.refl _) ?_
        rintro v z dd H3 x3 f3 mv hz hd hS
        exact kE v z dd H3 ((x1.trans x2).trans x3) mv ⟨d, rfl, e, hz⟩ hd hS
      · have e : isRatD d = true := by
          cases h : isRatD d
          · rw [h] at e2
            cases e2
          · rfl
        exact ⟨⟨_, rfl⟩, x1.trans x2, f2, fun _ => e⟩
    · rintro σ H1 ⟨⟨y, rfl⟩, x1, f1, h⟩
      exact kQ _ .none H1 x1 .non ⟨d, rfl, h (Nat.lt_succ_self 0)⟩
def topLow : PyData → PyData
  | .tuple es => .tuple es
  | d => .tuple [d, .int 1]
theorem ok_top_and_low {f : Addr} {fd : FuncData} (F : Fun K "top_and_low" "top_and_low" s_top_and_low f fd) (T : Txt K mg c) : FnG P w K mg base CX0 1 f fd ["value"] (spG K pre1 (post1 topLow)) := by
  refine fun_okG F sc_top_and_low (fun vs H Q E h => spG_len (fun _ => pre1_len) h) (fun cdv A outer s H vs Q E hg hr h => ?_)
  obtain ⟨a, S, ds, f, m, ⟨d, rfl⟩, k⟩ := h
  obtain ⟨v, rfl, mv⟩ := DA.one m
  refine ⟨_, (pss_one (ps_ret (pe_ifExp (pt_val (pe_callB (kIsi (K := K)) (by rfl) T.b_isinstance (by decide +kernel) (pa_cons (pv 0) (pa_cons (pe_bltn (v := .ty "tuple") (by rfl) T.b_tuple (by decide +kernel) rfl) pa_nil)))) (pv 0) (pe_tup (pa_cons (pv 0) (pa_cons pe_int pa_nil)))))), ?_⟩
  refine q_ret (K := K) (σ := [some v]) (C := (· = topLow d)) (ev_if (B := (· = tupD d)) (et_val (ev_isi (ev_var rfl mv) ?_)) (fun h => Ev.imp (ev_var rfl mv) ?_) (fun h => Ev.imp (ev_tupE (ea_eq (ev_var rfl mv) (ea_eq ev_i ea_nil)) (by show 2 ≤ 1000; decide)) ?_)) f (Same.refl _) ?_
  · rintro _ rfl
    exact ⟨_, kit_tup _, rfl⟩
  · intro z hz
    rw [hz]
    cases d <;> first | rfl | (simp [tupD] at h; done)
  · intro z hz
    rw [hz]
    cases d <;> first | rfl | (simp [tupD] at h; done)
  · rintro v2 _ H' x m2 rfl
    exact k _ _ H' x m2 ⟨d, rfl, rfl⟩
abbrev FCk (P : Program) (w : World) (K : PySem.W.Frag) (mg : Str → Option Value) (base : Heap) (c : Cls) : Prop := DfX P w K mg base (L2.CX P w) 3 "check_numbers" ["values"] [] (spC K c)
abbrev FTl (P : Program) (w : World) (K : PySem.W.Frag) (mg : Str → Option Value) (base : Heap) : Prop := Df1 P w K mg base 1 "top_and_low" "value" topLow
/-! ### number_text -/
def preNT (ds : List PyData) : Prop := ∃ d, ds = [d] ∧ Tame d ∧ intsB 1000 d
def postNT (ds : List PyData) (r : PyData) : Prop := ∃ d, ds = [d] ∧ isRatD d = true ∧ r = .str (writtenD d)
def rpNT (ds : List PyData) (r : PyData) : Prop := ∃ d, ds = [d] ∧ isRatD d = false ∧ r = d
abbrev spNT (K : PySem.W.Frag) (c : Cls) : Sp := spX K c.InvalidNumber "value" preNT postNT rpNT
theorem up_big {i : Int} (h : i.natAbs < 2 ^ 1000) : i.natAbs < 2 ^ 1900 := Nat.lt_of_lt_of_le h (Nat.pow_le_pow_right (by decide) (by decide))
theorem ok_number_text {f : Addr} {fd : FuncData} (F : Fun K "number_text" "number_text" s_number_text f fd) (T : Txt K mg c) (F_check_numbers : FCk P w K mg base c) (F_top_and_low : FTl P w K mg base) :
    FnG P w K mg base (L2.CX P w) 4 f fd ["value"] (spNT K c) := by
  refine fun_okXG F sc_number_text (fun vs H Q E h => spX_len (n := 1) (fun ds ⟨d, e, _⟩ => by rw [e]; rfl) h) (fun cdv A outer s H vs Q E hg hr h => ?_)
  obtain ⟨a, S, ds, f, m, ⟨d, rfl, tm, bd⟩, kQ, kE⟩ := h
  obtain ⟨v, rfl, mv⟩ := DA.one m
  refine ⟨_, (pss_cons (ps_expr (pe_fnX F_check_numbers hg (hr.mono (by decide)) (by rfl) (fun σ => passAt (takes_of rfl rfl rfl rfl) σ) (pa_cons (pe_lst (pa_cons (pv 0) pa_nil)) pa_nil)))
    (pss_cons (ps_asg (pe_fn F_top_and_low hg (hr.mono (by decide)) (by rfl) pass0 (pa_cons (pv 0) pa_nil)) (pg_tup (by rfl) (pgs_cons (pg_name (i := 1) sc_number_text.nd rfl (by first | exact Or.inl rfl | exact Or.inr rfl)) (pgs_cons (pg_name (i := 2) sc_number_text.nd rfl (by first | exact Or.inl rfl | exact Or.inr rfl)) pgs_nil))))
    (pss_one (ps_ret (pe_ifExp (pt_cmpR (kEq (K := K) hr.units) (pv 2) pe_int (nomark _)) (pe_callTy call_str_int (by rfl) T.b_str (by decide +kernel) (pa_cons (pv 1) pa_nil)) (pe_joined (.cons (pe_fmt (pv 1)) (.cons pe_str (.cons (pe_fmt (pv 2)) .nil))))))))), ?_⟩
  refine q_dropX (K := K) (dds := []) (A1 := (· = [.list [d]])) (σ := [some v, none, none]) (ea_eq (ev_lstE (ea_eq (ev_var rfl mv) ea_nil) (by show 1 ≤ 1000; decide)) ea_nil) f (Same.refl _) (fun _ => .nil) ?_ ?_ ?_
  · rintro _ rfl
    exact ⟨d, rfl, tm⟩
  · rintro _ _ _ H2 rfl x2 f2 _ ⟨d', e, hr⟩
    injection e with e _
    injection e with e
    injection e with e _
    subst e
    have x12 := x2
    have mv2 := mv.mono (x12.off f.mem)
    have fin : ∀ {v : V} {r : PyData} {H' : Hp}, Ext a H H' → D K (off S H') v r → r = .str (writtenD d) → Q v H' := fun {v r H'} x m e => kQ v r H' x m ⟨d, rfl, hr, e⟩
    rcases rat_cases hr with ⟨i, rfl⟩ | ⟨i, j, rfl, j2⟩
    · have bi : i.natAbs < 2 ^ 1000 := bd
      refine q_unpack (K := K) (d := .int i) (e := .int 1) (σ := [some v, none, none]) (Ev.imp (ev_call1 (fn := topLow) (ev_var rfl mv2)) ?_) f2 (Same.refl _) ?_
      · rintro _ rfl
        rfl
      · rintro v3 v4 H3 x3 f3 m3 m4
        cases m3
        cases m4
        dsimp only
        refine q_ret (K := K) (σ := [some v, some (.int i), some (.int 1)]) (C := (· = .str (Str.ofString (toString i)))) (ev_if (B := (· = true)) (et_test (ev_eqI (K := K) (cI := (· = 1)) (cJ := (· = 1)) (ev_isI (ev_var rfl (.int 1)) rfl) (ev_isI ev_i rfl) ?_)) (fun _ => ev_strI (K := K) (te := tVar 1) (i := i) (ev_var rfl (.int i)) (up_big bi)) (fun h => absurd h (by decide))) f3 (Same.refl _) ?_
        · rintro _ _ rfl rfl
          rfl
        · rintro v5 _ H4 x4 m5 rfl
          exact fin ((x12.trans x3).trans x4) m5 rfl
    · have bi : i.natAbs < 2 ^ 1000 ∧ j.natAbs < 2 ^ 1000 := bd
      refine q_unpack (K := K) (d := .int i) (e := .int j) (σ := [some v, none, none]) (Ev.imp (ev_call1 (fn := topLow) (ev_var rfl mv2)) ?_) f2 (Same.refl _) ?_
      · rintro _ rfl
        rfl
      · rintro v3 v4 H3 x3 f3 m3 m4
        cases m3
        cases m4
        dsimp only
        have l1 := text_len bi.1
        have l2 := text_len bi.2
        refine q_ret (K := K) (σ := [some v, some (.int i), some (.int j)]) (C := (· = .str (Str.ofString (toString i) ++ slash ++ Str.ofString (toString j)))) (ev_if (B := (· = false)) (et_test (ev_eqI (K := K) (cI := (· = j)) (cJ := (· = 1)) (ev_isI (ev_var rfl (.int j)) rfl) (ev_isI ev_i rfl) ?_)) (fun h => absurd h (by decide)) (fun _ => ev_fmt2 (z := slash) (ev_var rfl (.int i)) (ev_var rfl (.int j)) (up_big bi.1) (up_big bi.2) (by omega) (by omega) (by decide +kernel))) f3 (Same.refl _) ?_
        · rintro _ _ rfl rfl
          exact decide_eq_false (by omega)
        · rintro v5 _ H4 x4 m5 rfl
          exact fin ((x12.trans x3).trans x4) m5 rfl
  · rintro _ v2 r dd H2 rfl x2 _ m2 ⟨d', e, hr, rfl⟩ hd hS
    injection e with e _
    injection e with e
    injection e with e _
    subst e
    exact kE v2 _ dd H2 x2 m2 ⟨_, rfl, hr, rfl⟩ hd hS
end
end K14
--NEVER law _law_right _law_parsed _law_refused
set_option Elab.async false
set_option linter.all false
set_option maxRecDepth 100000
set_option maxHeartbeats 4000000
set_option exponentiation.threshold 2000
namespace K14
open PySem PySem.Spec L2 LK
open PyProof.Rows hiding St
open TL (tl numL)
open NumText (digitsVal AllDigits)
def resN : PyData → PyData ⊕ Int
  | .str x => match parseN x with
    | some r => .inl r
    | none => .inr 1
  | _ => .inr 0
theorem res_no {d : PyData} (h : strD d = false) : resN d = .inr 0 := by
  cases d <;> first | rfl | (simp [strD] at h; done)
theorem res_some {x : Str} {r : PyData} (h : parseN x = some r) : resN (.str x) = .inl r := by simp only [resN, h]
theorem res_none {x : Str} (h : parseN x = none) : resN (.str x) = .inr 1 := by simp only [resN, h]
theorem none_pint (x : Str) : noneD (pintD (.str x)) = (parseL (tl x)).isNone := by
  simp only [pintD]
  cases parseL (tl x) <;> rfl
theorem bool_true {b : Bool} (h : b ≠ false) : b = true := by
  cases b
  · exact absurd rfl h
  · rfl
theorem split_len (x : Str) : (Txt.split x slash).length ≤ x.length + 1 := by
  have e := congrArg List.length (split_spl x)
  rw [List.length_map] at e
  rw [e]
  have key : ∀ l acc : List Nat, (TL.spl [47] 0 acc l).length ≤ l.length + 1 := by
    intro l
    induction l with
    | nil =>
      intro acc
      rw [TL.spl_nil]
      exact Nat.le_refl _
    | cons c r ih =>
      intro acc
      by_cases h : TL.pre [47] (c :: r) = true
      · rw [TL.spl_hit h]
        have := ih []
        simp only [List.length_cons]
        exact Nat.succ_le_succ this
      · rw [TL.spl_miss (by simpa using h)]
        have := ih (acc ++ [c])
        simp only [List.length_cons]
        omega
  have := key (tl x) []
  rw [← TL.len_tl] at this
  exact this
section
variable {P : Program} {w : World} {K : PySem.W.Frag} {mg : Str → Option Value} {c : Cls} {base : Heap} {a : Addr} {G : Hp} {S : List Addr} {H : Hp}
def prePN (ds : List PyData) : Prop := ∃ d, ds = [d] ∧ ∀ x, d = .str x → x.length ≤ 200
def postPN (ds : List PyData) (r : PyData) : Prop := ∃ d, ds = [d] ∧ resN d = .inl r
def rpPN (ds : List PyData) (r : PyData) : Prop := ∃ d n, ds = [d] ∧ resN d = .inr n ∧ r = .int n
abbrev spPN (K : PySem.W.Frag) (c : Cls) : Sp := spX K c.InvalidText "line" prePN postPN rpPN
theorem ev_part {σ : L2.St} {i : Nat} {v : V} {parts : List Str} {k : Int} {x : Str} (h : σ[i]? = some (some v)) (m : D K G v (.list (parts.map .str))) (hk : atI (parts.map PyData.str) k = some (.str x)) {te : TE} (he : Ev K a G te σ (· = .int k)) : Ev K a G (tOp (rIx K) (tVar i) te) σ (· = .str x) :=
  ev_at (ds := parts.map .str) (i := k) (Ev.imp (ev_var h m) fun _ e => .inl e) he hk
theorem ok_parse_number {f : Addr} {fd : FuncData} (F : Fun K "parse_number" "parse_number" s_parse_number f fd) (T : Txt K mg c) (F_is_number : FIN P w K mg base) (F_is_decimal : FDc P w K mg base) (F_parse_integer : FPi P w K mg base) :
    FnG P w K mg base (L2.CX P w) 3 f fd ["text"] (spPN K c) := by
  refine fun_okXG F sc_parse_number (fun vs H Q E h => spX_len (n := 1) (fun ds ⟨d, e, _⟩ => by rw [e]; rfl) h) (fun cdv A outer s H vs Q E hg hr h => ?_)
  have R_InvalidText : XR P w K mg base "InvalidText" c.InvalidText "line" := ok_InvalidText___init__ T
  obtain ⟨a, S, ds, f, m, ⟨d, rfl, hd⟩, kQ, kE⟩ := h
  obtain ⟨v, rfl, mv⟩ := DA.one m
  refine ⟨_, (pss_cons (ps_if (pt_not (pt_val (pe_callB (kIsi (K := K)) (by rfl) T.b_isinstance (by decide +kernel) (pa_cons (pv 0) (pa_cons (pe_bltn (v := .ty "str") (by rfl) T.b_str (by decide +kernel) rfl) pa_nil)))))
    (pss_one (ps_rse (by rfl) (takes_of rfl rfl rfl rfl) R_InvalidText (hr.mono (by decide)) (by rfl) pe_int))
    pss_nil)
    (pss_cons (ps_set (i := 1) sc_parse_number.nd rfl (by first | exact Or.inl rfl | exact Or.inr rfl) (pe_split (pv 0) pe_str))
    (pss_cons (ps_set (i := 2) sc_parse_number.nd rfl (by first | exact Or.inl rfl | exact Or.inr rfl) (pe_fn F_parse_integer hg (hr.mono (by decide)) (by rfl) pass0 (pa_cons (pe_ix (kIx (K := K)) (pv 1) pe_int (fun _ _ => rfl)) pa_nil)))
    (pss_cons (ps_if (PW.pt (pw_or (pt_cmpR op_gt (pe_callB (kLen (K := K)) (by rfl) T.b_len (by decide +kernel) (pa_cons (pv 1) pa_nil)) pe_int (nomark _)) (pw_or1 (pt_cmpR op_isN (pv 2) pe_non (nomark _)))))
    (pss_one (ps_rse (by rfl) (takes_of rfl rfl rfl rfl) R_InvalidText (hr.mono (by decide)) (by rfl) pe_int))
    pss_nil)
    (pss_cons (ps_if (pt_cmpR (kEq (K := K) hr.units) (pe_callB (kLen (K := K)) (by rfl) T.b_len (by decide +kernel) (pa_cons (pv 1) pa_nil)) pe_int (nomark _))
    (pss_one (ps_ret (pv 2)))
    pss_nil)
    (pss_cons (ps_if (PW.pt (pw_or (pt_not (pt_val (pe_fn F_is_decimal hg (hr.mono (by decide)) (by rfl) pass0 (pa_cons (pe_ix (kIx (K := K)) (pv 1) pe_int (fun _ _ => rfl)) pa_nil)))) (pw_or1 (pt_not (pt_val (pe_fn F_is_number hg (hr.mono (by decide)) (by rfl) pass0 (pa_cons (pe_tup (pa_cons (pv 2) (pa_cons (pe_callTy call_int_str (by rfl) T.b_int (by decide +kernel) (pa_cons (pe_ix (kIx (K := K)) (pv 1) pe_int (fun _ _ => rfl)) pa_nil)) pa_nil))) pa_nil)))))))
    (pss_one (ps_rse (by rfl) (takes_of rfl rfl rfl rfl) R_InvalidText (hr.mono (by decide)) (by rfl) pe_int))
    pss_nil)
    (pss_one (ps_ret (pe_tup (pa_cons (pv 2) (pa_cons (pe_callTy call_int_str (by rfl) T.b_int (by decide +kernel) (pa_cons (pe_ix (kIx (K := K)) (pv 1) pe_int (fun _ _ => rfl)) pa_nil)) pa_nil))))))))))), ?_⟩
  have bad : ∀ {σ : L2.St} {H1 : Hp} {n : Int} {Dn : Ends}, Ext a H H1 → LK.Fr a S H1 → resN d = .inr n → tRse c.InvalidText "line" (fun cls d _ H => E cls d H) (tC (.int n)) Dn σ H1 := by
    intro σ H1 n Dn x1 f1 e
    refine q_rse (K := K) ev_i f1 (Same.refl _) ?_
    rintro v z dd H2 x2 f2 mv hz hd hS
    exact kE v z dd H2 (x1.trans x2) mv ⟨d, n, rfl, e, hz⟩ hd hS
  refine q_if (σ := [some v, none, none]) (B := (· = !strD d)) (et_not (B1 := (· = strD d)) (et_val (ev_isi (K := K) (ev_var rfl mv) ?_)) ?_) f (Same.refl _) (fun H1 x1 f1 e1 => ?_) (fun H1 x1 f1 e1 => ?_)
  · rintro _ rfl
    exact ⟨_, kit_str _, rfl⟩
  · rintro _ rfl
    rfl
  · refine bad x1 f1 (res_no ?_)
    cases h : strD d
    · rfl
    · rw [h] at e1
      cases e1
  have e : strD d = true := by
    cases h : strD d
    · rw [h] at e1
      cases e1
    · rfl
  obtain ⟨x, rfl⟩ := str_of e
  have hx : x.length ≤ 200 := hd x rfl
  have mv1 := mv.mono (x1.off f.mem)
  cases mv1
  refine q_set (K := K) (σ := [some (.str x), none, none]) (ev_split (y := slash) (ev_var rfl (.str x)) (by decide +kernel) (by omega)) f1 (Same.refl _) ?_
  rintro v2 _ H2 x2 f2 m2 rfl
  obtain ⟨p, r, hs⟩ : ∃ p r, Txt.split x slash = p :: r := by
    cases h : Txt.split x slash with
    | nil => exact absurd h (split_ne x)
    | cons p r => exact ⟨p, r, rfl⟩
  have pl : p.length ≤ 200 := Nat.le_trans (split_head hs) hx
  have slen : (Txt.split x slash).length ≤ 201 := Nat.le_trans (split_len x) (by omega)
  have x12 := x1.trans x2
  have at0 : atI ((Txt.split x slash).map PyData.str) 0 = some (.str p) := by
    rw [hs]
    exact atI_nat (j := 0) rfl
  refine q_set (K := K) (σ := [some (.str x), some v2, none]) (ev_callS (fn := pintD) (ev_part rfl m2 at0 ev_i) (by omega)) f2 (Same.refl _) ?_
  rintro v3 _ H3 x3 f3 m3 rfl
  have m2 := m2.mono (x3.off f.mem)
  have x13 := x12.trans x3
  have elen : ∀ {σ : L2.St} {G : Hp}, σ[1]? = some (some v2) → D K G v2 (.list ((Txt.split x slash).map .str)) → Ev K a G (tCB (rLenA K) (tCons (tVar 1) tNil)) σ (IsI (· = ((Txt.split x slash).length : Nat))) := fun h m => ev_len (ev_var h m) (by
    rintro _ rfl
    exact ⟨(Txt.split x slash).length, by simp [lenD], by omega, rfl⟩)
  refine q_if (σ := [some (.str x), some v2, some v3]) (B := (· = (decide (2 < (Txt.split x slash).length) || noneD (pintD (.str p))))) (et_or (B1 := (· = decide (2 < (Txt.split x slash).length))) (et_test (ev_cmpI (K := K) (g := fun i j => decide (j < i)) (cJ := (· = 2)) (elen rfl m2) (ev_isI ev_i rfl) ?_)) (fun h => et_test (Ev.imp (ev_isN (K := K) (ev_var rfl m3)) ?_)) ?_) f3 (Same.refl _) (fun H4 x4 f4 e4 => ?_) (fun H4 x4 f4 e4 => ?_)
  · rintro _ _ rfl rfl
    rw [Bool.eq_iff_iff, decide_eq_true_eq, decide_eq_true_eq]
    omega
  · rintro _ rfl
    refine ⟨_, rfl, ?_⟩
    rw [← h, Bool.false_or]
  · intro h
    rw [← h, Bool.true_or]
  · refine bad (x13.trans x4) f4 (res_none ?_)
    unfold parseN
    rw [none_pint] at e4
    match r, hs with
    | [], hs =>
      rw [hs] at e4 ⊢
      cases hp : parseL (tl p) with
      | none =>
        show (parseL (tl p)).map PyData.int = none
        rw [hp]
        rfl
      | some t =>
        rw [hp] at e4
        cases e4
    | [q], hs =>
      rw [hs] at e4 ⊢
      cases hp : parseL (tl p) with
      | none =>
        show (parseL (tl p)).bind _ = none
        rw [hp]
        rfl
      | some t =>
        rw [hp] at e4
        cases e4
    | _ :: _ :: _, hs =>
      rw [hs]
      rfl
  have h4 : decide (2 < (Txt.split x slash).length) = false ∧ noneD (pintD (.str p)) = false := by
    cases h : decide (2 < (Txt.split x slash).length) <;> cases h' : noneD (pintD (.str p)) <;> first | exact ⟨rfl, rfl⟩ | (rw [h, h'] at e4; cases e4)
  obtain ⟨h41, h42⟩ := h4
  have short : ¬ 2 < (Txt.split x slash).length := of_decide_eq_false h41
  obtain ⟨t, ht⟩ : ∃ t, parseL (tl p) = some t := by
    rw [none_pint] at h42
    cases h : parseL (tl p) with
    | none =>
      rw [h] at h42
      cases h42
    | some t => exact ⟨t, rfl⟩
  have et : pintD (.str p) = .int t := by simp only [pintD, ht]
  rw [et] at m3
  have m2 := m2.mono (x4.off f.mem)
  cases m3
  have x14 := x13.trans x4
  refine q_if (σ := [some (.str x), some v2, some (.int t)]) (B := (· = decide ((Txt.split x slash).length = 1))) (et_test (ev_eqI (K := K) (cJ := (· = 1)) (elen rfl m2) (ev_isI ev_i rfl) ?_)) f4 (Same.refl _) (fun H5 x5 f5 e5 => ?_) (fun H5 x5 f5 e5 => ?_)
  · rintro _ _ rfl rfl
    rw [Bool.eq_iff_iff, decide_eq_true_eq, decide_eq_true_eq]
    omega
  · have one : (Txt.split x slash).length = 1 := of_decide_eq_true e5.symm
    refine q_ret (K := K) (σ := [some (.str x), some v2, some (.int t)]) (ev_var rfl (.int t)) f5 (Same.refl _) ?_
    rintro v6 _ H6 x6 m6 rfl
    refine kQ v6 _ H6 ((x14.trans x5).trans x6) m6 ⟨_, rfl, res_some ?_⟩
    rw [hs] at one
    have r0 : r = [] := by
      cases r
      · rfl
      · simp at one
    unfold parseN
    rw [hs, r0]
    show (parseL (tl p)).map PyData.int = _
    rw [ht]
    rfl
  have two : ¬ (Txt.split x slash).length = 1 := of_decide_eq_false e5.symm
  obtain ⟨q, rfl⟩ : ∃ q, r = [q] := by
    rw [hs] at short two
    match r with
    | [] => exact absurd rfl two
    | [q] => exact ⟨q, rfl⟩
    | _ :: _ :: _ => exact absurd (by simp) short
  have ql : q.length ≤ 200 := Nat.le_trans (split_snd hs) hx
  have at1 : atI ((Txt.split x slash).map PyData.str) 1 = some (.str q) := by
    rw [hs]
    exact atI_nat (j := 1) rfl
  have m2 := m2.mono (x5.off f.mem)
  have x15 := x14.trans x5
  have tb := parse_small ht (by rw [← TL.len_tl]; exact pl)
  have pw : parseN x = if (decB (tl q) && isRatD (.tuple [.int t, .int ((digitsVal (tl q) : Nat) : Int)])) = true then some (.tuple [.int t, .int ((digitsVal (tl q) : Nat) : Int)]) else none := by
    unfold parseN
    rw [hs]
    show (parseL (tl p)).bind _ = _
    rw [ht]
    rfl
  have epair : ∀ {G : Hp}, D K G v2 (.list ((Txt.split x slash).map .str)) → decB (tl q) = true → Ev K a G (tTup (tCons (tVar 2) (tCons (tCB (fun xs H Q => ∃ a n, xs = [V.str a] ∧ intText? a = some n ∧ a.length ≤ 640 ∧ Q (V.int n) H) (tCons (tOp (rIx K) (tVar 1) (tC (.int 1))) tNil)) tNil))) [some (.str x), some v2, some (.int t)] (· = .tuple [.int t, .int ((digitsVal (tl q) : Nat) : Int)]) :=
    fun m h => ev_tupE (ea_eq (ev_var rfl (.int t)) (ea_eq (ev_intS (ev_part rfl m at1 ev_i) (int_dec h (by omega)) (by omega)) ea_nil)) (by show 2 ≤ 1000; decide)
  have tam : decB (tl q) = true → Tame (.tuple [.int t, .int ((digitsVal (tl q) : Nat) : Int)]) := fun h => by
    have v := val_small (dec_of h).1 (by rw [← TL.len_tl]; exact ql)
    have big : (2 : Nat) ^ 700 ≤ 2 ^ 1000 := Nat.pow_le_pow_right (by decide) (by decide)
    refine Sz.tame (n := 2 * 1) (k := 1) (Sz.tup (n := 0) (k := 0) (ds := [.int t, .int ((digitsVal (tl q) : Nat) : Int)]) fun z m => ?_)
    simp only [List.mem_cons, List.not_mem_nil, or_false] at m
    rcases m with rfl | rfl
    · exact sz_int (Nat.lt_of_lt_of_le tb big)
    · exact sz_int (by rw [Int.natAbs_natCast]; exact Nat.lt_of_lt_of_le v big)
  refine q_if (σ := [some (.str x), some v2, some (.int t)]) (B := (· = !(decB (tl q) && isRatD (.tuple [.int t, .int ((digitsVal (tl q) : Nat) : Int)])))) (et_or (B1 := (· = !decB (tl q))) (et_not (B1 := (· = decB (tl q))) (et_val (Ev.imp (ev_callS (K := K) (fn := decD) (ev_part rfl m2 at1 ev_i) (by omega)) ?_)) ?_)
    (fun h => et_not (B1 := (· = isRatD (.tuple [.int t, .int ((digitsVal (tl q) : Nat) : Int)]))) (et_val (Ev.imp (ev_callT (K := K) (fn := fun d => .bool (isRatD d)) (epair m2 ?_) (tam ?_)) ?_)) ?_) ?_) f5 (Same.refl _) (fun H6 x6 f6 e6 => ?_) (fun H6 x6 f6 e6 => ?_)
  · rintro _ rfl
    exact ⟨_, rfl, rfl⟩
  · rintro _ rfl
    rfl
  · cases h' : decB (tl q)
    · rw [h'] at h
      cases h
    · rfl
  · cases h' : decB (tl q)
    · rw [h'] at h
      cases h
    · rfl
  · rintro _ rfl
    exact ⟨_, rfl, rfl⟩
  · rintro _ rfl
    have h' : decB (tl q) = true := by
      cases h' : decB (tl q)
      · rw [h'] at h
        cases h
      · rfl
    rw [h', Bool.true_and]
  · intro h
    have h' : decB (tl q) = false := by
      cases h' : decB (tl q)
      · rfl
      · rw [h'] at h
        cases h
    rw [h', Bool.false_and]
    rfl
  · refine bad (x15.trans x6) f6 (res_none ?_)
    rw [pw, if_neg]
    intro z
    rw [z] at e6
    cases e6
  · have z : (decB (tl q) && isRatD (.tuple [.int t, .int ((digitsVal (tl q) : Nat) : Int)])) = true := by
      cases h : (decB (tl q) && isRatD (.tuple [.int t, .int ((digitsVal (tl q) : Nat) : Int)]))
      · rw [h] at e6
        cases e6
      · rfl
    have z1 : decB (tl q) = true := by
      rw [Bool.and_eq_true] at z
      exact z.1
    refine q_ret (K := K) (σ := [some (.str x), some v2, some (.int t)]) (epair (m2.mono (x6.off f.mem)) z1) f6 (Same.refl _) ?_
    rintro v7 _ H7 x7 m7 rfl
    refine kQ v7 _ H7 ((x15.trans x6).trans x7) m7 ⟨_, rfl, res_some ?_⟩
    rw [pw, if_pos z]
abbrev FPn (P : Program) (w : World) (K : PySem.W.Frag) (mg : Str → Option Value) (base : Heap) (c : Cls) : Prop := DfX P w K mg base (L2.CX P w) 3 "parse_number" ["text"] [] (spPN K c)
abbrev FNt (P : Program) (w : World) (K : PySem.W.Frag) (mg : Str → Option Value) (base : Heap) (c : Cls) : Prop := DfX P w K mg base (L2.CX P w) 4 "number_text" ["value"] [] (spNT K c)
end
end K14
--NEVER law _law_right _law_parsed _law_refused
set_option Elab.async false
set_option linter.all false
set_option maxRecDepth 100000
set_option maxHeartbeats 4000000
set_option exponentiation.threshold 2000
namespace K14
open PySem PySem.Spec L2 LK
open PyProof.Rows hiding St
open TL (tl numL)
open NumText (digitsVal AllDigits)
local macro_rules | `(tactic| walk_at "lit") => `(tactic| first | exact ev_i | exact ev_s | exact ev_b | exact ev_n | exact ev_dnew | (refine ev_negE ?_; walk_at "lit") | (refine ev_tupE ?_ (by decide); walk_at "lits") | (refine ev_lstE ?_ (by decide); walk_at "lits") | (refine ev_powE ?_ ?_ ⟨by decide, by decide, by decide⟩ <;> walk_at "lit"))
local macro_rules | `(tactic| walk_at "lits") => `(tactic| first | exact ea_nil | (refine ea_eq ?_ ?_; (walk_at "lit"); (walk_at "lits")))

def oddA : List PyData := [.none, .int 0, .int 1, .bool true, .bool false, .str "", .str "A", .str "nineletters", .tuple [], .list [], .dict [], .tuple [.int 1, .int 2], .tuple [.int 2, .int 4], .tuple [.int 3, .int 1], .tuple [.int 1, .int 0], .tuple [.int 1, .int (-2)]]
def oddB : List PyData := [.tuple [.bool true, .int 2], .list [.int 1, .int 2], .tuple [.int 1, .int 2, .int 3], .tuple [.str "1", .int 2], .tuple [.int 0, .int 2], .tuple [.int (-3), .int 6], .int (-5), .str "a", .str "ab", .str "a b", .str "1", .tuple [.str "a"]]
def oddC : List PyData := [.tuple [.int 1, .bool true]]
def oddL : List PyData := oddA ++ oddB ++ oddC
section
variable {P : Program} {w : World} {K : PySem.W.Frag} {mg : Str → Option Value} {c : Cls} {base : Heap} {a : Addr} {G : Hp} {S : List Addr} {H : Hp}
/-! ### the pot -/
/-- [script, k]: the script, a place -/
def spPot (K : PySem.W.Frag) : Sp := fun vs H Q _ => ∃ (s : Addr) (ns : List Int) (k : Nat), vs = [.ref s, .int (k : Nat)] ∧ SqL K H s (ns.map V.int) ∧ k < 64 ∧ ∀ p H', Same H H' → H p = none → PotAt H' p → Q (.ref p) H'
theorem ok_l_pot {f : Addr} {fd : FuncData} (F : Fun K "_law_pot" "_law_pot" s_l_pot f fd) (T : Txt K mg c) : FnG P w K mg base CX0 1 f fd ["_law_script", "_law_k"] (spPot K) := by
  refine fun_okG F sc_l_pot (fun vs H Q E h => ?_) (fun cdv A outer s H vs Q E hg hr h => ?_)
  · obtain ⟨s, ns, k, rfl, _⟩ := h
    rfl
  obtain ⟨s, ns, k, rfl, hs, hk, q⟩ := h
  refine ⟨_, (pss_cons (ps_set (i := 2) sc_l_pot.nd rfl (by first | exact Or.inl rfl | exact Or.inr rfl) (pe_ifExp (pt_cmpR op_lt (pv 1) (pe_callB (kLen (K := K)) (by rfl) T.b_len (by decide +kernel) (pa_cons (pv 0) pa_nil)) (nomark _)) (pe_ix (kIx (K := K)) (pv 0) (pv 1) (fun _ _ => rfl)) pe_int))
    (pss_one (ps_ret (pe_lst (pa_cons (pe_callB (call_max2 rfl) (by rfl) T.b_max (by decide +kernel) (pa_cons pe_int (pa_cons (pe_op op_sub (pe_callB call_abs (by rfl) T.b_abs (by decide +kernel) (pa_cons (pv 2) pa_nil)) (pe_op op_pow pe_int pe_int)) pa_nil))) (pa_cons (pe_op op_mod (pe_op (kAdd (K := K)) (pe_op (kAdd (K := K)) (pe_op oMul (pe_op op_mod (pe_callB call_abs (by rfl) T.b_abs (by decide +kernel) (pa_cons (pv 2) pa_nil)) pe_int) pe_int) (pe_op oMul pe_int (pv 1))) pe_int) pe_int) pa_nil)))))), ?_⟩
  -- behind the first row: some int
  have rest : ∀ z : Int, (tRet (tLst (tCons (tCB (fun xs H Q => ∃ i j, xs = [V.int i, V.int j] ∧ Q (V.int (if j > i then j else i)) H) (tCons (tC (.int 0)) (tCons (tOp (rI0 fun i j => .int (i - j)) (tCB (fun xs H Q => ∃ i, xs = [V.int i] ∧ Q (V.int (if i < 0 then -i else i)) H) (tCons (tVar 2) tNil)) (tOp (rI CPow fun i j => .int (i ^ j.toNat)) (tC (.int 10)) (tC (.int 18)))) tNil)))
      (tCons (tOp (rI (fun _ j => 0 < j) fun i j => .int (i % j)) (tOp (rAddA K) (tOp (rAddA K) (tOp rMulA (tOp (rI (fun _ j => 0 < j) fun i j => .int (i % j)) (tCB (fun xs H Q => ∃ i, xs = [V.int i] ∧ Q (V.int (if i < 0 then -i else i)) H) (tCons (tVar 2) tNil)) (tC (.int 2147483587))) (tC (.int 48271))) (tOp rMulA (tC (.int 60013)) (tVar 1))) (tC (.int 29))) (tC (.int 2147483647))) tNil))))
      { nx := fun _ H' => Q .non H', rt := Q } [some (.ref s), some (.int (k : Nat)), some (.int z)] H := by
    intro z
    refine ⟨.int z, rfl, z, rfl, 10, 18, rfl, rfl, ⟨by decide, by decide, by decide⟩, _, _, rfl, rfl, 0, _, rfl, ?_⟩
    refine ⟨.int z, rfl, z, rfl, _, 2147483587, rfl, rfl, (by show (0 : Int) < 2147483587; decide), .inl ⟨_, 48271, rfl, rfl, ?_, _, rfl, .inl ⟨60013, _, rfl, rfl, ?_, .inl ⟨_, _, rfl, rfl, .inl ⟨_, 29, rfl, rfl, _, 2147483647, rfl, rfl, (by show (0 : Int) < 2147483647; decide), ?_⟩⟩⟩⟩⟩
    · refine mulx_ok (a := 31) (b := 16) ?_ (by decide) (by decide)
      split <;> omega
    · refine mulx_ok (a := 16) (b := 16) (by decide) ?_ (by decide)
      omega
    · refine ⟨by show 2 ≤ sizeLine; decide, fun p hp => ?_⟩
      refine q p _ (same_new hp) hp ⟨_, _, upd_same, ?_, ?_, ?_⟩
      · split <;> omega
      · exact Int.emod_nonneg _ (by decide)
      · exact Int.lt_trans (Int.emod_lt_of_pos _ (by decide)) (by decide)
  refine ⟨.int (k : Nat), rfl, .ref s, rfl, .ref s, _, rfl, .inl ⟨_, hs, rfl⟩, _, _, rfl, rfl, _, rfl, ite2 (fun e => ?_) (fun e => ?_)⟩
  · have e' := of_decide_eq_true e
    rw [List.length_map] at e'
    have hk' : k < ns.length := by omega
    exact ⟨.ref s, rfl, .int (k : Nat), rfl, .inl ⟨s, _, (k : Nat), .int ns[k], rfl, rfl, hs, atI_nat (by rw [List.getElem?_map, List.getElem?_eq_getElem hk']; rfl), rest _⟩⟩
  · exact rest 0
/-! ### the draw -/
def preD (ds : List PyData) : Prop := ∃ m : Int, ds = [.int m] ∧ 0 < m ∧ m < 2 ^ 200
def postD (ds : List PyData) (r : PyData) : Prop := ∃ m k : Int, ds = [.int m] ∧ r = .int k ∧ 0 ≤ k ∧ k < m
theorem ok_l_draw {f : Addr} {fd : FuncData} (F : Fun K "_law_draw" "_law_draw" s_l_draw f fd) (T : Txt K mg c) : FnG P w K mg base CX0 1 f fd ["_law_pot_here", "_law_many"] (spP K preD postD) := by
  refine fun_okG F sc_l_draw (fun vs H Q E h => spP_len (n := 1) (fun ds ⟨m, e, _⟩ => by rw [e]; rfl) h) (fun cdv A outer s H vs Q E hg hr h => ?_)
  obtain ⟨a, S, ws, ds, rfl, f, m, ⟨n, rfl, n0, n1⟩, k⟩ := h
  obtain ⟨v, rfl, mv⟩ := DA.one m
  cases mv
  obtain ⟨p, q, hp, p0, q0, q1⟩ := f.pot
  have small : ∀ i : Int, CDivW i n := fun i => wide_div (b := 200) n0 (by omega) (by decide) (by decide)
  refine ⟨_, (pss_cons (ps_if (pt_cmpR op_gt (pe_ix (kIx (K := K)) (pv 0) pe_int (fun _ _ => rfl)) pe_int (nomark _))
    (pss_cons (ps_asg (pe_callB call_divmodX (by rfl) T.b_divmod (by decide +kernel) (pa_cons (pe_ix (kIx (K := K)) (pv 0) pe_int (fun _ _ => rfl)) (pa_cons (pv 1) pa_nil))) (pg_tup (by rfl) (pgs_cons (pg_sub (pv 0) pe_int set_list) (pgs_cons (pg_name (i := 2) sc_l_draw.nd rfl (by first | exact Or.inl rfl | exact Or.inr rfl)) pgs_nil))))
    (pss_one (ps_ret (pv 2))))
    pss_nil)
    (pss_cons (ps_asg (pe_op op_mod (pe_op (kAdd (K := K)) (pe_op oMul (pe_ix (kIx (K := K)) (pv 0) pe_int (fun _ _ => rfl)) pe_int) pe_int) pe_int) (pg_sub (pv 0) pe_int set_list))
    (pss_one (ps_ret (pe_op op_mod (pe_op op_fdivW (pe_op op_mod (pe_op oMul (pe_ix (kIx (K := K)) (pv 0) pe_int (fun _ _ => rfl)) (pe_ix (kIx (K := K)) (pv 0) pe_int (fun _ _ => rfl))) pe_int) pe_int) (pv 1)))))), ?_⟩
  refine ⟨.ref a, rfl, .inl ⟨a, _, 0, .int p, rfl, rfl, SqL.of hp, rfl, p, 0, rfl, rfl, _, rfl, ite2 (fun e => ?_) (fun e => ?_)⟩⟩
  · refine ⟨.ref a, rfl, .inl ⟨a, _, 0, .int p, rfl, rfl, SqL.of hp, rfl, .int n, rfl, p, n, rfl, small p, fun t ht => ?_⟩⟩
    have nat : a ≠ t := ne_of_none hp ht
    have hp2 : upd H t (.tup [.int (p / n), .int (p % n)]) a = some (.lst [.int p, .int q]) := by
      rw [upd_ne nat]
      exact hp
    refine ⟨t, _, rfl, SqT.of upd_same, rfl, _, _, rfl, ⟨.ref a, rfl, a, _, 0, 0, rfl, rfl, hp2, rfl, _, _, rfl, rfl, ?_⟩⟩
    refine ⟨.int (p % n), rfl, k _ (.int (p % n)) _ ⟨fun b o nb e => ?_, fun _ => ?_⟩ (.int _) ⟨n, _, rfl, rfl, Int.emod_nonneg _ (by omega), Int.emod_lt_of_pos _ n0⟩⟩
    · rw [upd_ne nb]
      exact same_new ht _ _ e
    · exact ⟨_, q, upd_same, Int.ediv_nonneg p0 (by omega), q0, q1⟩
  · refine ⟨.ref a, rfl, .inl ⟨a, _, 1, .int q, rfl, rfl, SqL.of hp, rfl, .inl ⟨q, 39373, rfl, rfl, mulx_ok (a := 31) (b := 16) (by omega) (by decide) (by decide), .inl ⟨_, 12227, rfl, rfl, _, 2147483629, rfl, rfl, (by show (0 : Int) < 2147483629; decide), ?_⟩⟩⟩⟩
    refine ⟨.ref a, rfl, a, _, 1, 1, rfl, rfl, hp, rfl, ?_⟩
    dsimp only
    have y0 : 0 ≤ (q * 39373 + 12227) % 2147483629 := Int.emod_nonneg _ (by decide)
    have y1 : (q * 39373 + 12227) % 2147483629 < 2147483629 := Int.emod_lt_of_pos _ (by decide)
    generalize (q * 39373 + 12227) % 2147483629 = y at y0 y1
    have hp2 : upd H a (.lst ([V.int p, .int q].set 1 (.int y))) a = some (.lst [.int p, .int y]) := upd_same
    refine ⟨.ref a, rfl, .inl ⟨a, _, 1, .int y, rfl, rfl, SqL.of hp2, rfl, .ref a, rfl, .inl ⟨a, _, 1, .int y, rfl, rfl, SqL.of hp2, rfl, ?_⟩⟩⟩
    refine .inl ⟨y, y, rfl, rfl, mulx_ok (a := 31) (b := 31) (by omega) (by omega) (by decide), _, 2147483563, rfl, rfl, (by show (0 : Int) < 2147483563; decide), _, 13, rfl, rfl, wide_div (b := 4) (by decide) (by decide) (by decide) (by decide), .int n, rfl, _, n, rfl, rfl, n0, ?_⟩
    refine k _ (.int _) _ ⟨fun b o nb e => ?_, fun _ => ?_⟩ (.int _) ⟨n, _, rfl, rfl, Int.emod_nonneg _ (by omega), Int.emod_lt_of_pos _ n0⟩
    · rw [upd_ne nb]
      exact e
    · exact ⟨p, y, hp2, p0, y0, by omega⟩
/-- a draw, as it is used -/
theorem ev_draw {σ : St} {i : Nat} {E : XK} {te : TE} {m : Int} (hi : σ[i]? = some (some (.ref a))) (h : Ev K a G te σ (· = .int m)) (h0 : 0 < m) (h1 : m < 2 ^ 200) :
    Ev K a G (tCall (spP K preD postD) [] E (tCons (tVar i) (tCons te tNil))) σ (IsI fun k => 0 ≤ k ∧ k < m) := by
  refine ev_callP hi (ea_eq h ea_nil) ?_ ?_
  · rintro _ rfl
    exact ⟨m, rfl, h0, h1⟩
  · rintro _ d rfl ⟨m', k, e, rfl, k0, k1⟩
    injection e with e _
    injection e with e
    subst e
    exact ⟨k, rfl, k0, k1⟩
abbrev DfD (P : Program) (w : World) (K : PySem.W.Frag) (mg : Str → Option Value) (base : Heap) : Prop := Df P w K mg base CX0 1 "_law_draw" ["_law_pot_here", "_law_many"] (spP K preD postD)
/-! ### odd things -/
theorem ok_l_odd {f : Addr} {fd : FuncData} (F : Fun K "_law_odd" "_law_odd" s_l_odd f fd) (T : Txt K mg c) (F_l_draw : DfD P w K mg base) :
    FnG P w K mg base CX0 2 f fd ["_law_pot_here"] (spP K (fun ds => ds = []) (fun _ r => r ∈ oddL)) := by
  refine fun_okG F sc_l_odd (fun vs H Q E h => spP_len (n := 0) (fun ds e => by rw [e]; rfl) h) (fun cdv A outer s H vs Q E hg hr h => ?_)
  obtain ⟨a, S, ws, ds, rfl, f, m, rfl, k⟩ := h
  cases m
  refine ⟨_, (pss_cons (ps_set (i := 1) sc_l_odd.nd rfl (by first | exact Or.inl rfl | exact Or.inr rfl) (pe_lst (pa_cons pe_non (pa_cons pe_int (pa_cons pe_int (pa_cons pe_bl (pa_cons pe_bl (pa_cons pe_str (pa_cons pe_str (pa_cons pe_str (pa_cons (pe_tup pa_nil) (pa_cons (pe_lst pa_nil) (pa_cons pe_dnewK (pa_cons (pe_tup (pa_cons pe_int (pa_cons pe_int pa_nil))) (pa_cons (pe_tup (pa_cons pe_int (pa_cons pe_int pa_nil))) (pa_cons (pe_tup (pa_cons pe_int (pa_cons pe_int pa_nil))) (pa_cons (pe_tup (pa_cons pe_int (pa_cons pe_int pa_nil))) (pa_cons (pe_tup (pa_cons pe_int (pa_cons (pe_un un_neg pe_int) pa_nil))) pa_nil))))))))))))))))))
    (pss_cons (ps_set (i := 1) sc_l_odd.nd rfl (by first | exact Or.inl rfl | exact Or.inr rfl) (pe_op (kAdd (K := K)) (pv 1) (pe_lst (pa_cons (pe_tup (pa_cons pe_bl (pa_cons pe_int pa_nil))) (pa_cons (pe_lst (pa_cons pe_int (pa_cons pe_int pa_nil))) (pa_cons (pe_tup (pa_cons pe_int (pa_cons pe_int (pa_cons pe_int pa_nil)))) (pa_cons (pe_tup (pa_cons pe_str (pa_cons pe_int pa_nil))) (pa_cons (pe_tup (pa_cons pe_int (pa_cons pe_int pa_nil))) (pa_cons (pe_tup (pa_cons (pe_un un_neg pe_int) (pa_cons pe_int pa_nil))) (pa_cons (pe_un un_neg pe_int) (pa_cons pe_str (pa_cons pe_str (pa_cons pe_str (pa_cons pe_str (pa_cons (pe_tup (pa_cons pe_str pa_nil)) pa_nil)))))))))))))))
    (pss_one (ps_ret (pe_ix (kIx (K := K)) (pe_op (kAdd (K := K)) (pv 1) (pe_lst (pa_cons (pe_tup (pa_cons pe_int (pa_cons pe_bl pa_nil))) pa_nil))) (pe_fn F_l_draw hg (hr.mono (by decide)) (by rfl) pass0 (pa_cons (pv 0) (pa_cons pe_int pa_nil))) (fun _ _ => rfl)))))), ?_⟩
  refine q_set (K := K) (σ := [some (.ref a), none]) (C := (· = .list oddA)) (by walk_at "lit") f (Same.refl _) ?_
  rintro v1 _ H1 x1 f1 m1 rfl
  refine q_set (σ := [some (.ref a), some v1]) (C := (· = .list (oddA ++ oddB))) (ev_catL (ds := oddA) (es := oddB) (ev_var rfl m1) ?_ (by decide)) f1 (Same.refl _) ?_
  · refine ev_lstE ?_ ?_
    · walk_at "lits"
    · decide
  rintro v2 _ H2 x2 f2 m2 rfl
  refine q_ret (σ := [some (.ref a), some v2]) (C := (· ∈ oddL)) (ev_pick (ds := oddL) (ev_catL (ds := oddA ++ oddB) (es := oddC) (ev_var rfl m2) ?_ (by decide)) (ev_draw rfl ev_i (by decide) (by decide))) f2 (Same.refl _) ?_
  · refine ev_lstE ?_ ?_
    · walk_at "lits"
    · decide
  intro v3 d H3 x3 m3 hd
  exact k _ _ H3 ((x1.trans x2).trans x3) m3 hd
/-! ### ratios -/
def small2 (x y : Int) : Prop := y ≠ 0 ∧ x.natAbs < 2 ^ 200 ∧ y.natAbs < 2 ^ 200
theorem gcd_small {x y : Int} (h : small2 x y) : 0 < Int.gcd x y ∧ Int.gcd x y < 2 ^ 200 :=
  ⟨Int.gcd_pos_of_ne_zero_right x h.1, Nat.lt_of_le_of_lt (Int.gcd_le_natAbs_right x h.1) h.2.2⟩
theorem ok_l_ratio {f : Addr} {fd : FuncData} (F : Fun K "_law_ratio" "_law_ratio" s_l_ratio f fd) (T : Txt K mg c) (F_l_common : FCm P w K mg base) :
    FnG P w K mg base CX0 2 f fd ["_law_top", "_law_low"] (spG K (preI small2) (postI ratioD)) := by
  refine fun_okG F sc_l_ratio (fun vs H Q E h => spG_len (fun _ => preI_len) h) (fun cdv A outer s H vs Q E hg hr h => ?_)
  obtain ⟨a, S, ds, f, m, ⟨x, y, rfl, hs⟩, k⟩ := h
  obtain ⟨v1, v2, rfl, m1, m2⟩ := DA.two m
  cases m1
  cases m2
  refine ⟨_, (pss_cons (ps_if (pt_cmpR op_lt (pv 1) pe_int (nomark _))
    (pss_one (ps_par (i := 0) (j := 1) (by rfl) sc_l_ratio.nd rfl rfl (by decide) rfl rfl (pa_cons (pe_un un_neg (pv 0)) (pa_cons (pe_un un_neg (pv 1)) pa_nil)) (by rfl)))
    pss_nil)
    (pss_cons (ps_set (i := 2) sc_l_ratio.nd rfl (by first | exact Or.inl rfl | exact Or.inr rfl) (pe_fn F_l_common hg (hr.mono (by decide)) (by rfl) pass0 (pa_cons (pv 0) (pa_cons (pv 1) pa_nil))))
    (pss_one (ps_ret (pe_ifExp (pt_cmpR (kEq (K := K) hr.units) (pv 1) (pv 2) (nomark _)) (pe_op op_fdivW (pv 0) (pv 2)) (pe_tup (pa_cons (pe_op op_fdivW (pv 0) (pv 2)) (pa_cons (pe_op op_fdivW (pv 1) (pv 2)) pa_nil)))))))), ?_⟩
  -- behind the signs: t over l, l > 0
  have rest : ∀ (t l : Int) (H' : Hp), Ext a H H' → Fr a S H' → small2 t l → 0 < l → (if l = (Int.gcd t l : Nat) then PyData.int (t / (Int.gcd t l : Nat)) else .tuple [.int (t / (Int.gcd t l : Nat)), .int (l / (Int.gcd t l : Nat))]) = ratioD x y →
      tSeq (tAsg (tCall (spG K (preI fun _ y => 0 ≤ y) (postI gcdP)) [] E0 (tCons (tVar 0) (tCons (tVar 1) tNil))) (gName 2)) (tRet (tIf (tTest (tOp (rEqA K) (tVar 1) (tVar 2))) (tOp (rI CDivW fun i j => .int (i / j)) (tVar 0) (tVar 2)) (tTup (tCons (tOp (rI CDivW fun i j => .int (i / j)) (tVar 0) (tVar 2)) (tCons (tOp (rI CDivW fun i j => .int (i / j)) (tVar 1) (tVar 2)) tNil)))))
        { nx := fun _ H' => Q .non H', rt := Q } [some (.int t), some (.int l), none] H' := by
    intro t l H' x' f' hs' hl e
    obtain ⟨g1, g2⟩ := gcd_small hs'
    refine q_set (K := K) (σ := [some (.int t), some (.int l), none]) (ev_callI (g := gcdP) (ev_var rfl (.int t)) (ev_var rfl (.int l)) (Int.le_of_lt hl)) f' (Same.refl _) ?_
    rintro _ _ H2 x2 f2 mg' rfl
    cases mg'
    generalize hg' : ((Int.gcd t l : Nat) : Int) = g at *
    have gp : 0 < g := by omega
    have cd : ∀ i : Int, CDivW i g := fun i => wide_div (b := 200) gp (by omega) (by decide) (by decide)
    refine q_ret (K := K) (σ := [some (.int t), some (.int l), some (.int g)]) (C := (· = ratioD x y)) (ev_if (B := (· = decide (l = g))) (et_test (ev_eqI (cI := (· = l)) (cJ := (· = g)) (ev_isI (ev_var rfl (.int l)) rfl) (ev_isI (ev_var rfl (.int g)) rfl) ?_))
      (fun h => Ev.imp (ev_divE (ev_var rfl (.int t)) (ev_var rfl (.int g)) (cd _)) ?_) (fun h => Ev.imp (ev_tupE (ea_eq (ev_divE (ev_var rfl (.int t)) (ev_var rfl (.int g)) (cd _)) (ea_eq (ev_divE (ev_var rfl (.int l)) (ev_var rfl (.int g)) (cd _)) ea_nil)) (by show 2 ≤ 1000; decide)) ?_)) f2 (Same.refl _) ?_
    · rintro _ _ rfl rfl
      rfl
    · rintro _ rfl
      rw [← e, if_pos (of_decide_eq_true h.symm)]
    · rintro _ rfl
      rw [← e, if_neg (of_decide_eq_false h.symm)]
    · rintro v _ H3 x3 mv rfl
      exact k _ _ H3 ((x'.trans x2).trans x3) mv ⟨x, y, rfl, rfl⟩
  obtain ⟨h0, h1, h2⟩ := hs
  refine q_if (σ := [some (.int x), some (.int y), none]) (B := (· = decide (y < 0))) (et_test (ev_cmpI (K := K) (g := fun i j => decide (i < j)) (cI := (· = y)) (cJ := (· = 0)) (ev_isI (ev_var rfl (.int y)) rfl) (ev_isI ev_i rfl) ?_)) f (Same.refl _) (fun H1 x1 f1 e1 => ?_) (fun H1 x1 f1 e1 => ?_)
  · rintro _ _ rfl rfl
    rfl
  · have hy : y < 0 := of_decide_eq_true e1.symm
    refine q_par (K := K) (σ := [some (.int x), some (.int y), none]) (ev_negE (ev_var rfl (.int x))) (ev_negE (ev_var rfl (.int y))) f1 (Same.refl _) ?_
    rintro _ _ _ _ H2 x2 f2 ma mb rfl rfl
    cases ma
    cases mb
    refine rest (-x) (-y) H2 (x1.trans x2) f2 ⟨by omega, by omega, by omega⟩ (by omega) ?_
    unfold ratioD
    simp only [if_pos hy]
  · have hy : ¬ y < 0 := of_decide_eq_false e1.symm
    refine rest x y H1 x1 f1 ⟨h0, h1, h2⟩ (by omega) ?_
    unfold ratioD
    simp only [if_neg hy]
abbrev FRa (P : Program) (w : World) (K : PySem.W.Frag) (mg : Str → Option Value) (base : Heap) : Prop := DfI P w K mg base 2 "_law_ratio" ["_law_top", "_law_low"] small2 ratioD
theorem int_of {d : PyData} (h : isIntD d = true) : ∃ i, d = .int i := by
  cases d <;> first | exact ⟨_, rfl⟩ | cases h
/-! ### the law's own judge -/
theorem isRat_no {d : PyData} (h1 : intOrBool d = false) (h2 : tupD d = false) : isRatD d = false := by
  cases d <;> first | rfl | (simp [tupD] at h2; done) | (simp [intOrBool] at h1; done)
theorem tup_of {d : PyData} (h : tupD d = true) : ∃ es, d = .tuple es := by
  cases d <;> first | exact ⟨_, rfl⟩ | cases h
theorem bulk_len : ∀ l : List PyData, l.length ≤ PyData.bulkAll l
  | [] => by simp
  | z :: l => by
    have := bulk_len l
    simp only [PyData.bulkAll, List.length_cons]
    omega
theorem tame_tup {es : List PyData} (h : Tame (.tuple es)) : es.length ≤ 8000 := by
  have h1 := h.bk
  simp only [PyData.bulk] at h1
  exact Nat.le_trans (bulk_len es) h1
theorem ok_l_is_ratio {f : Addr} {fd : FuncData} (F : Fun K "_law_is_ratio" "_law_is_ratio" s_l_is_ratio f fd) (T : Txt K mg c) (F_l_common : FCm P w K mg base) :
    FnG P w K mg base CX0 2 f fd ["_law_thing"] (spG K (fun ds => ∃ d, ds = [d] ∧ Tame d) (post1 fun d => .bool (isRatD d))) := by
  refine fun_okG F sc_l_is_ratio (fun vs H Q E h => spG_len (n := 1) (fun ds ⟨d, e, _⟩ => by rw [e]; rfl) h) (fun cdv A outer s H vs Q E hg hr h => ?_)
  obtain ⟨a, S, ds, f, m, ⟨d, rfl, tm⟩, k⟩ := h
  obtain ⟨v, rfl, mv⟩ := DA.one m
  refine ⟨_, (pss_cons (ps_if (pt_val (pe_callB (kIsi (K := K)) (by rfl) T.b_isinstance (by decide +kernel) (pa_cons (pv 0) (pa_cons (pe_bltn (v := .ty "int") (by rfl) T.b_int (by decide +kernel) rfl) pa_nil))))
    (pss_one (ps_ret (pe_not (pe_callB (kIsi (K := K)) (by rfl) T.b_isinstance (by decide +kernel) (pa_cons (pv 0) (pa_cons (pe_bltn (v := .ty "bool") (by rfl) T.b_bool (by decide +kernel) rfl) pa_nil))))))
    pss_nil)
    (pss_cons (ps_if (PW.pt (pw_or (pt_not (pt_val (pe_callB (kIsi (K := K)) (by rfl) T.b_isinstance (by decide +kernel) (pa_cons (pv 0) (pa_cons (pe_bltn (v := .ty "tuple") (by rfl) T.b_tuple (by decide +kernel) rfl) pa_nil))))) (pw_or1 (pt_cmpR (kNe (K := K) hr.units) (pe_callB (kLen (K := K)) (by rfl) T.b_len (by decide +kernel) (pa_cons (pv 0) pa_nil)) pe_int (nomark _)))))
    (pss_one (ps_ret pe_bl))
    pss_nil)
    (pss_cons (ps_if (pt_not (pt_val (pe_callB (kAll (K := K) rfl) (by rfl) T.b_all (by decide +kernel) (pa_cons (pe_lc (own := [("_law_part", 1)]) rfl sc_l_is_ratio.nd (pi_tup (pv 0)) (blkOk_by (N := ["_law_thing", "_law_part"]) (sc := defScope s_l_is_ratio) (by decide +kernel)) (fun _ _ _ _ _ => (pg_name (i := 1) sc_l_is_ratio.nd rfl (by first | exact Or.inl rfl | exact Or.inr rfl))) (fun _ _ _ _ _ => pts_nil) (fun _ _ _ _ _ => (pe_and (pe_callB (kIsi (K := K)) (by rfl) T.b_isinstance (by decide +kernel) (pa_cons (pv 1) (pa_cons (pe_bltn (v := .ty "int") (by rfl) T.b_int (by decide +kernel) rfl) pa_nil))) (pe_one (pe_not (pe_callB (kIsi (K := K)) (by rfl) T.b_isinstance (by decide +kernel) (pa_cons (pv 1) (pa_cons (pe_bltn (v := .ty "bool") (by rfl) T.b_bool (by decide +kernel) rfl) pa_nil)))))))) pa_nil))))
    (pss_one (ps_ret pe_bl))
    pss_nil)
    (pss_one (ps_ret (pe_and (pe_cmpR op_gt (pe_ix (kIx (K := K)) (pv 0) pe_int (fun _ _ => rfl)) pe_int (nomark _)) (pe_one (pe_cmpR (kEq (K := K) hr.units) (pe_fn F_l_common hg (hr.mono (by decide)) (by rfl) pass0 (pa_cons (pe_ix (kIx (K := K)) (pv 0) pe_int (fun _ _ => rfl)) (pa_cons (pe_ix (kIx (K := K)) (pv 0) pe_int (fun _ _ => rfl)) pa_nil))) pe_int (nomark _))))))))), ?_⟩
  have fin : ∀ {b : Bool} {H' : Hp}, Ext a H H' → b = isRatD d → Q (.bl b) H' := fun {b H'} x e => by
    subst e
    exact k _ _ H' x (.bl _) ⟨d, rfl, rfl⟩
  refine q_if (σ := [some v, none]) (B := (· = intOrBool d)) (et_val (ev_isi (K := K) (ev_var rfl mv) ?_)) f (Same.refl _) (fun H1 x1 f1 e1 => ?_) (fun H1 x1 f1 e1 => ?_)
  · rintro _ rfl
    exact ⟨_, kit_int _, rfl⟩
  · have mv1 := mv.mono (x1.off f.mem)
    refine q_ret (K := K) (σ := [some v, none]) (C := (· = .bool (isRatD d))) (ev_notV (ev_isi (ev_var rfl mv1) ?_)) f1 (Same.refl _) ?_
    · intro z hz
      refine ⟨boolD d, by rw [hz]; exact kit_bool _, ?_⟩
      cases d <;> first | rfl | (simp [intOrBool] at e1; done)
    · rintro v2 _ H2 x2 m2 rfl
      exact k _ _ H2 (x1.trans x2) m2 ⟨d, rfl, rfl⟩
  have mv1 := mv.mono (x1.off f.mem)
  cases ht : tupD d with
  | false =>
    refine q_if (σ := [some v, none]) (B := (· = true)) (et_or (B1 := (· = true)) (et_not (B1 := (· = false)) (et_val (ev_isi (K := K) (ev_var rfl mv1) ?_)) ?_) ?_ fun _ => rfl) f1 (Same.refl _) (fun H2 x2 f2 e2 => ?_) (fun H2 x2 f2 e2 => ?_)
    · rintro _ rfl
      exact ⟨_, kit_tup _, ht⟩
    · rintro _ rfl
      rfl
    · intro h
      cases h
    · exact fin (x1.trans x2) (isRat_no e1.symm ht).symm
    · cases e2
  | true =>
    obtain ⟨es, rfl⟩ := tup_of ht
    have hlen := tame_tup tm
    refine q_if (σ := [some v, none]) (B := (· = !decide (((es.length : Nat) : Int) = 2))) (et_or (B1 := (· = false)) (et_not (B1 := (· = true)) (et_val (ev_isi (K := K) (ev_var rfl mv1) ?_)) ?_) (fun _ => et_test (ev_neI (K := K) (cI := (· = (es.length : Nat))) (cJ := (· = 2)) (ev_len (ev_var rfl mv1) ?_) (ev_isI ev_i rfl) ?_)) ?_) f1 (Same.refl _) (fun H2 x2 f2 e2 => ?_) (fun H2 x2 f2 e2 => ?_)
    · rintro _ rfl
      exact ⟨_, kit_tup _, rfl⟩
    · rintro _ rfl
      rfl
    · rintro _ rfl
      exact ⟨es.length, rfl, by omega, rfl⟩
    · rintro _ _ rfl rfl
      rfl
    · intro h
      cases h
    · refine fin (x1.trans x2) (isRat_len fun h => ?_).symm
      rw [h] at e2
      cases e2
    have h2 : es.length = 2 := by
      by_cases h : es.length = 2
      · exact h
      · have : ¬ (((es.length : Nat) : Int) = 2) := by omega
        rw [decide_eq_false this] at e2
        cases e2
    match es, h2 with
    | [x, y], h2' =>
      have mv2 := mv1.mono (x2.off f.mem)
      refine q_if (σ := [some v, none]) (B := (· = !(isIntD x && isIntD y))) (et_not (B1 := (· = (isIntD x && isIntD y))) (et_val (ev_all (K := K) (ev_lcT (Y := fun i z => (i = 0 → z = .bool (isIntD x)) ∧ (i = 1 → z = .bool (isIntD y))) rfl mv2 (by show 2 < 100000; decide) (fun _ => rfl) ?_) ?_)) ?_) f2 (Same.refl _) (fun H3 x3 f3 e3 => ?_) (fun H3 x3 f3 e3 => ?_)
      · intro i z e he mz
        refine (ev_isInteger (d := e) (ev_var rfl mz)).imp ?_
        rintro _ rfl
        constructor
        · rintro rfl
          injection he with he
          rw [he]
        · rintro rfl
          injection he with he
          rw [he]
      · rintro _ ⟨es', rfl, hl', hY⟩
        match es', hl' with
        | [p, q], _ =>
          have e0 := (hY 0 p rfl).1 rfl
          have e1' := (hY 1 q rfl).2 rfl
          subst e0
          subst e1'
          exact ⟨[isIntD x, isIntD y], rfl, by simp⟩
      · rintro _ rfl
        rfl
      · refine fin ((x1.trans x2).trans x3) (isRat_tup fun h => ?_).symm
        rw [h] at e3
        cases e3
      · have hxy : (isIntD x && isIntD y) = true := by
          cases h : (isIntD x && isIntD y)
          · rw [h] at e3
            cases e3
          · rfl
        rw [Bool.and_eq_true] at hxy
        obtain ⟨hx, hy⟩ := hxy
        obtain ⟨i, rfl⟩ := int_of hx
        obtain ⟨j, rfl⟩ := int_of hy
        have mv3 := mv2.mono (x3.off f.mem)
        have ex : Ev K a (off S H3) (tOp (rIx K) (tVar 0) (tC (.int 0))) [some v, none] (· = .int i) := ev_at (i := 0) (ds := [.int i, .int j]) ((ev_var rfl mv3).imp fun _ h => .inr h) ev_i rfl
        have ey : Ev K a (off S H3) (tOp (rIx K) (tVar 0) (tC (.int 1))) [some v, none] (· = .int j) := ev_at (i := 1) (ds := [.int i, .int j]) ((ev_var rfl mv3).imp fun _ h => .inr h) ev_i rfl
        refine q_ret (K := K) (σ := [some v, none]) (C := (· = .bool (isRatD (.tuple [.int i, .int j])))) (ev_andV (B := (· = decide (2 ≤ j))) (ev_cmpI (g := fun i j => decide (j < i)) (cI := (· = j)) (cJ := (· = 1)) (ev_isI ey rfl) (ev_isI ev_i rfl) ?_)
          (fun h => Ev.imp (ev_eqI (cB := (· = decide (Int.gcd i j = 1))) (cI := (· = (Int.gcd i j : Nat))) (cJ := (· = 1)) (Ev.imp (ev_callI (g := gcdP) ex ey ?_) ?_) (ev_isI ev_i rfl) ?_) ?_) ?_) f3 (Same.refl _) ?_
        · rintro _ _ rfl rfl
          congr 1
        · have := of_decide_eq_true h.symm
          omega
        · rintro _ rfl
          exact ⟨_, rfl, rfl⟩
        · rintro _ _ rfl rfl
          show decide ((Int.gcd i j : Int) = 1) = _
          congr 1
          apply propext
          omega
        · rintro _ ⟨b, rfl, rfl⟩
          show PyData.bool _ = PyData.bool (decide (2 ≤ j) && decide (Int.gcd i j = 1))
          rw [← h, Bool.true_and]
        · intro h
          show PyData.bool _ = PyData.bool (decide (2 ≤ j) && decide (Int.gcd i j = 1))
          rw [← h, Bool.false_and]
        · rintro v2 _ H4 x4 m4 rfl
          cases m4
          exact fin (((x1.trans x2).trans x3).trans x4) rfl
/-! ### numbers drawn -/
theorem ratio_rat {n d : Int} (h : d ≠ 0) : isRatD (ratioD n d) = true := by
  have key : ∀ t l : Int, 0 < l → isRatD (if l = ((Int.gcd t l : Nat) : Int) then .int (t / ((Int.gcd t l : Nat) : Int)) else .tuple [.int (t / ((Int.gcd t l : Nat) : Int)), .int (l / ((Int.gcd t l : Nat) : Int))]) = true := by
    intro t l hl
    have gp : 0 < Int.gcd t l := Int.gcd_pos_of_ne_zero_right t (by omega)
    split
    · rfl
    · rename_i hne
      show (decide (2 ≤ l / ((Int.gcd t l : Nat) : Int)) && decide (Int.gcd (t / ((Int.gcd t l : Nat) : Int)) (l / ((Int.gcd t l : Nat) : Int)) = 1)) = true
      rw [Bool.and_eq_true, decide_eq_true_eq, decide_eq_true_eq]
      refine ⟨?_, Int.gcd_ediv_gcd_ediv_gcd gp⟩
      obtain ⟨m, hm⟩ := Int.gcd_dvd_right t l
      have hg : (0 : Int) < ((Int.gcd t l : Nat) : Int) := by omega
      generalize ((Int.gcd t l : Nat) : Int) = g at *
      have e : l / g = m := by
        rw [hm]
        exact Int.mul_ediv_cancel_left _ (by omega)
      rw [e]
      have m0 : 0 < m := by
        rw [hm] at hl
        exact Int.lt_of_mul_lt_mul_left (a := g) (by rw [Int.mul_zero]; exact hl) (Int.le_of_lt hg)
      have m1 : m ≠ 1 := by
        rintro rfl
        rw [Int.mul_one] at hm
        exact hne hm
      omega
  unfold ratioD
  dsimp only
  by_cases hd : d < 0
  · simp only [if_pos hd]
    exact key _ _ (by omega)
  · simp only [if_neg hd]
    exact key _ _ (by omega)
theorem abs_div_le {x y : Int} : (x / y).natAbs ≤ x.natAbs := Int.natAbs_ediv_le_natAbs x y
theorem ratio_ints {n d : Int} (h : small2 n d) : intsB 200 (ratioD n d) := by
  obtain ⟨h0, h1, h2⟩ := h
  have e1 : (if d < 0 then -n else n).natAbs = n.natAbs := by
    split <;> omega
  have e2 : (if d < 0 then -d else d).natAbs = d.natAbs := by
    split <;> omega
  have key : ∀ t l p : Int, t.natAbs < 2 ^ 200 → l.natAbs < 2 ^ 200 → intsB 200 (if l = p then .int (t / p) else .tuple [.int (t / p), .int (l / p)]) := by
    intro t l p h1 h2
    split
    · exact Nat.lt_of_le_of_lt abs_div_le h1
    · exact ⟨Nat.lt_of_le_of_lt abs_div_le h1, Nat.lt_of_le_of_lt abs_div_le h2⟩
  unfold ratioD
  exact key _ _ _ (by rw [e1]; exact h1) (by rw [e2]; exact h2)
structure WV (d : PyData) : Prop where
  r : isRatD d = true
  b : intsB 200 d
theorem ok_l_worth {f : Addr} {fd : FuncData} (F : Fun K "_law_worth" "_law_worth" s_l_worth f fd) (T : Txt K mg c) (F_l_draw : DfD P w K mg base) (F_l_ratio : FRa P w K mg base) :
    FnG P w K mg base CX0 3 f fd ["_law_pot_here"] (spP K (fun ds => ds = []) (fun _ r => WV r)) := by
  refine fun_okG F sc_l_worth (fun vs H Q E h => spP_len (n := 0) (fun ds e => by rw [e]; rfl) h) (fun cdv A outer s H vs Q E hg hr h => ?_)
  obtain ⟨a, S, ws, ds, rfl, f, m, rfl, k⟩ := h
  cases m
  refine ⟨_, (pss_cons (ps_par (i := 1) (j := 2) (by rfl) sc_l_worth.nd rfl rfl (by decide) rfl rfl (pa_cons (pe_fn F_l_draw hg (hr.mono (by decide)) (by rfl) pass0 (pa_cons (pv 0) (pa_cons pe_int pa_nil))) (pa_cons (pe_op op_sub (pe_fn F_l_draw hg (hr.mono (by decide)) (by rfl) pass0 (pa_cons (pv 0) (pa_cons (pe_op op_pow pe_int pe_int) pa_nil))) (pe_op oMul pe_int (pe_op op_pow pe_int pe_int))) pa_nil)) (by rfl))
    (pss_cons (ps_if (pt_cmpR op_lt (pv 1) pe_int (nomark _))
    (pss_one (ps_ret (pe_ix (kIx (K := K)) (pe_lst (pa_cons pe_int (pa_cons pe_int (pa_cons (pe_un un_neg pe_int) (pa_cons (pe_tup (pa_cons pe_int (pa_cons pe_int pa_nil))) (pa_cons pe_int pa_nil)))))) (pv 1) (fun _ _ => rfl))))
    pss_nil)
    (pss_one (ps_ret (pe_fn F_l_ratio hg (hr.mono (by decide)) (by rfl) pass0 (pa_cons (pe_ix (kIx (K := K)) (pe_lst (pa_cons (pe_op op_sub (pe_op op_mod (pv 2) pe_int) pe_int) (pa_cons (pv 2) (pa_cons (pe_op (kAdd (K := K)) (pe_op oMul (pv 2) (pe_op op_pow pe_int pe_int)) pe_int) pa_nil)))) (pe_op op_sub (pv 1) pe_int) (fun _ _ => rfl)) (pa_cons (pe_ix (kIx (K := K)) (pe_lst (pa_cons (pe_op (kAdd (K := K)) pe_int (pe_op op_mod (pv 2) pe_int)) (pa_cons (pe_op (kAdd (K := K)) pe_int (pe_op op_mod (pv 2) pe_int)) (pa_cons pe_int pa_nil)))) (pe_op op_sub (pv 1) pe_int) (fun _ _ => rfl)) pa_nil))))))), ?_⟩
  refine q_par (K := K) (σ := [some (.ref a), none, none]) (C1 := IsI fun k => 0 ≤ k ∧ k < 8) (C2 := IsI fun k => k.natAbs ≤ 10 ^ 12) (ev_draw rfl ev_i (by decide) (by decide)) (ev_int20 (cI := fun i => 0 ≤ i ∧ i < 10 ^ 12) (cJ := (· = 5 * 10 ^ 11)) (ev_draw rfl (ev_powE ev_i ev_i ⟨by decide, by decide, by decide⟩) (by decide) (by decide)) (ev_mulI (cI := (· = 5)) (cJ := (· = 10 ^ 11)) (ev_isI ev_i rfl) (ev_isI (ev_powE ev_i ev_i ⟨by decide, by decide, by decide⟩) rfl) ?_) ?_) f (Same.refl _) ?_
  · rintro _ _ rfl rfl
    exact ⟨mulx_ok (a := 8) (b := 60) (by decide) (by decide) (by decide), rfl⟩
  · rintro i _ hi rfl
    omega
  rintro v1 v2 _ _ H1 x1 f1 m1 m2 ⟨way, rfl, w0, w8⟩ ⟨top, rfl, ht⟩
  cases m1
  cases m2
  refine q_if (σ := [some (.ref a), some (.int way), some (.int top)]) (B := (· = decide (way < 5))) (et_test (ev_cmpI (K := K) (g := fun i j => decide (i < j)) (cI := (· = way)) (cJ := (· = 5)) (ev_isI (ev_var rfl (.int way)) rfl) (ev_isI ev_i rfl) ?_)) f1 (Same.refl _) (fun H2 x2 f2 e2 => ?_) (fun H2 x2 f2 e2 => ?_)
  · rintro _ _ rfl rfl
    rfl
  · have w5 : way < 5 := of_decide_eq_true e2.symm
    refine q_ret (K := K) (σ := [some (.ref a), some (.int way), some (.int top)]) (C := WV) (Ev.imp (ev_pick (ds := [.int 0, .int 1, .int (-2), .tuple [.int 1, .int 2], .int 10]) (ev_lstE (ea_eq ev_i (ea_eq ev_i (ea_eq (ev_negE ev_i) (ea_eq (ev_tupE (ea_eq ev_i (ea_eq ev_i ea_nil)) (by show 2 ≤ 1000; decide)) (ea_eq ev_i ea_nil))))) (by show 5 ≤ 1000; decide)) (ev_isI (ev_var rfl (.int way)) ⟨w0, w5⟩)) ?_) f2 (Same.refl _) ?_
    · intro d hd
      simp only [List.mem_cons, List.not_mem_nil, or_false] at hd
      rcases hd with rfl | rfl | rfl | rfl | rfl
      · exact ⟨rfl, by show (0 : Int).natAbs < 2 ^ 200; decide⟩
      · exact ⟨rfl, by show (1 : Int).natAbs < 2 ^ 200; decide⟩
      · exact ⟨rfl, by show (-2 : Int).natAbs < 2 ^ 200; decide⟩
      · exact ⟨by decide +kernel, by show (1 : Int).natAbs < 2 ^ 200 ∧ (2 : Int).natAbs < 2 ^ 200; decide⟩
      · exact ⟨rfl, by show (10 : Int).natAbs < 2 ^ 200; decide⟩
    · intro v d H3 x3 m3 hd
      exact k v d H3 ((x1.trans x2).trans x3) m3 hd
  · have w5 : ¬ way < 5 := of_decide_eq_false e2.symm
    have et : ∀ {σ : L2.St} {G : Hp}, σ[2]? = some (some (.int top)) → Ev K a G (tVar 2) σ (IsI (· = top)) := fun h => ev_isI (ev_var h (.int top)) rfl
    have ew : ∀ {σ : L2.St} {G : Hp}, σ[1]? = some (some (.int way)) → Ev K a G (tOp (rI0 fun i j => .int (i - j)) (tVar 1) (tC (.int 5))) σ (IsI fun k => 0 ≤ k ∧ k < (3 : Nat)) := fun h => ev_int20 (cI := (· = way)) (cJ := (· = 5)) (ev_isI (ev_var h (.int way)) rfl) (ev_isI ev_i rfl) (by
      rintro _ _ rfl rfl
      omega)
    have emod : ∀ {σ : L2.St} {G : Hp} {n : Int}, σ[2]? = some (some (.int top)) → 0 < n → n < 10 ^ 6 → Ev K a G (tOp (rI (fun _ j => 0 < j) fun i j => .int (i % j)) (tVar 2) (tC (.int n))) σ (IsI fun k => 0 ≤ k ∧ k < 10 ^ 6) := fun {σ G n} h h0 h1 => ev_int2 (c := fun _ j => 0 < j) (g := fun i j => i % j) (cI := (· = top)) (cJ := (· = n)) (et h) (ev_isI ev_i rfl) (by
      intro i j hi hj
      have hi' : i = top := hi
      have hj' : j = n := hj
      rw [hi', hj']
      have a1 := Int.emod_nonneg top (show n ≠ 0 by omega)
      have a2 := Int.emod_lt_of_pos top h0
      refine ⟨h0, a1, ?_⟩
      omega)
    have l3 : ∀ {C : PyData → Prop} (ds : List PyData), (∃ d r, ds = d :: r ∧ C d ∧ ∃ d r', r = d :: r' ∧ C d ∧ ∃ d r'', r' = d :: r'' ∧ C d ∧ r'' = []) → ds.length = 3 ∧ ∀ z ∈ ds, C z := by
      rintro C ds ⟨d1, r1, rfl, h1, d2, r2, rfl, h2, d3, r3, rfl, h3, rfl⟩
      refine ⟨rfl, fun z m => ?_⟩
      simp only [List.mem_cons, List.not_mem_nil, or_false] at m
      rcases m with rfl | rfl | rfl <;> assumption
    have le3 : ∀ {C : PyData → Prop} (ds : List PyData), (∃ d r, ds = d :: r ∧ C d ∧ ∃ d r', r = d :: r' ∧ C d ∧ ∃ d r'', r' = d :: r'' ∧ C d ∧ r'' = []) → ds.length ≤ 1000 := fun ds h => by
      rw [(l3 ds h).1]
      decide
    refine q_ret (K := K) (σ := [some (.ref a), some (.int way), some (.int top)]) (C := WV) (ev_callG (A1 := fun ds => ∃ d r, ds = d :: r ∧ (IsI (fun i => i.natAbs < 2 ^ 200)) d ∧ ∃ d r', r = d :: r' ∧ (IsI (fun i => 1 ≤ i ∧ i < 10 ^ 7)) d ∧ r' = [])
      (ea_cons (ev_pickL (n := 3) (C := IsI fun i => i.natAbs < 2 ^ 200) (ev_lst (ea_cons (C := IsI fun i => i.natAbs < 2 ^ 200) (ev_int20 (cI := fun k => 0 ≤ k ∧ k < 10 ^ 6) (cJ := (· = 20)) (emod rfl (by decide) (by decide)) (ev_isI ev_i rfl) ?_) (ea_cons (C := IsI fun i => i.natAbs < 2 ^ 200) (Ev.imp (et rfl) ?_) (ea_cons (C := IsI fun i => i.natAbs < 2 ^ 200) (ev_addI (cI := fun i => i.natAbs ≤ 10 ^ 29) (cJ := (· = 1)) (ev_mulI (cI := (· = top)) (cJ := (· = 10 ^ 17)) (et rfl) (ev_isI (ev_powE ev_i ev_i ⟨by decide, by decide, by decide⟩) rfl) ?_) (ev_isI ev_i rfl) ?_) ea_nil))) le3) (ew rfl) l3)
        (ea_cons (ev_pickL (n := 3) (C := IsI fun i => 1 ≤ i ∧ i < 10 ^ 7) (ev_lst (ea_cons (C := IsI fun i => 1 ≤ i ∧ i < 10 ^ 7) (ev_addI (cI := (· = 1)) (cJ := fun k => 0 ≤ k ∧ k < 10 ^ 6) (ev_isI ev_i rfl) (emod rfl (by decide) (by decide)) ?_) (ea_cons (C := IsI fun i => 1 ≤ i ∧ i < 10 ^ 7) (ev_addI (cI := (· = 1)) (cJ := fun k => 0 ≤ k ∧ k < 10 ^ 6) (ev_isI ev_i rfl) (emod rfl (by decide) (by decide)) ?_) (ea_cons (C := IsI fun i => 1 ≤ i ∧ i < 10 ^ 7) (ev_isI ev_i (by decide)) ea_nil))) le3) (ew rfl) l3) ea_nil)) ?_ ?_) f2 (Same.refl _) ?_
    · rintro i _ hi rfl
      have h1 : (i - 20).natAbs < 10 ^ 7 := by omega
      exact Nat.lt_trans h1 (by decide)
    · rintro _ ⟨i, rfl, rfl⟩
      exact ⟨_, rfl, Nat.lt_of_le_of_lt ht (by decide)⟩
    · rintro i j hi hj
      have hi' : i = top := hi
      have hj' : j = 10 ^ 17 := hj
      rw [hi', hj']
      refine ⟨mulx_ok (a := 60) (b := 60) (Nat.lt_of_le_of_lt ht (by decide)) (by decide) (by decide), ?_⟩
      rw [Int.natAbs_mul]
      have z := Nat.mul_le_mul ht (show ((10 : Int) ^ 17).natAbs ≤ 10 ^ 17 by decide)
      have e : (10 : Nat) ^ 12 * 10 ^ 17 = 10 ^ 29 := by decide
      rw [e] at z
      exact z
    · rintro i _ hi rfl
      have h1 : (i + 1).natAbs ≤ 10 ^ 29 + 1 := by omega
      exact Nat.lt_of_le_of_lt h1 (by decide)
    · rintro _ j rfl hj
      omega
    · rintro _ j rfl hj
      omega
    · rintro _ ⟨_, _, rfl, ⟨i, rfl, hi⟩, _, _, rfl, ⟨j, rfl, hj⟩, rfl⟩
      refine ⟨i, j, rfl, by omega, hi, ?_⟩
      have h1 : j.natAbs < 10 ^ 7 := by omega
      exact Nat.lt_trans h1 (by decide)
    · rintro _ r ⟨_, _, rfl, ⟨i, rfl, hi⟩, _, _, rfl, ⟨j, rfl, hj⟩, rfl⟩ ⟨x, y, e, rfl⟩
      injection e with e1 e
      injection e with e2 _
      injection e1 with e1
      injection e2 with e2
      subst e1
      subst e2
      have h1 : j.natAbs < 10 ^ 7 := by omega
      exact ⟨ratio_rat (by omega), ratio_ints ⟨by omega, hi, Nat.lt_trans h1 (by decide)⟩⟩
    · intro v d H3 x3 m3 hd
      exact k v d H3 ((x1.trans x2).trans x3) m3 hd
end
end K14
--NEVER law _law_right _law_parsed _law_refused
set_option Elab.async false
set_option linter.all false
set_option maxRecDepth 100000
set_option maxHeartbeats 4000000
set_option exponentiation.threshold 2000
namespace K14
open PySem PySem.Spec L2 LK
open PyProof.Rows hiding St
open TL (tl numL)
open NumText (digitsVal AllDigits)
section
variable {P : Program} {w : World} {K : PySem.W.Frag} {mg : Str → Option Value} {c : Cls} {base : Heap} {a : Addr} {G : Hp} {S : List Addr} {H : Hp}
/-! ### written -/
theorem len_app (x y : Str) : (x ++ y).length = x.length + y.length := by rw [TL.len_tl, TL.tl_append, List.length_append, ← TL.len_tl, ← TL.len_tl]
theorem ok_l_written {f : Addr} {fd : FuncData} (F : Fun K "_law_written" "_law_written" s_l_written f fd) (T : Txt K mg c) :
    FnG P w K mg base CX0 1 f fd ["_law_thing"] (spG K (fun ds => ∃ d, ds = [d] ∧ isRatD d = true ∧ intsB 1000 d) (post1 fun d => .str (writtenD d))) := by
  refine fun_okG F sc_l_written (fun vs H Q E h => spG_len (n := 1) (fun ds ⟨d, e, _⟩ => by rw [e]; rfl) h) (fun cdv A outer s H vs Q E hg hr h => ?_)
  obtain ⟨a, S, ds, f, m, ⟨d, rfl, hr', bd⟩, k⟩ := h
  obtain ⟨v, rfl, mv⟩ := DA.one m
  refine ⟨_, (pss_one (ps_ret (pe_ifExp (pt_val (pe_callB (kIsi (K := K)) (by rfl) T.b_isinstance (by decide +kernel) (pa_cons (pv 0) (pa_cons (pe_bltn (v := .ty "tuple") (by rfl) T.b_tuple (by decide +kernel) rfl) pa_nil)))) (pe_op (kAdd (K := K)) (pe_op (kAdd (K := K)) (pe_callTy call_str_int (by rfl) T.b_str (by decide +kernel) (pa_cons (pe_ix (kIx (K := K)) (pv 0) pe_int (fun _ _ => rfl)) pa_nil)) pe_str) (pe_callTy call_str_int (by rfl) T.b_str (by decide +kernel) (pa_cons (pe_ix (kIx (K := K)) (pv 0) pe_int (fun _ _ => rfl)) pa_nil))) (pe_callTy call_str_int (by rfl) T.b_str (by decide +kernel) (pa_cons (pv 0) pa_nil))))), ?_⟩
  refine q_ret (K := K) (σ := [some v]) (C := (· = .str (writtenD d))) ?_ f (Same.refl _) ?_
  · rcases rat_cases hr' with ⟨i, rfl⟩ | ⟨i, j, rfl, _⟩
    · refine ev_if (B := (· = false)) (et_val (ev_isi (ev_var rfl mv) ?_)) (fun h => absurd h (by decide)) (fun _ => ev_strI (i := i) (ev_var rfl mv) (up_big bd))
      rintro _ rfl
      exact ⟨_, kit_tup _, rfl⟩
    · have bi : i.natAbs < 2 ^ 1000 ∧ j.natAbs < 2 ^ 1000 := bd
      have l1 := text_len bi.1
      have l2 := text_len bi.2
      have sl : slash.length = 1 := by decide +kernel
      refine ev_if (B := (· = true)) (et_val (ev_isi (ev_var rfl mv) ?_)) (fun _ => ev_catS (x := Str.ofString (toString i) ++ slash) (y := Str.ofString (toString j)) (ev_catS (x := Str.ofString (toString i)) (y := slash) (ev_strI (i := i) (ev_at (i := 0) (ds := [.int i, .int j]) (Ev.imp (ev_var rfl mv) fun _ h => .inr h) ev_i rfl) (up_big bi.1)) ev_s (by omega))
        (ev_strI (i := j) (ev_at (i := 1) (ds := [.int i, .int j]) (Ev.imp (ev_var rfl mv) fun _ h => .inr h) ev_i rfl) (up_big bi.2)) ?_) (fun h => absurd h (by decide))
      · rintro _ rfl
        exact ⟨_, kit_tup _, rfl⟩
      · rw [len_app]
        omega
  · rintro v2 _ H' x m2 rfl
    exact k _ _ H' x m2 ⟨d, rfl, rfl⟩
/-! ### plain words -/
def plainB (b : Bool) (l : List Nat) : Bool := if b then (parseL l).isSome else decB l
def preW (ds : List PyData) : Prop := ∃ (x : Str) (b : Bool), ds = [.str x, .bool b] ∧ x.length ≤ 600
def postW (ds : List PyData) (r : PyData) : Prop := ∃ (x : Str) (b : Bool), ds = [.str x, .bool b] ∧ r = .bool (plainB b (tl x))
theorem plain_no {b : Bool} {l L : List Nat} (hL : L = if b = true then restL l else l) (h : (!(L == []) && allDig L) = false) : plainB b l = false := by
  have e : decB L = false := by
    unfold decB
    rw [h]
    rfl
  unfold plainB
  cases b with
  | false =>
    rw [if_neg Bool.false_ne_true] at hL
    rw [← hL, e]
    rfl
  | true =>
    rw [if_pos rfl] at hL
    rw [if_pos rfl]
    unfold parseL
    rw [← hL, e]
    rfl
theorem plain_yes {b : Bool} {l L : List Nat} (hL : L = if b = true then restL l else l) (h : (!(L == []) && allDig L) = true) : plainB b l = ((L == [48] && l == [48]) || !(L.head? == some 48)) := by
  have e : decB L = canon L := by
    unfold decB
    rw [h, Bool.true_and]
  have c48 : ∀ M : List Nat, canon M = ((M == [48] && M == [48]) || !(M.head? == some 48)) := fun M => by
    unfold canon
    rw [Bool.and_self]
  unfold plainB
  cases b with
  | false =>
    rw [if_neg Bool.false_ne_true] at hL
    rw [if_neg Bool.false_ne_true, ← hL, e]
    exact c48 L
  | true =>
    rw [if_pos rfl] at hL
    rw [if_pos rfl]
    have ps : (parseL l).isSome = (canon L && !(l == [45, 48])) := by
      unfold parseL
      rw [← hL, e]
      cases (canon L && !(l == [45, 48])) <;> rfl
    rw [ps]
    by_cases m : l.take 1 = [45]
    · have r : L = l.drop 1 := by
        rw [hL]
        exact if_pos m
      have l2 : l = 45 :: L := by
        have := List.take_append_drop 1 l
        rw [m, ← r] at this
        exact this.symm
      have n1 : (l == [48]) = false := by
        rw [l2]
        apply Bool.eq_false_iff.mpr
        intro z
        have z2 := beq_iff_eq.mp z
        injection z2 with z2 _
        cases z2
      have n2 : (l == [45, 48]) = (L == [48]) := by
        rw [l2, Bool.eq_iff_iff, beq_iff_eq, beq_iff_eq]
        constructor
        · intro z
          injection z
        · intro z
          rw [z]
      rw [n1, n2, Bool.and_false, Bool.false_or]
      unfold canon
      cases h48 : (L == [48])
      · simp
      · rw [beq_iff_eq.mp h48]
        rfl
    · have r : L = l := by
        rw [hL]
        exact if_neg m
      have n2 : (l == [45, 48]) = false := by
        apply Bool.eq_false_iff.mpr
        intro z
        exact m (by rw [beq_iff_eq.mp z]; rfl)
      rw [n2, r]
      simp only [Bool.not_false, Bool.and_true]
      exact c48 l
theorem ok_l_is_plain {f : Addr} {fd : FuncData} (F : Fun K "_law_is_plain" "_law_is_plain" s_l_is_plain f fd) (T : Txt K mg c) : FnG P w K mg base CX0 1 f fd ["_law_word", "_law_is_signed"] (spG K preW postW) := by
  refine fun_okG F sc_l_is_plain (fun vs H Q E h => spG_len (n := 2) (fun ds ⟨x, b, e, _⟩ => by rw [e]; rfl) h) (fun cdv A outer s H vs Q E hg hr h => ?_)
  obtain ⟨a, S, ds, f, m, ⟨x, b, rfl, hx⟩, k⟩ := h
  obtain ⟨v1, v2, rfl, m1, m2⟩ := DA.two m
  cases m1
  cases m2
  refine ⟨_, (pss_cons (ps_set (i := 2) sc_l_is_plain.nd rfl (by first | exact Or.inl rfl | exact Or.inr rfl) (pe_ifExp (PW.pt (pw_and (pt_val (pv 1)) (pw_and1 (pt_cmpR (kEq (K := K) hr.units) (pe_slice sl_str (pv 0) po_none (po_some pe_int)) pe_str (nomark _))))) (pe_slice sl_str (pv 0) (po_some pe_int) po_none) (pv 0)))
    (pss_cons (ps_if (PW.pt (pw_or (pt_cmpR (kEq (K := K) hr.units) (pv 2) pe_str (nomark _)) (pw_or1 (pt_not (pt_val (pe_callB (kAll (K := K) rfl) (by rfl) T.b_all (by decide +kernel) (pa_cons (pe_lc (own := [("_law_sign", 3)]) rfl sc_l_is_plain.nd (pi_str (pv 2)) (blkOk_by (N := ["_law_word", "_law_is_signed", "_law_rest", "_law_sign"]) (sc := defScope s_l_is_plain) (by decide +kernel)) (fun _ _ _ _ _ => (pg_name (i := 3) sc_l_is_plain.nd rfl (by first | exact Or.inl rfl | exact Or.inr rfl))) (fun _ _ _ _ _ => pts_nil) (fun _ _ _ _ _ => (pe_cmpR (kIn (K := K)) (pv 3) pe_str (by rfl)))) pa_nil)))))))
    (pss_one (ps_ret pe_bl))
    pss_nil)
    (pss_one (ps_ret (pe_or (pe_and (pe_cmpR (kEq (K := K) hr.units) (pv 2) pe_str (nomark _)) (pe_one (pe_cmpR (kEq (K := K) hr.units) (pv 0) pe_str (nomark _)))) (pe_one (pe_cmpR (kNe (K := K) hr.units) (pe_ix (kIx (K := K)) (pv 2) pe_int (fun _ _ => rfl)) pe_str (nomark _)))))))), ?_⟩
  have fin : ∀ {v : V} {r : PyData} {H' : Hp}, Ext a H H' → D K (off S H') v r → r = .bool (plainB b (tl x)) → Q v H' := fun {v r H'} y m e => k _ _ H' y m ⟨x, b, rfl, e⟩
  obtain ⟨y, ey, ly, hy⟩ : ∃ y : Str, (tl y = if b = true then restL (tl x) else tl x) ∧ y.length ≤ x.length ∧ (if (b && (tl x).take 1 == [45]) = true then y = cutS x (some 1) none else y = x) := by
    cases b with
    | false => exact ⟨x, rfl, Nat.le_refl _, rfl⟩
    | true =>
      obtain ⟨y, h1, h2, h3⟩ := rest_tl x
      refine ⟨y, by rw [h2]; rfl, h3, ?_⟩
      by_cases h : (tl x).take 1 = [45]
      · rw [if_pos h] at h1
        have e : (true && (tl x).take 1 == [45]) = true := by simpa using h
        rw [if_pos e]
        exact h1
      · rw [if_neg h] at h1
        have e : ¬ (true && (tl x).take 1 == [45]) = true := by simpa using h
        rw [if_neg e]
        exact h1
  refine q_set (K := K) (σ := [some (.str x), some (.bl b), none, none]) (C := (· = .str y)) (ev_if (B := (· = (b && (tl x).take 1 == [45]))) (et_and (B1 := (· = b)) (et_val (K := K) (Ev.imp (ev_var rfl (.bl b)) ?_)) (fun h => et_test (Ev.imp (ev_eqS (ev_slT (C := (· = .str (cutS x none (some 1)))) (cI := (· = 1)) (ev_var rfl (.str x)) (ev_isI ev_i rfl) (by omega) ?_) ev_s) ?_)) ?_)
    (fun h => ev_slF (cI := (· = 1)) (ev_var rfl (.str x)) (ev_isI ev_i rfl) (by omega) ?_) (fun h => Ev.imp (ev_var rfl (.str x)) ?_)) f (Same.refl _) ?_
  · rintro _ rfl
    exact ⟨_, rfl, rfl⟩
  · rintro _ rfl
    rfl
  · rintro _ rfl
    refine ⟨_, rfl, ?_⟩
    rw [dash, tl_cutT1, ← h, Bool.true_and]
  · intro h
    rw [← h, Bool.false_and]
  · rintro _ rfl
    rw [if_pos h.symm] at hy
    rw [hy]
  · rintro _ rfl
    rw [if_neg (by rw [← h]; exact Bool.false_ne_true)] at hy
    rw [hy]
  rintro _ _ H1 x1 f1 mm rfl
  cases mm
  refine q_if (σ := [some (.str x), some (.bl b), some (.str y), none]) (B := (· = !(!(tl y == []) && allDig (tl y)))) (et_or (B1 := (· = (tl y == []))) (et_test (Ev.imp (ev_eqS (K := K) (ev_var rfl (.str y)) ev_s) ?_)) (fun h => et_not (B1 := (· = allDig (tl y))) (et_val (Ev.imp (ev_allIn (K := K) (z := digs) (ev_var rfl (.str y)) (fun v => ev_s) (by omega) (fun _ => rfl) (fun _ => rfl)) ?_)) ?_) ?_) f1 (Same.refl _) (fun H2 x2 f2 e2 => ?_) (fun H2 x2 f2 e2 => ?_)
  · rintro _ rfl
    refine ⟨_, rfl, ?_⟩
    rw [str_eq]
    rfl
  · rintro _ rfl
    exact ⟨_, rfl, all_digs y⟩
  · rintro _ rfl
    rw [← h]
    rfl
  · intro h
    rw [← h]
    rfl
  · have hd : (!(tl y == []) && allDig (tl y)) = false := by
      cases h : (!(tl y == []) && allDig (tl y))
      · rfl
      · rw [h] at e2
        cases e2
    refine q_ret (K := K) (σ := [some (.str x), some (.bl b), some (.str y), none]) ev_b f2 (Same.refl _) ?_
    rintro v _ H3 x3 mv rfl
    exact fin ((x1.trans x2).trans x3) mv (by rw [plain_no ey hd])
  · have hd : (!(tl y == []) && allDig (tl y)) = true := by
      cases h : (!(tl y == []) && allDig (tl y))
      · rw [h] at e2
        cases e2
      · rfl
    have hne : tl y ≠ [] := by
      rw [Bool.and_eq_true] at hd
      simpa using hd.1
    obtain ⟨hc, hr', he⟩ : ∃ hc hr', tl y = hc :: hr' := by
      cases h : tl y with
      | nil => exact absurd h hne
      | cons z r => exact ⟨z, r, rfl⟩
    have e48 : tl ("0" : Str) = [48] := by decide +kernel
    refine q_ret (K := K) (σ := [some (.str x), some (.bl b), some (.str y), none]) (C := (· = .bool ((tl y == [48] && tl x == [48]) || !((tl y).head? == some 48)))) (ev_orV (B := (· = (tl y == [48] && tl x == [48]))) (ev_andV (B := (· = (tl y == [48]))) (Ev.imp (ev_eqS (ev_var rfl (.str y)) ev_s) ?_) (fun h => Ev.imp (ev_eqS (ev_var rfl (.str x)) ev_s) ?_) ?_)
      (fun h => Ev.imp (ev_neS (x := ⟨#[hc]⟩) (ev_ixS (cI := (· = 0)) (ev_var rfl (.str y)) (ev_isI ev_i rfl) (by omega) ?_) ev_s) ?_) ?_) f2 (Same.refl _) ?_
    · rintro _ rfl
      refine ⟨_, rfl, ?_⟩
      rw [str_eq, e48]
    · rintro _ rfl
      refine ⟨_, rfl, ?_⟩
      rw [str_eq, e48, ← h, Bool.true_and]
    · intro h
      refine ⟨_, rfl, ?_⟩
      rw [← h, Bool.false_and]
    · rintro _ rfl
      refine ⟨hc, ?_, rfl⟩
      show atI (tl y) 0 = some hc
      rw [he]
      exact atI_nat (j := 0) rfl
    · rintro _ rfl
      rw [← h, Bool.false_or, str_eq, e48, he]
      congr 1
      rw [Bool.eq_iff_iff]
      show (!([hc] == [48])) = true ↔ (!((hc :: hr').head? == some 48)) = true
      simp
    · intro h
      rw [← h, Bool.true_or]
    · rintro v _ H3 x3 mv rfl
      exact fin ((x1.trans x2).trans x3) mv (by rw [plain_yes ey hd])
end
end K14
--NEVER law _law_right _law_parsed _law_refused
set_option Elab.async false
set_option linter.all false
set_option maxRecDepth 100000
set_option maxHeartbeats 4000000
set_option exponentiation.threshold 2000
namespace K14
open PySem PySem.Spec L2 LK
open PyProof.Rows hiding St
open TL (tl numL)
open NumText (digitsVal AllDigits)
def outT : PyData ⊕ Int → PyData
  | .inl r => r
  | .inr n => .list [.str "refused", .int n, .bool true]
def dueT (d : PyData) : PyData := outT (resN d)
theorem due_in {d : PyData} {r : PyData} (h : resN d = .inl r) : dueT d = r := by
  unfold dueT
  rw [h]
  rfl
theorem due_no {d : PyData} {n : Int} (h : resN d = .inr n) : dueT d = .list [.str "refused", .int n, .bool true] := by
  unfold dueT
  rw [h]
  rfl
section
variable {P : Program} {w : World} {K : PySem.W.Frag} {mg : Str → Option Value} {c : Cls} {base : Heap} {a : Addr} {G : Hp} {S : List Addr} {H : Hp}
abbrev FIR (P : Program) (w : World) (K : PySem.W.Frag) (mg : Str → Option Value) (base : Heap) : Prop := Df P w K mg base CX0 2 "_law_is_ratio" ["_law_thing"] (spG K preT (post1 fun d => .bool (isRatD d)))
abbrev FPl (P : Program) (w : World) (K : PySem.W.Frag) (mg : Str → Option Value) (base : Heap) : Prop := Df P w K mg base CX0 1 "_law_is_plain" ["_law_word", "_law_is_signed"] (spG K preW postW)
theorem ev_plain {σ : L2.St} {ta tb : TE} {x : Str} {b : Bool} {E : XK} (ha : Ev K a G ta σ (· = .str x)) (hb : Ev K a G tb σ (· = .bool b)) (hl : x.length ≤ 600) : Ev K a G (tCall (spG K preW postW) [] E (tCons ta (tCons tb tNil))) σ (· = .bool (plainB b (tl x))) := by
  refine ev_callG (ea_eq ha (ea_eq hb ea_nil)) ?_ ?_
  · rintro _ rfl
    exact ⟨x, b, rfl, hl⟩
  · rintro _ r rfl ⟨x', b', e, rfl⟩
    injection e with e1 e
    injection e with e2 _
    injection e1 with e1
    injection e2 with e2
    rw [e1, e2]
def preX (ds : List PyData) : Prop := ∃ d, ds = [d] ∧ ∀ x, d = .str x → x.length ≤ 200
theorem pair_tame {t n : Int} (ht : t.natAbs < 2 ^ 700) (hn : n.natAbs < 2 ^ 700) : Tame (.tuple [.int t, .int n]) := by
  have big : (2 : Nat) ^ 700 ≤ 2 ^ 1000 := Nat.pow_le_pow_right (by decide) (by decide)
  refine Sz.tame (n := 2 * 1) (k := 1) (Sz.tup (n := 0) (k := 0) (ds := [.int t, .int n]) fun z m => ?_)
  simp only [List.mem_cons, List.not_mem_nil, or_false] at m
  rcases m with rfl | rfl
  · exact sz_int (Nat.lt_of_lt_of_le ht big)
  · exact sz_int (Nat.lt_of_lt_of_le hn big)
theorem ok_l_due {f : Addr} {fd : FuncData} (F : Fun K "_law_due" "_law_due" s_l_due f fd) (T : Txt K mg c) (F_l_is_plain : FPl P w K mg base) (F_l_is_ratio : FIR P w K mg base) :
    FnG P w K mg base CX0 3 f fd ["_law_words"] (spG K preX (post1 dueT)) := by
  refine fun_okG F sc_l_due (fun vs H Q E h => spG_len (n := 1) (fun ds ⟨d, e, _⟩ => by rw [e]; rfl) h) (fun cdv A outer s H vs Q E hg hr h => ?_)
  obtain ⟨a, S, ds, f, m, ⟨d, rfl, hd⟩, k⟩ := h
  obtain ⟨v, rfl, mv⟩ := DA.one m
  refine ⟨_, (pss_cons (ps_if (pt_not (pt_val (pe_callB (kIsi (K := K)) (by rfl) T.b_isinstance (by decide +kernel) (pa_cons (pv 0) (pa_cons (pe_bltn (v := .ty "str") (by rfl) T.b_str (by decide +kernel) rfl) pa_nil)))))
    (pss_one (ps_ret (pe_lst (pa_cons pe_str (pa_cons pe_int (pa_cons pe_bl pa_nil))))))
    pss_nil)
    (pss_cons (ps_set (i := 1) sc_l_due.nd rfl (by first | exact Or.inl rfl | exact Or.inr rfl) (pe_split (pv 0) pe_str))
    (pss_cons (ps_if (PW.pt (pw_or (pt_cmpR op_gt (pe_callB (kLen (K := K)) (by rfl) T.b_len (by decide +kernel) (pa_cons (pv 1) pa_nil)) pe_int (nomark _)) (pw_or (pt_not (pt_val (pe_fn F_l_is_plain hg (hr.mono (by decide)) (by rfl) pass0 (pa_cons (pe_ix (kIx (K := K)) (pv 1) pe_int (fun _ _ => rfl)) (pa_cons pe_bl pa_nil))))) (pw_or1 (pt_not (pt_val (pe_fn F_l_is_plain hg (hr.mono (by decide)) (by rfl) pass0 (pa_cons (pe_ix (kIx (K := K)) (pv 1) (pe_un un_neg pe_int) (fun _ _ => rfl)) (pa_cons (pe_cmpR (kEq (K := K) hr.units) (pe_callB (kLen (K := K)) (by rfl) T.b_len (by decide +kernel) (pa_cons (pv 1) pa_nil)) pe_int (nomark _)) pa_nil)))))))))
    (pss_one (ps_ret (pe_lst (pa_cons pe_str (pa_cons pe_int (pa_cons pe_bl pa_nil))))))
    pss_nil)
    (pss_cons (ps_set (i := 2) sc_l_due.nd rfl (by first | exact Or.inl rfl | exact Or.inr rfl) (pe_ifExp (pt_cmpR (kEq (K := K) hr.units) (pe_callB (kLen (K := K)) (by rfl) T.b_len (by decide +kernel) (pa_cons (pv 1) pa_nil)) pe_int (nomark _)) (pe_tup (pa_cons (pe_callTy call_int_str (by rfl) T.b_int (by decide +kernel) (pa_cons (pe_ix (kIx (K := K)) (pv 1) pe_int (fun _ _ => rfl)) pa_nil)) (pa_cons (pe_callTy call_int_str (by rfl) T.b_int (by decide +kernel) (pa_cons (pe_ix (kIx (K := K)) (pv 1) pe_int (fun _ _ => rfl)) pa_nil)) pa_nil))) (pe_callTy call_int_str (by rfl) T.b_int (by decide +kernel) (pa_cons (pe_ix (kIx (K := K)) (pv 1) pe_int (fun _ _ => rfl)) pa_nil))))
    (pss_one (ps_ret (pe_ifExp (pt_val (pe_fn F_l_is_ratio hg (hr.mono (by decide)) (by rfl) pass0 (pa_cons (pv 2) pa_nil))) (pv 2) (pe_lst (pa_cons pe_str (pa_cons pe_int (pa_cons pe_bl pa_nil))))))))))), ?_⟩
  have fin : ∀ {v : V} {r : PyData} {H' : Hp}, Ext a H H' → D K (off S H') v r → r = dueT d → Q v H' := fun {v r H'} y m e => k _ _ H' y m ⟨d, rfl, e⟩
  have bad : ∀ {σ : L2.St} {H1 : Hp} {n : Int} {Dn : Ends}, Dn.rt = Q → Ext a H H1 → LK.Fr a S H1 → resN d = .inr n → tRet (tLst (tCons (tC (.str "refused")) (tCons (tC (.int n)) (tCons (tC (.bl true)) tNil)))) Dn σ H1 := by
    intro σ H1 n Dn hD x1 f1 e
    refine q_ret (K := K) (ev_lstE (ea_eq ev_s (ea_eq ev_i (ea_eq ev_b ea_nil))) (by show 3 ≤ 1000; decide)) f1 (Same.refl _) ?_
    rintro v z H2 x2 mv hz
    rw [hD]
    exact fin (x1.trans x2) mv (by rw [hz, due_no e])
  refine q_if (σ := [some v, none, none]) (B := (· = !strD d)) (et_not (B1 := (· = strD d)) (et_val (ev_isi (K := K) (ev_var rfl mv) ?_)) ?_) f (Same.refl _) (fun H1 x1 f1 e1 => ?_) (fun H1 x1 f1 e1 => ?_)
  · rintro _ rfl
    exact ⟨_, kit_str _, rfl⟩
  · rintro _ rfl
    rfl
  · refine bad rfl x1 f1 (res_no ?_)
    cases h : strD d
    · rfl
    · rw [h] at e1
      cases e1
  have e : strD d = true := by
    cases h : strD d
    · rw [h] at e1
      cases e1
    · rfl
  obtain ⟨x, rfl⟩ := str_of e
  have hx : x.length ≤ 200 := hd x rfl
  have mv1 := mv.mono (x1.off f.mem)
  cases mv1
  refine q_set (K := K) (σ := [some (.str x), none, none]) (ev_split (y := slash) (ev_var rfl (.str x)) (by decide +kernel) (by omega)) f1 (Same.refl _) ?_
  rintro v2 _ H2 x2 f2 m2 rfl
  have slen : (Txt.split x slash).length ≤ 201 := Nat.le_trans (split_len x) (by omega)
  have x12 := x1.trans x2
  have elen : ∀ {σ : L2.St} {G : Hp}, σ[1]? = some (some v2) → D K G v2 (.list ((Txt.split x slash).map .str)) → Ev K a G (tCB (rLenA K) (tCons (tVar 1) tNil)) σ (IsI (· = ((Txt.split x slash).length : Nat))) := fun h m => ev_len (ev_var h m) (by
    rintro _ rfl
    exact ⟨(Txt.split x slash).length, by simp [lenD], by omega, rfl⟩)
  have gt2 : ∀ {σ : L2.St} {G : Hp}, σ[1]? = some (some v2) → D K G v2 (.list ((Txt.split x slash).map .str)) → EvT a G (tTest (tOp (rI0 fun i j => .bl (decide (j < i))) (tCB (rLenA K) (tCons (tVar 1) tNil)) (tC (.int 2)))) σ (· = decide (2 < (Txt.split x slash).length)) := fun h m => et_test (ev_cmpI (K := K) (g := fun i j => decide (j < i)) (cJ := (· = 2)) (elen h m) (ev_isI ev_i rfl) (by
    rintro _ _ rfl rfl
    rw [Bool.eq_iff_iff, decide_eq_true_eq, decide_eq_true_eq]
    omega))
  have eqn : ∀ {σ : L2.St} {G : Hp} {n : Nat}, σ[1]? = some (some v2) → D K G v2 (.list ((Txt.split x slash).map .str)) → Ev K a G (tOp (rEqA K) (tCB (rLenA K) (tCons (tVar 1) tNil)) (tC (.int (n : Int)))) σ (IsB (· = decide ((Txt.split x slash).length = n))) := fun {σ G n} h m => ev_eqI (K := K) (cJ := (· = (n : Int))) (elen h m) (ev_isI ev_i rfl) (by
    intro i j hi hj
    have hi' : i = ((Txt.split x slash).length : Int) := hi
    have hj' : j = (n : Int) := hj
    rw [hi', hj', Bool.eq_iff_iff, decide_eq_true_eq, decide_eq_true_eq]
    omega)
  match hs : Txt.split x slash, m2 with
  | [], _ => exact absurd hs (split_ne x)
  | [p], m2 =>
    have pl : p.length ≤ 200 := Nat.le_trans (split_head hs) hx
    have pn : parseN x = (parseL (tl p)).map .int := by
      unfold parseN
      rw [hs]
      rfl
    have m2' : D K (off S H2) v2 (.list ((Txt.split x slash).map .str)) := by
      rw [hs]
      exact m2
    have p0 : ∀ {G : Hp}, D K G v2 (.list [.str p]) → Ev K a G (tOp (rIx K) (tVar 1) (tC (.int 0))) [some (.str x), some v2, none] (· = .str p) := fun m => ev_part (parts := [p]) (k := 0) rfl m rfl ev_i
    have pm : ∀ {G : Hp}, D K G v2 (.list [.str p]) → Ev K a G (tOp (rIx K) (tVar 1) (tUn (rU fun i => .int (-i)) (tC (.int 1)))) [some (.str x), some v2, none] (· = .str p) := fun m => ev_part (parts := [p]) (k := -1) rfl m rfl (ev_negE ev_i)
    refine q_if (σ := [some (.str x), some v2, none]) (B := (· = !(parseL (tl p)).isSome)) (et_or (B1 := (· = false)) (EvT.imp (gt2 rfl m2') ?_) (fun _ => et_or (B1 := (· = !(parseL (tl p)).isSome)) (et_not (B1 := (· = (parseL (tl p)).isSome)) (et_val (Ev.imp (ev_plain (K := K) (b := true) (p0 m2) ev_b (by omega)) ?_)) ?_) (fun h => et_not (B1 := (· = (parseL (tl p)).isSome)) (et_val (Ev.imp (ev_plain (K := K) (b := true) (pm m2) (Ev.imp (eqn (n := 1) rfl m2') ?_) (by omega)) ?_)) ?_) ?_) ?_) f2 (Same.refl _) (fun H3 x3 f3 e3 => ?_) (fun H3 x3 f3 e3 => ?_)
    · rintro _ rfl
      rw [hs]
      rfl
    · rintro _ rfl
      exact ⟨_, rfl, rfl⟩
    · rintro _ rfl
      rfl
    · rintro _ ⟨b, rfl, rfl⟩
      rw [hs]
      rfl
    · rintro _ rfl
      exact ⟨_, rfl, rfl⟩
    · rintro _ rfl
      rfl
    · intro h
      exact h
    · intro h
      cases h
    · refine bad rfl (x12.trans x3) f3 (res_none ?_)
      rw [pn]
      cases h : parseL (tl p) with
      | none => rfl
      | some t =>
        rw [h] at e3
        cases e3
    · obtain ⟨t, ht⟩ : ∃ t, parseL (tl p) = some t := by
        cases h : parseL (tl p) with
        | none =>
          rw [h] at e3
          cases e3
        | some t => exact ⟨t, rfl⟩
      have m3 := m2.mono (x3.off f.mem)
      have m3' := m2'.mono (x3.off f.mem)
      refine q_set (K := K) (σ := [some (.str x), some v2, none]) (C := (· = .int t)) (ev_if (B := (· = false)) (et_test (Ev.imp (eqn (n := 2) rfl m3') ?_)) (fun h => absurd h (by decide)) (fun _ => ev_intS (p0 m3) (int_parse ht (by omega)) (by omega))) f3 (Same.refl _) ?_
      · rintro _ ⟨b, rfl, rfl⟩
        rw [hs]
        exact ⟨_, rfl, rfl⟩
      rintro v4 _ H4 x4 f4 m4 rfl
      have tt : Tame (.int t) := (sz_int (Nat.lt_of_lt_of_le (parse_small ht (by rw [← TL.len_tl]; exact pl)) (Nat.pow_le_pow_right (by decide) (by decide)))).tame
      refine q_ret (K := K) (σ := [some (.str x), some v2, some v4]) (C := (· = .int t)) (ev_if (B := (· = true)) (et_val (Ev.imp (ev_callT (fn := fun d => .bool (isRatD d)) (ev_var rfl m4) tt) ?_)) (fun _ => ev_var rfl m4) (fun h => absurd h (by decide))) f4 (Same.refl _) ?_
      · rintro _ rfl
        exact ⟨_, rfl, rfl⟩
      · rintro v5 _ H5 x5 m5 rfl
        exact fin ((x12.trans x3).trans (x4.trans x5)) m5 (due_in (res_some (by rw [pn, ht]; rfl))).symm
  | [p, q], m2 =>
    have pl : p.length ≤ 200 := Nat.le_trans (split_head hs) hx
    have ql : q.length ≤ 200 := Nat.le_trans (split_snd hs) hx
    have m2' : D K (off S H2) v2 (.list ((Txt.split x slash).map .str)) := by
      rw [hs]
      exact m2
    have p0 : ∀ {G : Hp}, D K G v2 (.list [.str p, .str q]) → Ev K a G (tOp (rIx K) (tVar 1) (tC (.int 0))) [some (.str x), some v2, none] (· = .str p) := fun m => ev_part (parts := [p, q]) (k := 0) rfl m rfl ev_i
    have p1 : ∀ {G : Hp}, D K G v2 (.list [.str p, .str q]) → Ev K a G (tOp (rIx K) (tVar 1) (tC (.int 1))) [some (.str x), some v2, none] (· = .str q) := fun m => ev_part (parts := [p, q]) (k := 1) rfl m rfl ev_i
    have pm : ∀ {G : Hp}, D K G v2 (.list [.str p, .str q]) → Ev K a G (tOp (rIx K) (tVar 1) (tUn (rU fun i => .int (-i)) (tC (.int 1)))) [some (.str x), some v2, none] (· = .str q) := fun m => ev_part (parts := [p, q]) (k := -1) rfl m rfl (ev_negE ev_i)
    have pn : parseN x = (parseL (tl p)).bind fun t => if (decB (tl q) && isRatD (.tuple [.int t, .int ((digitsVal (tl q) : Nat) : Int)])) = true then some (.tuple [.int t, .int ((digitsVal (tl q) : Nat) : Int)]) else none := by
      unfold parseN
      rw [hs]
      rfl
    refine q_if (σ := [some (.str x), some v2, none]) (B := (· = !((parseL (tl p)).isSome && decB (tl q)))) (et_or (B1 := (· = false)) (EvT.imp (gt2 rfl m2') ?_) (fun _ => et_or (B1 := (· = !(parseL (tl p)).isSome)) (et_not (B1 := (· = (parseL (tl p)).isSome)) (et_val (Ev.imp (ev_plain (K := K) (b := true) (p0 m2) ev_b (by omega)) ?_)) ?_) (fun h => et_not (B1 := (· = decB (tl q))) (et_val (Ev.imp (ev_plain (K := K) (b := false) (pm m2) (Ev.imp (eqn (n := 1) rfl m2') ?_) (by omega)) ?_)) ?_) ?_) ?_) f2 (Same.refl _) (fun H3 x3 f3 e3 => ?_) (fun H3 x3 f3 e3 => ?_)
    · rintro _ rfl
      rw [hs]
      rfl
    · rintro _ rfl
      exact ⟨_, rfl, rfl⟩
    · rintro _ rfl
      rfl
    · rintro _ ⟨b, rfl, rfl⟩
      rw [hs]
      rfl
    · rintro _ rfl
      exact ⟨_, rfl, rfl⟩
    · rintro _ rfl
      have h' : (parseL (tl p)).isSome = true := by
        cases h' : (parseL (tl p)).isSome
        · rw [h'] at h
          cases h
        · rfl
      rw [h', Bool.true_and]
    · intro h
      have h' : (parseL (tl p)).isSome = false := by
        cases h' : (parseL (tl p)).isSome
        · rfl
        · rw [h'] at h
          cases h
      rw [h', Bool.false_and]
      rfl
    · intro h
      cases h
    · refine bad rfl (x12.trans x3) f3 (res_none ?_)
      rw [pn]
      cases h : parseL (tl p) with
      | none => rfl
      | some t =>
        have hq : decB (tl q) = false := by
          cases h' : decB (tl q)
          · rfl
          · rw [h, h'] at e3
            cases e3
        show (if _ then _ else _) = none
        rw [hq, Bool.false_and, if_neg Bool.false_ne_true]
    · have hpq : (parseL (tl p)).isSome = true ∧ decB (tl q) = true := by
        cases h : (parseL (tl p)).isSome <;> cases h' : decB (tl q) <;> first | exact ⟨rfl, rfl⟩ | (rw [h, h'] at e3; cases e3)
      obtain ⟨hp, hq⟩ := hpq
      obtain ⟨t, ht⟩ := Option.isSome_iff_exists.mp hp
      have m3 := m2.mono (x3.off f.mem)
      have m3' := m2'.mono (x3.off f.mem)
      refine q_set (K := K) (σ := [some (.str x), some v2, none]) (C := (· = .tuple [.int t, .int ((digitsVal (tl q) : Nat) : Int)])) (ev_if (B := (· = true)) (et_test (Ev.imp (eqn (n := 2) rfl m3') ?_)) (fun _ => ev_tupE (ea_eq (ev_intS (p0 m3) (int_parse ht (by omega)) (by omega)) (ea_eq (ev_intS (p1 m3) (int_dec hq (by omega)) (by omega)) ea_nil)) (by show 2 ≤ 1000; decide)) (fun h => absurd h (by decide))) f3 (Same.refl _) ?_
      · rintro _ ⟨b, rfl, rfl⟩
        rw [hs]
        exact ⟨_, rfl, rfl⟩
      rintro v4 _ H4 x4 f4 m4 rfl
      have tt : Tame (.tuple [.int t, .int ((digitsVal (tl q) : Nat) : Int)]) := pair_tame (parse_small ht (by rw [← TL.len_tl]; exact pl)) (by rw [Int.natAbs_natCast]; exact val_small (dec_of hq).1 (by rw [← TL.len_tl]; exact ql))
      have x04 := (x12.trans x3).trans x4
      cases hr : isRatD (.tuple [.int t, .int ((digitsVal (tl q) : Nat) : Int)]) with
      | true =>
        refine q_ret (K := K) (σ := [some (.str x), some v2, some v4]) (C := (· = .tuple [.int t, .int ((digitsVal (tl q) : Nat) : Int)])) (ev_if (B := (· = true)) (et_val (Ev.imp (ev_callT (fn := fun d => .bool (isRatD d)) (ev_var rfl m4) tt) ?_)) (fun _ => ev_var rfl m4) (fun h => absurd h (by decide))) f4 (Same.refl _) ?_
        · rintro _ rfl
          exact ⟨_, rfl, hr⟩
        · rintro v5 _ H5 x5 m5 rfl
          refine fin (x04.trans x5) m5 (due_in (res_some ?_)).symm
          rw [pn, ht]
          show (if _ then _ else _) = _
          rw [hq, hr]
          rfl
      | false =>
        refine q_ret (K := K) (σ := [some (.str x), some v2, some v4]) (C := (· = .list [.str "refused", .int 1, .bool true])) (ev_if (B := (· = false)) (et_val (Ev.imp (ev_callT (fn := fun d => .bool (isRatD d)) (ev_var rfl m4) tt) ?_)) (fun h => absurd h (by decide)) (fun _ => ev_lstE (ea_eq ev_s (ea_eq ev_i (ea_eq ev_b ea_nil))) (by show 3 ≤ 1000; decide))) f4 (Same.refl _) ?_
        · rintro _ rfl
          exact ⟨_, rfl, hr⟩
        · rintro v5 _ H5 x5 m5 rfl
          refine fin (x04.trans x5) m5 (due_no (res_none ?_)).symm
          rw [pn, ht]
          show (if _ then _ else _) = _
          rw [hq, hr]
          rfl
  | p :: q :: r :: t, m2 =>
    have m2' : D K (off S H2) v2 (.list ((Txt.split x slash).map .str)) := by
      rw [hs]
      exact m2
    refine q_if (σ := [some (.str x), some v2, none]) (B := (· = true)) (et_or (B1 := (· = true)) (EvT.imp (gt2 rfl m2') ?_) ?_ fun _ => rfl) f2 (Same.refl _) (fun H3 x3 f3 e3 => ?_) (fun H3 x3 f3 e3 => ?_)
    · rintro _ rfl
      rw [hs]
      simp
    · intro h
      cases h
    · refine bad rfl (x12.trans x3) f3 (res_none ?_)
      unfold parseN
      rw [hs]
      rfl
    · cases e3
end
end K14
--NEVER law _law_right _law_parsed _law_refused
set_option Elab.async false
set_option linter.all false
set_option maxRecDepth 100000
set_option maxHeartbeats 4000000
set_option exponentiation.threshold 2000
namespace K14
open PySem PySem.Spec L2 LK
open PyProof.Rows hiding St
open TL (tl numL)
open NumText (digitsVal AllDigits)
section
variable {P : Program} {w : World} {K : PySem.W.Frag} {mg : Str → Option Value} {c : Cls} {base : Heap} {a : Addr} {G : Hp} {S : List Addr} {H : Hp}
/-! ### parsed -/
theorem ok_l_parsed {f : Addr} {fd : FuncData} (F : Fun K "_law_parsed" "_law_parsed" s_l_parsed f fd) (T : Txt K mg c) (F_parse_number : FPn P w K mg base c) :
    FnG P w K mg base CX0 4 f fd ["_law_words"] (spG K preX (post1 dueT)) := by
  refine fun_okG F sc_l_parsed (fun vs H Q E h => spG_len (n := 1) (fun ds ⟨d, e, _⟩ => by rw [e]; rfl) h) (fun cdv A outer s H vs Q E hg hr h => ?_)
  have R_InvalidText : XR P w K mg base "InvalidText" c.InvalidText "line" := ok_InvalidText___init__ T
  obtain ⟨a, S, ds, f, m, ⟨d, rfl, hd⟩, k⟩ := h
  obtain ⟨v1, rfl, m1⟩ := DA.one m
  refine ⟨_, (pss_cons (ps_set (i := 1) sc_l_parsed.nd rfl (by first | exact Or.inl rfl | exact Or.inr rfl) pe_non)
    (pss_cons (ps_try_as (i := 2) rfl rfl sc_l_parsed.nd rfl rfl ⟨rfl, by decide, Or.inl R_InvalidText.c.g⟩ takes0 (fun W pn xe tk _ => (pss_one (ps_set (i := 1) sc_l_parsed.nd rfl (by first | exact Or.inl rfl | exact Or.inr rfl) (pe_fnX F_parse_number hg (hr.mono (by decide)) (by rfl) (fun σ => passAt tk σ) (pa_cons (pv 0) pa_nil)))))
    (fun a oe cls d pn hz hf => (pss_cons (ps_set (i := 3) sc_l_parsed.nd rfl (by first | exact Or.inl rfl | exact Or.inr rfl) (pe_callB (kIsX (K := K) hz hf) (by rfl) T.b_isinstance (by decide +kernel) (pa_cons (pv 2) (pa_cons (pe_tup (pa_cons (pe_glob (v := .ref c.InvalidNumber) (by rfl) T.g_InvalidNumber rfl) (pa_cons (pe_glob (v := .ref c.LimitError) (by rfl) T.g_LimitError rfl) (pa_cons (pe_glob (v := .ref c.MissingError) (by rfl) T.g_MissingError rfl) (pa_cons (pe_glob (v := .ref c.StateError) (by rfl) T.g_StateError rfl) pa_nil))))) pa_nil))))
    (pss_one (ps_set (i := 1) sc_l_parsed.nd rfl (by first | exact Or.inl rfl | exact Or.inr rfl) (pe_lst (pa_cons pe_str (pa_cons (pe_xg hz hf (pv 2)) (pa_cons (pe_and (pe_callB (kIsX (K := K) hz hf) (by rfl) T.b_isinstance (by decide +kernel) (pa_cons (pv 2) (pa_cons (pe_glob (v := .ref c.LastheldError) (by rfl) T.g_LastheldError rfl) pa_nil))) (pe_one (pe_not (pv 3)))) pa_nil)))))))))
    (pss_one (ps_ret (pv 1))))), ?_⟩
  refine q_set (K := K) (σ := [some v1, none, none, none]) ev_n f (Same.refl _) ?_
  rintro _ _ H1 x1 f1 m0 rfl
  cases m0
  have m1' := m1.mono (x1.off f.mem)
  dsimp only [tSeq]
  refine q_setX (K := K) (dds := []) (A1 := (· = [d])) (σ := [some v1, some .non, none, none]) (ea_eq (ev_var rfl m1') ea_nil) f1 (Same.refl _) (fun _ => .nil) ?_ ?_ ?_
  · rintro _ rfl
    exact ⟨d, rfl, hd⟩
  · rintro _ v r H2 rfl x2 f2 mv ⟨d', e, hr⟩
    injection e with e _
    subst e
    exact ⟨v, rfl, k v r H2 (x1.trans x2) mv ⟨_, rfl, (due_in hr).symm⟩⟩
  · rintro _ v r dd H2 rfl x f2 mv ⟨d', n, e, hr, rfl⟩ hd' hS
    injection e with e _
    subst e
    refine ⟨true, T.xc_InvalidText.exm, fun _ a' ha' => ?_, fun z => by cases z⟩
    refine ⟨.ref a', rfl, (by show 4 ≤ sizeLine; decide), fun p hp => ?_⟩
    have hdp : upd H2 p (.tup [.ref c.InvalidNumber, .ref c.LimitError, .ref c.MissingError, .ref c.StateError]) dd = some (.xd [("line", v)]) := by
      rw [upd_ne (ne_of_none hd' hp)]
      exact hd'
    have hddp : ∀ dx, some dd = some dx → ∃ fs, upd H2 p (.tup [.ref c.InvalidNumber, .ref c.LimitError, .ref c.MissingError, .ref c.StateError]) dx = some (.xd fs) := fun dx e => by
      injection e with e
      subst e
      exact ⟨_, hdp⟩
    refine ⟨c.InvalidText, .ref p, false, rfl, rfl, T.xc_InvalidText.is, hddp, .inr ⟨p, _, _, rfl, upd_same, .cons (.own _) (.cons (.own _) (.cons (.own _) (.cons (.own _) .nil))), ?_⟩, ?_⟩
    · exact kitAny_cons T.k_InvalidText_InvalidNumber (fun _ => kitAny_cons T.k_InvalidText_LimitError (fun _ => kitAny_cons T.k_InvalidText_MissingError (fun _ => kitAny_cons T.k_InvalidText_StateError (fun _ => kitAny_nil) nofun) nofun) nofun) nofun
    refine ⟨.ref a', rfl, rfl, c.InvalidText, dd, [("line", v)], v, rfl, T.xc_InvalidText.fl, T.nf_InvalidText, rfl, hdp, by simp [List.lookup], ?_⟩
    refine ⟨.ref a', rfl, c.InvalidText, .ref c.LastheldError, true, rfl, rfl, T.xc_InvalidText.is, hddp, .inl ⟨_, .own _, T.k_InvalidText_LastheldError⟩, true, rfl, ?_⟩
    refine iteT ⟨.bl false, rfl, false, rfl, (by show 3 ≤ sizeLine; decide), fun L hL => ?_⟩
    have xp : Ext a H2 (upd H2 p (.tup [.ref c.InvalidNumber, .ref c.LimitError, .ref c.MissingError, .ref c.StateError])) := Ext.new hp
    have fp := f2.ext xp
    exact ⟨.ref L, rfl, k _ _ _ (((x1.trans x).trans xp).trans (Ext.new hL)) (D.new_lst hL (fp.out hL) (.cons (.str _) (.cons (mv.mono (xp.off f.mem)) (.cons (.bl _) .nil)))) ⟨_, rfl, (due_no hr).symm⟩⟩
/-! ### refused -/
def refD (d : PyData) : PyData := if isRatD d = true then .none else .list [d]
theorem ok_l_refused {f : Addr} {fd : FuncData} (F : Fun K "_law_refused" "_law_refused" s_l_refused f fd) (T : Txt K mg c) (F_number_text : FNt P w K mg base c) :
    FnG P w K mg base CX0 5 f fd ["_law_thing"] (spG K (fun ds => ∃ d, ds = [d] ∧ Tame d ∧ intsB 1000 d) (post1 refD)) := by
  refine fun_okG F sc_l_refused (fun vs H Q E h => spG_len (n := 1) (fun ds ⟨d, e, _⟩ => by rw [e]; rfl) h) (fun cdv A outer s H vs Q E hg hr h => ?_)
  have R_InvalidNumber : XR P w K mg base "InvalidNumber" c.InvalidNumber "value" := ok_InvalidNumber___init__ T
  obtain ⟨a, S, ds, f, m, ⟨d, rfl, tm, bd⟩, k⟩ := h
  obtain ⟨v1, rfl, m1⟩ := DA.one m
  refine ⟨_, (pss_cons (ps_set (i := 1) sc_l_refused.nd rfl (by first | exact Or.inl rfl | exact Or.inr rfl) pe_non)
    (pss_cons (ps_try_as (i := 2) rfl rfl sc_l_refused.nd rfl rfl ⟨rfl, by decide, Or.inl R_InvalidNumber.c.g⟩ takes0 (fun W pn xe tk _ => (pss_one (ps_expr (pe_fnX F_number_text hg (hr.mono (by decide)) (by rfl) (fun σ => passAt tk σ) (pa_cons (pv 0) pa_nil)))))
    (fun a oe cls d pn hz hf => (pss_one (ps_set (i := 1) sc_l_refused.nd rfl (by first | exact Or.inl rfl | exact Or.inr rfl) (pe_lst (pa_cons (pe_xg hz hf (pv 2)) pa_nil))))))
    (pss_one (ps_ret (pv 1))))), ?_⟩
  refine q_set (K := K) (σ := [some v1, none, none]) ev_n f (Same.refl _) ?_
  rintro _ _ H1 x1 f1 m0 rfl
  cases m0
  have m1' := m1.mono (x1.off f.mem)
  dsimp only [tSeq]
  refine q_dropX (K := K) (dds := []) (A1 := (· = [d])) (σ := [some v1, some .non, none]) (ea_eq (ev_var rfl m1') ea_nil) f1 (Same.refl _) (fun _ => .nil) ?_ ?_ ?_
  · rintro _ rfl
    exact ⟨d, rfl, tm, bd⟩
  · rintro _ v r H2 rfl x2 f2 mv ⟨d', e, hr, _⟩
    injection e with e _
    subst e
    refine ⟨.non, rfl, k .non .none H2 (x1.trans x2) .non ⟨_, rfl, ?_⟩⟩
    unfold refD
    rw [if_pos hr]
  · rintro _ v r dd H2 rfl x f2 mv ⟨d', e, hr, rfl⟩ hd' hS
    injection e with e _
    subst e
    refine ⟨true, T.xc_InvalidNumber.exm, fun _ a' ha' => ?_, fun z => by cases z⟩
    refine ⟨.ref a', rfl, rfl, c.InvalidNumber, dd, [("value", v)], v, rfl, T.xc_InvalidNumber.fl, T.nf_InvalidNumber, rfl, hd', by simp [List.lookup], (by show 1 ≤ sizeLine; decide), fun L hL => ?_⟩
    refine ⟨.ref L, rfl, k _ _ _ ((x1.trans x).trans (Ext.new hL)) (D.new_lst hL (f2.out hL) (.cons mv .nil)) ⟨_, rfl, ?_⟩⟩
    unfold refD
    rw [if_neg (by rw [hr]; exact Bool.false_ne_true)]
/-! ### spoilt -/
theorem cut_from (x : Str) (k : Nat) : (cutS x (some (k : Int)) none).length = x.length - k := by
  rw [TL.len_tl]
  show ((x.cps.toList.drop (HT.sIx x.length 0 (some (k : Int)))).take (HT.sIx x.length x.length none - HT.sIx x.length 0 (some (k : Int)))).length = _
  rw [HT.sIx_nat, HT.sIx_none, List.length_take, List.length_drop]
  have hl : x.cps.toList.length = x.length := (TL.len_tl x).symm
  rw [hl]
  omega
theorem cut_to (x : Str) (k : Nat) : (cutS x none (some (k : Int))).length = min k x.length := by
  rw [TL.len_tl]
  show ((x.cps.toList.drop (HT.sIx x.length 0 none)).take (HT.sIx x.length x.length (some (k : Int)) - HT.sIx x.length 0 none)).length = _
  rw [HT.sIx_nat, HT.sIx_none, List.drop_zero, List.length_take, Nat.sub_zero]
  have hl : x.cps.toList.length = x.length := (TL.len_tl x).symm
  rw [hl]
  omega
def preSp (ds : List PyData) : Prop := ∃ x : Str, ds = [.str x] ∧ x.length ≤ 400
def postSp (ds : List PyData) (r : PyData) : Prop := ∃ x y : Str, ds = [.str x] ∧ r = .str y ∧ y.length ≤ x.length + 1
abbrev signs17 : Str := "0123456789/- +_a."
theorem ok_l_spoilt {f : Addr} {fd : FuncData} (F : Fun K "_law_spoilt" "_law_spoilt" s_l_spoilt f fd) (T : Txt K mg c) (F_l_draw : DfD P w K mg base) :
    FnG P w K mg base CX0 2 f fd ["_law_pot_here", "_law_words"] (spP K preSp postSp) := by
  refine fun_okG F sc_l_spoilt (fun vs H Q E h => spP_len (n := 1) (fun ds ⟨x, e, _⟩ => by rw [e]; rfl) h) (fun cdv A outer s H vs Q E hg hr h => ?_)
  obtain ⟨a, S, ws, ds, rfl, f, m, ⟨x, rfl, hx⟩, k⟩ := h
  obtain ⟨v, rfl, mv⟩ := DA.one m
  cases mv
  refine ⟨_, (pss_cons (ps_par (i := 2) (j := 3) (by rfl) sc_l_spoilt.nd rfl rfl (by decide) rfl rfl (pa_cons (pe_ix (kIx (K := K)) pe_str (pe_fn F_l_draw hg (hr.mono (by decide)) (by rfl) pass0 (pa_cons (pv 0) (pa_cons pe_int pa_nil))) (fun _ _ => rfl)) (pa_cons (pe_fn F_l_draw hg (hr.mono (by decide)) (by rfl) pass0 (pa_cons (pv 0) (pa_cons (pe_op (kAdd (K := K)) (pe_callB (kLen (K := K)) (by rfl) T.b_len (by decide +kernel) (pa_cons (pv 1) pa_nil)) pe_int) pa_nil))) pa_nil)) (by rfl))
    (pss_cons (ps_set (i := 4) sc_l_spoilt.nd rfl (by first | exact Or.inl rfl | exact Or.inr rfl) (pe_fn F_l_draw hg (hr.mono (by decide)) (by rfl) pass0 (pa_cons (pv 0) (pa_cons pe_int pa_nil))))
    (pss_cons (ps_if (pt_cmpR (kEq (K := K) hr.units) (pv 4) pe_int (nomark _))
    (pss_one (ps_ret (pe_op (kAdd (K := K)) (pe_op (kAdd (K := K)) (pe_slice sl_str (pv 1) po_none (po_some (pv 3))) (pv 2)) (pe_slice sl_str (pv 1) (po_some (pv 3)) po_none))))
    pss_nil)
    (pss_cons (ps_if (pt_cmpR (kEq (K := K) hr.units) (pv 4) pe_int (nomark _))
    (pss_one (ps_ret (pe_op (kAdd (K := K)) (pe_slice sl_str (pv 1) po_none (po_some (pv 3))) (pe_slice sl_str (pv 1) (po_some (pe_op (kAdd (K := K)) (pv 3) pe_int)) po_none))))
    pss_nil)
    (pss_one (ps_ret (pe_ifExp (pt_cmpR (kEq (K := K) hr.units) (pv 4) pe_int (nomark _)) (pe_op (kAdd (K := K)) (pe_op (kAdd (K := K)) (pe_slice sl_str (pv 1) po_none (po_some (pv 3))) (pv 2)) (pe_slice sl_str (pv 1) (po_some (pe_op (kAdd (K := K)) (pv 3) pe_int)) po_none)) (pe_op (kAdd (K := K)) (pv 2) (pv 1))))))))), ?_⟩
  have l17 : (17 : Int) = (signs17.length : Nat) := by decide +kernel
  have elen : ∀ {σ : L2.St} {G : Hp}, σ[1]? = some (some (.str x)) → Ev K a G (tOp (rAddA K) (tCB (rLenA K) (tCons (tVar 1) tNil)) (tC (.int 1))) σ (· = .int ((x.length : Nat) + 1)) := fun h => Ev.imp (ev_addI (cI := (· = (x.length : Nat))) (cJ := (· = 1)) (cR := (· = ((x.length : Nat) : Int) + 1)) (ev_len (ev_var h (.str x)) (by
    rintro _ rfl
    exact ⟨x.length, rfl, by omega, rfl⟩)) (ev_isI ev_i rfl) (by
    rintro _ _ rfl rfl
    rfl)) (by
    rintro _ ⟨i, rfl, rfl⟩
    rfl)
  refine q_par (K := K) (σ := [some (.ref a), some (.str x), none, none, none]) (C1 := fun d => ∃ c, d = .str ⟨#[c]⟩ ∧ c ∈ signs17.cps.toList) (C2 := IsI fun k => 0 ≤ k ∧ k < ((x.length : Nat) : Int) + 1) (ev_pickS (z := signs17) ev_s ?_ (by decide +kernel)) (ev_draw rfl (elen rfl) (by omega) ?_) f (Same.refl _) ?_
  · rw [← l17]
    exact ev_draw rfl ev_i (by decide) (by decide)
  · have : ((x.length : Nat) : Int) + 1 ≤ 401 := by omega
    exact Int.lt_of_le_of_lt this (by decide)
  rintro v2 v3 _ _ H1 x1 f1 m2 m3 ⟨sg, rfl, _⟩ ⟨at', rfl, a0, a1⟩
  cases m2
  cases m3
  obtain ⟨n, rfl⟩ := Int.eq_ofNat_of_zero_le a0
  have hn : n ≤ x.length := by omega
  have s1 : (⟨#[sg]⟩ : Str).length = 1 := rfl
  refine q_set (K := K) (σ := [some (.ref a), some (.str x), some (.str ⟨#[sg]⟩), some (.int (n : Nat)), none]) (C := IsI fun k => 0 ≤ k ∧ k < 4) (ev_draw rfl ev_i (by decide) (by decide)) f1 (Same.refl _) ?_
  rintro v4 _ H2 x2 f2 m4 ⟨way, rfl, _, _⟩
  cases m4
  have x12 := x1.trans x2
  have fin : ∀ {v : V} {d : PyData} {H' : Hp}, Ext a H H' → D K (off S H') v d → (∃ y : Str, d = .str y ∧ y.length ≤ x.length + 1) → Q v H' := fun {v d H'} z m ⟨y, e, l⟩ => k _ _ H' z m ⟨x, y, rfl, e, l⟩
  have eto : ∀ {G : Hp}, Ev K a G (tSl rSlS (tVar 1) tNoPart (tPart (tVar 3))) [some (.ref a), some (.str x), some (.str ⟨#[sg]⟩), some (.int (n : Nat)), some (.int way)] (· = .str (cutS x none (some (n : Int)))) := ev_slT (cI := (· = (n : Int))) (ev_var rfl (.str x)) (ev_isI (ev_var rfl (.int _)) rfl) (by omega) (by
    rintro _ rfl
    rfl)
  have efr : ∀ {G : Hp}, Ev K a G (tSl rSlS (tVar 1) (tPart (tVar 3)) tNoPart) [some (.ref a), some (.str x), some (.str ⟨#[sg]⟩), some (.int (n : Nat)), some (.int way)] (· = .str (cutS x (some (n : Int)) none)) := ev_slF (cI := (· = (n : Int))) (ev_var rfl (.str x)) (ev_isI (ev_var rfl (.int _)) rfl) (by omega) (by
    rintro _ rfl
    rfl)
  have efr1 : ∀ {G : Hp}, Ev K a G (tSl rSlS (tVar 1) (tPart (tOp (rAddA K) (tVar 3) (tC (.int 1)))) tNoPart) [some (.ref a), some (.str x), some (.str ⟨#[sg]⟩), some (.int (n : Nat)), some (.int way)] (· = .str (cutS x (some ((n + 1 : Nat) : Int)) none)) := ev_slF (cI := (· = ((n + 1 : Nat) : Int))) (ev_var rfl (.str x)) (ev_addI (cI := (· = (n : Int))) (cJ := (· = 1)) (ev_isI (ev_var rfl (.int _)) rfl) (ev_isI ev_i rfl) (by
    rintro _ _ rfl rfl
    rfl)) (by omega) (by
    rintro _ rfl
    rfl)
  have esg : ∀ {G : Hp}, Ev K a G (tVar 2) [some (.ref a), some (.str x), some (.str ⟨#[sg]⟩), some (.int (n : Nat)), some (.int way)] (· = .str ⟨#[sg]⟩) := ev_var rfl (.str _)
  have eway : ∀ {G : Hp} {n' : Int}, EvT a G (tTest (tOp (rEqA K) (tVar 4) (tC (.int n')))) [some (.ref a), some (.str x), some (.str ⟨#[sg]⟩), some (.int (n : Nat)), some (.int way)] (fun _ => True) := et_test (Ev.imp (ev_eqI (K := K) (cB := fun _ => True) (cI := (· = way)) (cJ := fun _ => True) (ev_isI (ev_var rfl (.int way)) rfl) (ev_isI ev_i True.intro) fun _ _ _ _ => True.intro) fun _ h => h)
  have lt := cut_to x n
  have lf := cut_from x n
  have lf1 := cut_from x (n + 1)
  refine q_if (σ := [some (.ref a), some (.str x), some (.str ⟨#[sg]⟩), some (.int (n : Nat)), some (.int way)]) eway f2 (Same.refl _) (fun H3 x3 f3 _ => ?_) (fun H3 x3 f3 _ => ?_)
  · refine q_ret (K := K) (σ := [some (.ref a), some (.str x), some (.str ⟨#[sg]⟩), some (.int (n : Nat)), some (.int way)]) (ev_catS (ev_catS eto esg (by omega)) efr ?_) f3 (Same.refl _) ?_
    · rw [len_app]
      omega
    · rintro v5 _ H4 x4 m5 rfl
      refine fin ((x12.trans x3).trans x4) m5 ⟨_, rfl, ?_⟩
      rw [len_app, len_app]
      omega
  · refine q_if (σ := [some (.ref a), some (.str x), some (.str ⟨#[sg]⟩), some (.int (n : Nat)), some (.int way)]) eway f3 (Same.refl _) (fun H4 x4 f4 _ => ?_) (fun H4 x4 f4 _ => ?_)
    · refine q_ret (K := K) (σ := [some (.ref a), some (.str x), some (.str ⟨#[sg]⟩), some (.int (n : Nat)), some (.int way)]) (ev_catS eto efr1 (by omega)) f4 (Same.refl _) ?_
      rintro v5 _ H5 x5 m5 rfl
      refine fin (((x12.trans x3).trans x4).trans x5) m5 ⟨_, rfl, ?_⟩
      rw [len_app]
      omega
    · refine q_ret (K := K) (σ := [some (.ref a), some (.str x), some (.str ⟨#[sg]⟩), some (.int (n : Nat)), some (.int way)]) (C := fun d => ∃ y : Str, d = .str y ∧ y.length ≤ x.length + 1) (ev_if eway (fun _ => Ev.imp (ev_catS (ev_catS eto esg (by omega)) efr1 ?_) ?_) (fun _ => Ev.imp (ev_catS esg (ev_var rfl (.str x)) (by omega)) ?_)) f4 (Same.refl _) ?_
      · rw [len_app]
        omega
      · rintro _ rfl
        refine ⟨_, rfl, ?_⟩
        rw [len_app, len_app]
        omega
      · rintro _ rfl
        refine ⟨_, rfl, ?_⟩
        rw [len_app]
        omega
      · intro v5 d H5 x5 m5 hd
        exact fin (((x12.trans x3).trans x4).trans x5) m5 hd
end
end K14
--NEVER law _law_right _law_parsed _law_refused
set_option Elab.async false
set_option linter.all false
set_option maxRecDepth 100000
set_option maxHeartbeats 4000000
set_option exponentiation.threshold 2000
namespace K14
open PySem PySem.Spec L2 LK
open PyProof.Rows hiding St
open TL (tl numL)
open NumText (digitsVal AllDigits)
/-! ### sizes -/
theorem str_sz {x : Str} (h : ∀ c ∈ tl x, c < 16 ^ 8) : Sz x.length 0 (.str x) := by
  refine ⟨by simp [PyData.showable], ?_, ?_, by simp [PyData.depth]⟩
  · simp only [PyData.leavesShort, List.all_eq_true, decide_eq_true_eq]
    exact h
  · simp only [PyData.bulk]
    exact Nat.le_refl _
theorem pow_200 : (2 : Nat) ^ 200 < 10 ^ 61 := by decide +kernel
theorem text_len2 {i : Int} (h : i.natAbs < 2 ^ 200) : (textL i).length ≤ 62 := by
  have l := TL.numL_len (n := i.natAbs) (k := 61) (by decide) (Nat.lt_trans h pow_200)
  unfold textL
  split
  · simp only [List.length_cons]
    omega
  · omega
theorem text_chars {i : Int} : ∀ c ∈ textL i, c < 16 ^ 8 := by
  have key : ∀ n : Nat, ∀ c ∈ numL n, c < 16 ^ 8 := fun n c m => by
    have := TL.numL_digits n c m
    exact Nat.lt_of_le_of_lt this.2 (by decide)
  unfold textL
  split
  · intro c m
    rcases List.mem_cons.mp m with rfl | m
    · decide
    · exact key _ c m
  · exact key _
theorem written_ok {d : PyData} (h : WV d) : (writtenD d).length ≤ 125 ∧ ∀ c ∈ tl (writtenD d), c < 16 ^ 8 := by
  rcases rat_cases h.r with ⟨i, rfl⟩ | ⟨i, j, rfl, _⟩
  · have b : i.natAbs < 2 ^ 200 := h.b
    refine ⟨?_, ?_⟩
    · show (Str.ofString (toString i)).length ≤ 125
      rw [TL.len_tl, text_tl]
      have := text_len2 b
      omega
    · show ∀ c ∈ tl (Str.ofString (toString i)), c < 16 ^ 8
      rw [text_tl]
      exact text_chars
  · have b : i.natAbs < 2 ^ 200 ∧ j.natAbs < 2 ^ 200 := h.b
    refine ⟨?_, ?_⟩
    · show (Str.ofString (toString i) ++ slash ++ Str.ofString (toString j)).length ≤ 125
      have sl : slash.length = 1 := by decide +kernel
      rw [len_app, len_app, TL.len_tl, TL.len_tl (Str.ofString (toString j)), text_tl, text_tl, sl]
      have := text_len2 b.1
      have := text_len2 b.2
      omega
    · show ∀ c ∈ tl (Str.ofString (toString i) ++ slash ++ Str.ofString (toString j)), c < 16 ^ 8
      rw [TL.tl_append, TL.tl_append, text_tl, text_tl, tl_slash]
      intro c m
      rcases List.mem_append.mp m with m | m
      · rcases List.mem_append.mp m with m | m
        · exact text_chars c m
        · rw [List.mem_singleton.mp m]
          decide
      · exact text_chars c m
theorem two_tame {n k : Nat} {d : PyData} (h : Sz n k d) (hn : n ≤ 3000 := by decide) (hk : k ≤ 50 := by decide) : Tame (.list [d, d]) := by
  have z := Sz.list (n := n) (k := k) (ds := [d, d]) fun z m => by
    simp only [List.mem_cons, List.not_mem_nil, or_false, or_self] at m
    rw [m]
    exact h
  exact z.tame (by show 2 * (n + 1) ≤ 8000; omega) (by omega)
theorem one_tame {n k : Nat} {d : PyData} (h : Sz n k d) (hn : n ≤ 3000 := by decide) (hk : k ≤ 50 := by decide) : Tame (.list [d]) := by
  have z := Sz.list (n := n) (k := k) (ds := [d]) fun z m => by
    simp only [List.mem_cons, List.not_mem_nil, or_false] at m
    rw [m]
    exact h
  exact z.tame (by show 1 * (n + 1) ≤ 8000; omega) (by omega)
structure OddV (d : PyData) : Prop where
  sz : Sz 20 2 d
  b : intsB 1000 d
  s : ∀ x, d = .str x → x.length ≤ 200
def oddK (d : PyData) : Bool := szB 20 2 d && (match d with
  | .int i => decide (i.natAbs < 1000)
  | .tuple [.int i, .int j] => decide (i.natAbs < 1000) && decide (j.natAbs < 1000)
  | .str x => decide (x.length ≤ 200)
  | _ => true)
theorem odd_ok : ∀ d ∈ oddL, OddV d := by
  have h : oddL.all oddK = true := by decide +kernel
  intro d m
  have z := List.all_eq_true.mp h d m
  unfold oddK at z
  rw [Bool.and_eq_true] at z
  have big : 1000 < 2 ^ 1000 := by decide
  refine ⟨Sz.of z.1, ?_, ?_⟩
  · have z2 := z.2
    unfold intsB
    split
    · exact Nat.lt_trans (of_decide_eq_true z2) big
    · have z3 := Bool.and_eq_true_iff.mp z2
      exact ⟨Nat.lt_trans (of_decide_eq_true z3.1) big, Nat.lt_trans (of_decide_eq_true z3.2) big⟩
    · trivial
  · rintro x rfl
    exact of_decide_eq_true z.2
/-- what a word comes to -/
theorem res_cases (d : PyData) : (∃ x r, d = .str x ∧ resN d = .inl r ∧ parseN x = some r) ∨ ∃ n : Int, resN d = .inr n ∧ (n = 0 ∨ n = 1) := by
  cases d with
  | str x =>
    cases h : parseN x with
    | some r => exact .inl ⟨x, r, rfl, res_some h, h⟩
    | none => exact .inr ⟨1, res_none h, .inr rfl⟩
  | _ => exact .inr ⟨0, rfl, .inl rfl⟩
theorem ref_sz {n : Int} (h : n = 0 ∨ n = 1) : Tame (.list [.str "refused", .int n, .bool true]) := by
  rcases h with rfl | rfl
  · exact Sz.tame (n := 20) (k := 2) (Sz.of (by decide +kernel))
  · exact Sz.tame (n := 20) (k := 2) (Sz.of (by decide +kernel))
section
variable {P : Program} {w : World} {K : PySem.W.Frag} {mg : Str → Option Value} {c : Cls} {base : Heap} {a : Addr} {G : Hp} {S : List Addr} {H : Hp}
abbrev fixA : List PyData := [.str "2/4", .str "4/2", .str "3/1", .str "3/0", .str "0/2", .str "-0", .str "01", .str "1/02", .str "1/-2", .str "--1", .str "", .str "/", .str "1/", .str "/2", .str "1/2/3"]
abbrev fixB : List PyData := [.str "1_0", .str "1/1_1"]
theorem fix_len : ∀ d ∈ fixA ++ fixB, ∀ x, d = .str x → x.length ≤ 200 := by
  have h : (fixA ++ fixB).all (fun d => match d with
    | .str x => decide (x.length ≤ 200)
    | _ => true) = true := by decide +kernel
  rintro _ m x rfl
  exact of_decide_eq_true (List.all_eq_true.mp h _ m)
def OneOk (d : PyData) : Prop := ∀ x, d = .str x → x.length ≤ 200
abbrev FWo (P : Program) (w : World) (K : PySem.W.Frag) (mg : Str → Option Value) (base : Heap) : Prop := Df P w K mg base CX0 3 "_law_worth" ["_law_pot_here"] (spP K (fun ds => ds = []) (fun _ r => WV r))
abbrev FWr (P : Program) (w : World) (K : PySem.W.Frag) (mg : Str → Option Value) (base : Heap) : Prop := Df P w K mg base CX0 1 "_law_written" ["_law_thing"] (spG K (fun ds => ∃ d, ds = [d] ∧ isRatD d = true ∧ intsB 1000 d) (post1 fun d => .str (writtenD d)))
abbrev FOd (P : Program) (w : World) (K : PySem.W.Frag) (mg : Str → Option Value) (base : Heap) : Prop := Df P w K mg base CX0 2 "_law_odd" ["_law_pot_here"] (spP K (fun ds => ds = []) (fun _ r => r ∈ oddL))
abbrev FSp (P : Program) (w : World) (K : PySem.W.Frag) (mg : Str → Option Value) (base : Heap) : Prop := Df P w K mg base CX0 2 "_law_spoilt" ["_law_pot_here", "_law_words"] (spP K preSp postSp)
abbrev FPd (P : Program) (w : World) (K : PySem.W.Frag) (mg : Str → Option Value) (base : Heap) : Prop := Df P w K mg base CX0 4 "_law_parsed" ["_law_words"] (spG K preX (post1 dueT))
abbrev FDu (P : Program) (w : World) (K : PySem.W.Frag) (mg : Str → Option Value) (base : Heap) : Prop := Df P w K mg base CX0 3 "_law_due" ["_law_words"] (spG K preX (post1 dueT))
abbrev FRf (P : Program) (w : World) (K : PySem.W.Frag) (mg : Str → Option Value) (base : Heap) : Prop := Df P w K mg base CX0 5 "_law_refused" ["_law_thing"] (spG K (fun ds => ∃ d, ds = [d] ∧ Tame d ∧ intsB 1000 d) (post1 refD))
/-- calls by exact data -/
theorem ev_nt {σ : L2.St} {te : TE} {d : PyData} {E : L2.St → XK} (h : Ev K a G te σ (· = d)) (t : Tame d) (b : intsB 1000 d) (r : isRatD d = true) : Ev K a G (tCallX (spNT K c) [] E (tCons te tNil)) σ (· = .str (writtenD d)) := by
  refine ev_callXn (dds := []) (A1 := (· = [d])) (ea_eq h ea_nil) (fun _ => .nil) ?_ ?_ ?_
  · rintro _ rfl
    exact ⟨d, rfl, t, b⟩
  · rintro _ z rfl ⟨d', e, _, hz⟩
    injection e with e _
    rw [hz, e]
  · rintro _ z rfl ⟨d', e, hr, _⟩
    injection e with e _
    rw [← e, r] at hr
    cases hr
theorem ev_ntK {σ : L2.St} {te : TE} {d : PyData} {E : XK} (h : Ev K a G te σ (· = d)) (t : Tame d) (b : intsB 1000 d) (r : isRatD d = true) : Ev K a G (tCallK0 1 (spNT K c) idL E (tCons te tNil)) σ (· = .str (writtenD d)) := by
  refine ev_callXk (g := idL) (A1 := (· = [d])) (ea_eq h ea_nil) ?_ (fun _ h => h) ?_ ?_ ?_
  · rintro _ rfl
    rfl
  · rintro _ rfl
    exact ⟨d, rfl, t, b⟩
  · rintro _ z rfl ⟨d', e, _, hz⟩
    injection e with e _
    rw [hz, e]
  · rintro _ z rfl ⟨d', e, hr, _⟩
    injection e with e _
    rw [← e, r] at hr
    cases hr
theorem ev_pn {σ : L2.St} {te : TE} {x : Str} {d : PyData} {E : L2.St → XK} (h : Ev K a G te σ (· = .str x)) (hl : x.length ≤ 200) (r : parseN x = some d) : Ev K a G (tCallX (spPN K c) [] E (tCons te tNil)) σ (· = d) := by
  refine ev_callXn (dds := []) (A1 := (· = [.str x])) (ea_eq h ea_nil) (fun _ => .nil) ?_ ?_ ?_
  · rintro _ rfl
    refine ⟨_, rfl, ?_⟩
    rintro y e
    injection e with e
    rw [← e]
    exact hl
  · rintro _ z rfl ⟨d', e, hz⟩
    injection e with e _
    rw [← e, res_some r] at hz
    injection hz with hz
    exact hz.symm
  · rintro _ z rfl ⟨d', n, e, hz, _⟩
    injection e with e _
    rw [← e, res_some r] at hz
    cases hz
theorem ev_pnK {σ : L2.St} {te : TE} {x : Str} {d : PyData} {E : XK} (h : Ev K a G te σ (· = .str x)) (hl : x.length ≤ 200) (r : parseN x = some d) : Ev K a G (tCallK0 1 (spPN K c) idL E (tCons te tNil)) σ (· = d) := by
  refine ev_callXk (g := idL) (A1 := (· = [.str x])) (ea_eq h ea_nil) ?_ (fun _ h => h) ?_ ?_ ?_
  · rintro _ rfl
    rfl
  · rintro _ rfl
    refine ⟨_, rfl, ?_⟩
    rintro y e
    injection e with e
    rw [← e]
    exact hl
  · rintro _ z rfl ⟨d', e, hz⟩
    injection e with e _
    rw [← e, res_some r] at hz
    injection hz with hz
    exact hz.symm
  · rintro _ z rfl ⟨d', n, e, hz, _⟩
    injection e with e _
    rw [← e, res_some r] at hz
    cases hz
theorem ev_dueX {σ : L2.St} {te : TE} {d : PyData} {E : XK} (h : Ev K a G te σ (· = d)) (o : OneOk d) : Ev K a G (tCall (spG K preX (post1 dueT)) [] E (tCons te tNil)) σ (· = dueT d) := by
  refine ev_callG (ea_eq h ea_nil) ?_ ?_
  · rintro _ rfl
    exact ⟨d, rfl, o⟩
  · rintro _ r rfl ⟨d', e, rfl⟩
    injection e with e _
    rw [e]
end
end K14
--NEVER law _law_right _law_parsed _law_refused
set_option Elab.async false
set_option linter.all false
set_option maxRecDepth 100000
set_option maxHeartbeats 4000000
set_option exponentiation.threshold 2000
namespace K14
open PySem PySem.Spec L2 LK
open PyProof.Rows hiding St
open TL (tl numL)
open NumText (digitsVal AllDigits)
section
variable {P : Program} {w : World} {K : PySem.W.Frag} {mg : Str → Option Value} {c : Cls} {base : Heap} {a : Addr} {G : Hp} {S : List Addr} {H : Hp}
theorem q_forR {σ : L2.St} {te : TE} {g : TG} {tb : TS} {Dn : Ends} {cI : Int → Prop} (h : Ev K a G te σ (IsI cI)) (hb : ∀ i, cI i → 0 ≤ i ∧ i < 100000) (f : LK.Fr a S H) (s : Same G (off S H))
    (q : ∀ (n : Nat) H', Ext a H H' → LK.Fr a S H' → cI (n : Nat) → ∃ Pv : Nat → L2.St → Hp → Prop, Pv 0 σ H' ∧ (∀ i σ' H'', i < n → Pv i σ' H'' → g (.int (0 + (i : Nat))) σ' H'' fun σ2 H2 => tb { Dn with nx := Pv (i + 1), ct := Pv (i + 1), bk := Dn.nx } σ2 H2) ∧ ∀ σ' H'', Pv n σ' H'' → Dn.nx σ' H'') :
    tFor (iRng1 (tCons te tNil)) g tb Dn σ H := wr_range h hb f s _ fun n H2 x2 hn => by
  obtain ⟨Pv, h0, hs, hd⟩ := q n H2 x2 (f.ext x2) hn
  exact for_range (lo := 0) (n := n) Pv h0 hs hd
theorem q_forL {σ : L2.St} {te : TE} {g : TG} {tb : TS} {Dn : Ends} {A : List PyData → Prop} (h : Ev K a G te σ (fun d => ∃ ds, d = .list ds ∧ A ds)) (f : LK.Fr a S H) (s : Same G (off S H))
    (q : ∀ (L : Addr) (xs : List V) (ds : List PyData) H', Ext a H H' → LK.Fr a S H' → H' L = some (.lst xs) → L ∉ S → DA K (off S H') xs ds → A ds → ∃ Pv : Nat → L2.St → Hp → Prop, Pv 0 σ H' ∧ (∀ i σ' H'', Pv i σ' H'' → Ext a H' H'') ∧
      (∀ i x σ' H'', xs[i]? = some x → Pv i σ' H'' → g x σ' H'' fun σ2 H2 => tb { Dn with nx := Pv (i + 1), ct := Pv (i + 1), bk := Dn.nx } σ2 H2) ∧ ∀ σ' H'', Pv xs.length σ' H'' → Dn.nx σ' H'') :
    tFor (iList K te) g tb Dn σ H := h S H f s _ fun v d H2 x2 m c => by
  obtain ⟨ds, rfl, hA⟩ := c
  cases m with
  | @lst L xs _ hL mx =>
    have hLH : H2 L = some (.lst xs) := off_le _ _ hL
    have hLS : L ∉ S := (off_some hL).1
    obtain ⟨Pv, h0, he, hs, hd⟩ := q L xs ds H2 x2 (f.ext x2) hLH hLS mx hA
    refine ⟨L, rfl, ⟨_, SqL.of hLH⟩, for_list (K := K) (a := L) (xs := xs) Pv h0 ?_ hs hd⟩
    intro i σ' H' _ p
    exact SqL.of ((he i σ' H' p).keep L _ (fun e => hLS (e ▸ f.mem)) hLH)
theorem ok_l_right {f : Addr} {fd : FuncData} (F : Fun K "_law_right" "_law_right" s_l_right f fd) (T : Txt K mg c) (F_l_draw : DfD P w K mg base) (F_l_odd : FOd P w K mg base) (F_l_worth : FWo P w K mg base) (F_l_written : FWr P w K mg base) (F_l_spoilt : FSp P w K mg base)
    (F_l_parsed : FPd P w K mg base) (F_l_due : FDu P w K mg base) (F_l_is_ratio : FIR P w K mg base) (F_l_refused : FRf P w K mg base) (F_number_text : FNt P w K mg base c) (F_parse_number : FPn P w K mg base c)
    (KW_number_text_value : DfK P w K mg base (L2.CX P w) 4 "number_text" ["value"] ["value"] idL (spNT K c)) (KW_parse_number_text : DfK P w K mg base (L2.CX P w) 3 "parse_number" ["text"] ["text"] idL (spPN K c)) :
    FnG P w K mg base CX0 6 f fd ["_law_pot_here"] (spP K (fun ds => ds = []) (fun _ r => r = .bool true)) := by
  refine fun_okG F sc_l_right (fun vs H Q E h => spP_len (n := 0) (fun ds e => by rw [e]; rfl) h) (fun cdv A outer s H vs Q E hg hr h => ?_)
  obtain ⟨a, S, ws, ds, rfl, f, m, rfl, k⟩ := h
  cases m
  refine ⟨_, (pss_cons (ps_set (i := 1) sc_l_right.nd rfl (by first | exact Or.inl rfl | exact Or.inr rfl) (pe_fn F_l_worth hg (hr.mono (by decide)) (by rfl) pass0 (pa_cons (pv 0) pa_nil)))
    (pss_cons (ps_set (i := 2) sc_l_right.nd rfl (by first | exact Or.inl rfl | exact Or.inr rfl) (pe_fn F_l_written hg (hr.mono (by decide)) (by rfl) pass0 (pa_cons (pv 1) pa_nil)))
    (pss_cons (ps_if (pt_cmpR (kNe (K := K) hr.units) (pe_callB (kRepr (K := K) hg hr.units) (by rfl) T.b_repr (by decide +kernel) (pa_cons (pe_lst (pa_cons (pe_fnX F_number_text hg (hr.mono (by decide)) (by rfl) (fun σ => passAt takes0 σ) (pa_cons (pv 1) pa_nil)) (pa_cons (pe_kw0 KW_number_text_value hg (hr.mono (by decide)) (by rfl) (passes_call (W := fun _ _ _ _ => False) (E := E0) takes0 fun _ _ _ _ h => h) (pk_cons (pv 1) pk_nil)) pa_nil))) pa_nil)) (pe_callB (kRepr (K := K) hg hr.units) (by rfl) T.b_repr (by decide +kernel) (pa_cons (pe_lst (pa_cons (pv 2) (pa_cons (pv 2) pa_nil))) pa_nil)) (nomark _))
    (pss_one (ps_ret pe_bl))
    pss_nil)
    (pss_cons (ps_if (pt_cmpR (kNe (K := K) hr.units) (pe_callB (kRepr (K := K) hg hr.units) (by rfl) T.b_repr (by decide +kernel) (pa_cons (pe_lst (pa_cons (pe_fnX F_parse_number hg (hr.mono (by decide)) (by rfl) (fun σ => passAt takes0 σ) (pa_cons (pv 2) pa_nil)) (pa_cons (pe_kw0 KW_parse_number_text hg (hr.mono (by decide)) (by rfl) (passes_call (W := fun _ _ _ _ => False) (E := E0) takes0 fun _ _ _ _ h => h) (pk_cons (pv 2) pk_nil)) pa_nil))) pa_nil)) (pe_callB (kRepr (K := K) hg hr.units) (by rfl) T.b_repr (by decide +kernel) (pa_cons (pe_lst (pa_cons (pv 1) (pa_cons (pv 1) pa_nil))) pa_nil)) (nomark _))
    (pss_one (ps_ret pe_bl))
    pss_nil)
    (pss_cons (ps_set (i := 3) sc_l_right.nd rfl (by first | exact Or.inl rfl | exact Or.inr rfl) (pv 2))
    (pss_cons (ps_for PassesOwn.never rfl (pi_range1 (by rfl) T.b_range (pa_cons (pe_op (kAdd (K := K)) pe_int (pe_fn F_l_draw hg (hr.mono (by decide)) (by rfl) pass0 (pa_cons (pv 0) (pa_cons pe_int pa_nil)))) pa_nil)) (pg_name (i := 4) sc_l_right.nd rfl (by first | exact Or.inl rfl | exact Or.inr rfl))
    (pss_one (ps_set (i := 3) sc_l_right.nd rfl (by first | exact Or.inl rfl | exact Or.inr rfl) (pe_fn F_l_spoilt hg (hr.mono (by decide)) (by rfl) pass0 (pa_cons (pv 0) (pa_cons (pv 3) pa_nil))))))
    (pss_cons (ps_set (i := 5) sc_l_right.nd rfl (by first | exact Or.inl rfl | exact Or.inr rfl) (pe_lst (pa_cons pe_str (pa_cons pe_str (pa_cons pe_str (pa_cons pe_str (pa_cons pe_str (pa_cons pe_str (pa_cons pe_str (pa_cons pe_str (pa_cons pe_str (pa_cons pe_str (pa_cons pe_str (pa_cons pe_str (pa_cons pe_str (pa_cons pe_str (pa_cons pe_str pa_nil)))))))))))))))))
    (pss_cons (ps_set (i := 5) sc_l_right.nd rfl (by first | exact Or.inl rfl | exact Or.inr rfl) (pe_op (kAdd (K := K)) (pv 5) (pe_lst (pa_cons pe_str (pa_cons pe_str pa_nil)))))
    (pss_cons (ps_for PassesOwn.never rfl (pi_list (pe_lst (pa_cons (pv 3) (pa_cons (pe_ix (kIx (K := K)) (pv 5) (pe_fn F_l_draw hg (hr.mono (by decide)) (by rfl) pass0 (pa_cons (pv 0) (pa_cons (pe_callB (kLen (K := K)) (by rfl) T.b_len (by decide +kernel) (pa_cons (pv 5) pa_nil)) pa_nil))) (fun _ _ => rfl)) (pa_cons pe_str (pa_cons pe_str (pa_cons (pe_fn F_l_odd hg (hr.mono (by decide)) (by rfl) pass0 (pa_cons (pv 0) pa_nil)) pa_nil))))))) (pg_name (i := 6) sc_l_right.nd rfl (by first | exact Or.inl rfl | exact Or.inr rfl))
    (pss_cons (ps_set (i := 7) sc_l_right.nd rfl (by first | exact Or.inl rfl | exact Or.inr rfl) (pe_fn F_l_parsed hg (hr.mono (by decide)) (by rfl) pass0 (pa_cons (pv 6) pa_nil)))
    (pss_one (ps_if (PW.pt (pw_or (pt_cmpR (kNe (K := K) hr.units) (pe_callB (kRepr (K := K) hg hr.units) (by rfl) T.b_repr (by decide +kernel) (pa_cons (pv 7) pa_nil)) (pe_callB (kRepr (K := K) hg hr.units) (by rfl) T.b_repr (by decide +kernel) (pa_cons (pe_fn F_l_due hg (hr.mono (by decide)) (by rfl) pass0 (pa_cons (pv 6) pa_nil)) pa_nil)) (nomark _)) (pw_or1 (PW.pt (pw_and (pt_val (pe_fn F_l_is_ratio hg (hr.mono (by decide)) (by rfl) pass0 (pa_cons (pv 7) pa_nil))) (pw_and1 (pt_cmpR (kNe (K := K) hr.units) (pe_fnX F_number_text hg (hr.mono (by decide)) (by rfl) (fun σ => passAt takes0 σ) (pa_cons (pv 7) pa_nil)) (pv 6) (nomark _))))))))
    (pss_one (ps_ret pe_bl))
    pss_nil))))
    (pss_cons (ps_set (i := 8) sc_l_right.nd rfl (by first | exact Or.inl rfl | exact Or.inr rfl) (pe_fn F_l_odd hg (hr.mono (by decide)) (by rfl) pass0 (pa_cons (pv 0) pa_nil)))
    (pss_one (ps_ret (pe_or (pe_fn F_l_is_ratio hg (hr.mono (by decide)) (by rfl) pass0 (pa_cons (pv 8) pa_nil)) (pe_one (pe_cmpR (kEq (K := K) hr.units) (pe_callB (kRepr (K := K) hg hr.units) (by rfl) T.b_repr (by decide +kernel) (pa_cons (pe_fn F_l_refused hg (hr.mono (by decide)) (by rfl) pass0 (pa_cons (pv 8) pa_nil)) pa_nil)) (pe_callB (kRepr (K := K) hg hr.units) (by rfl) T.b_repr (by decide +kernel) (pa_cons (pe_lst (pa_cons (pv 8) pa_nil)) pa_nil)) (nomark _)))))))))))))))), ?_⟩
  have odd : ∀ {σ : L2.St} {G : Hp}, σ[0]? = some (some (.ref a)) → Ev K a G (tCall (spP K (fun ds => ds = []) (fun _ r => r ∈ oddL)) [] E0 (tCons (tVar 0) tNil)) σ OddV := fun h => ev_callP (C := OddV) h ea_nil (fun _ e => e) (fun _ _ _ h => odd_ok _ h)
  refine q_set (K := K) (σ := [some (.ref a), none, none, none, none, none, none, none, none]) (C := WV) (ev_callP (C := WV) rfl ea_nil (fun _ e => e) (fun _ _ _ h => h)) f (Same.refl _) ?_
  rintro v1 d H1 x1 f1 m1 hd
  have bd : intsB 1000 d := ints_up hd.b (by decide)
  have sd := sz_ints bd hd.r
  obtain ⟨wl, wc⟩ := written_ok hd
  have pw := parse_written hd.r
  refine q_set (K := K) (σ := [some (.ref a), some v1, none, none, none, none, none, none, none]) (C := (· = .str (writtenD d))) (ev_callG (ea_eq (ev_var rfl m1) ea_nil) ?_ ?_) f1 (Same.refl _) ?_
  · rintro _ rfl
    exact ⟨d, rfl, hd.r, bd⟩
  · rintro _ r rfl ⟨d', e, rfl⟩
    injection e with e _
    rw [e]
  obtain ⟨x, hw⟩ : ∃ x, writtenD d = x := ⟨_, rfl⟩
  rw [hw] at wl wc pw
  rintro v2 _ H2 x2 f2 m2 rfl
  rw [hw] at m2
  have m1 := m1.mono (x2.off f.mem)
  cases m2
  have sx : Sz 200 0 (.str x) := (str_sz wc).up (by omega) (by decide)
  have td : Tame d := sd.tame
  have l2 : ∀ n : Nat, n = 2 → n ≤ 1000 := fun n h => by omega
  refine q_if (σ := [some (.ref a), some v1, some (.str x), none, none, none, none, none, none]) (B := (· = false)) (et_test (Ev.imp (ev_neS (K := K) (ev_reprE (d := .list [.str x, .str x]) (ev_lstE (ea_eq (Ev.imp (ev_nt (ev_var rfl m1) td bd hd.r) fun _ e => by rw [e, hw]) (ea_eq (Ev.imp (ev_ntK (ev_var rfl m1) td bd hd.r) fun _ e => by rw [e, hw]) ea_nil)) (l2 _ rfl)) (two_tame sx))
    (ev_reprE (d := .list [.str x, .str x]) (ev_lstE (ea_eq (ev_var rfl (.str x)) (ea_eq (ev_var rfl (.str x)) ea_nil)) (l2 _ rfl)) (two_tame sx))) ?_)) f2 (Same.refl _) (fun H3 x3 f3 e3 => ?_) (fun H3 x3 f3 e3 => ?_)
  · rintro _ rfl
    exact ⟨_, rfl, by simp⟩
  · cases e3
  have m1 := m1.mono (x3.off f.mem)
  refine q_if (σ := [some (.ref a), some v1, some (.str x), none, none, none, none, none, none]) (B := (· = false)) (et_test (Ev.imp (ev_neS (K := K) (ev_reprE (d := .list [d, d]) (ev_lstE (ea_eq (ev_pn (ev_var rfl (.str x)) (by omega) pw) (ea_eq (ev_pnK (ev_var rfl (.str x)) (by omega) pw) ea_nil)) (l2 _ rfl)) (two_tame sd))
    (ev_reprE (d := .list [d, d]) (ev_lstE (ea_eq (ev_var rfl m1) (ea_eq (ev_var rfl m1) ea_nil)) (l2 _ rfl)) (two_tame sd))) ?_)) f3 (Same.refl _) (fun H4 x4 f4 e4 => ?_) (fun H4 x4 f4 e4 => ?_)
  · rintro _ rfl
    exact ⟨_, rfl, by simp⟩
  · cases e4
  have m1 := m1.mono (x4.off f.mem)
  have x04 := ((x1.trans x2).trans x3).trans x4
  refine q_set (K := K) (σ := [some (.ref a), some v1, some (.str x), none, none, none, none, none, none]) (ev_var rfl (.str x)) f4 (Same.refl _) ?_
  rintro v3 _ H5 x5 f5 m3 rfl
  cases m3
  refine q_forR (K := K) (σ := [some (.ref a), some v1, some (.str x), some (.str x), none, none, none, none, none]) (cI := fun i => 1 ≤ i ∧ i ≤ 2) (ev_addI (cI := (· = 1)) (cJ := fun i => 0 ≤ i ∧ i < 2) (ev_isI ev_i rfl) (ev_draw rfl ev_i (by decide) (by decide)) ?_) ?_ f5 (Same.refl _) fun n H6 x6 f6 hn => ?_
  · rintro _ j rfl hj
    omega
  · intro i hi
    omega
  refine ⟨fun i σ H' => ∃ (y4 : Option V) (y : Str), σ = [some (.ref a), some v1, some (.str x), some (.str y), y4, none, none, none, none] ∧ y.length ≤ 125 + i ∧ Ext a H6 H' ∧ LK.Fr a S H', ⟨none, x, rfl, wl, Ext.refl, f6⟩, ?_, ?_⟩
  · rintro i σ H' hi ⟨y4, y, rfl, ly, x', f'⟩
    refine q_set (K := K) (σ := [some (.ref a), some v1, some (.str x), some (.str y), some (.int (0 + (i : Nat))), none, none, none, none]) (C := fun d => ∃ z : Str, d = .str z ∧ z.length ≤ y.length + 1) (ev_callP (C := fun d => ∃ z : Str, d = .str z ∧ z.length ≤ y.length + 1) rfl (ea_eq (ev_var rfl (.str y)) ea_nil) ?_ ?_) f' (Same.refl _) ?_
    · rintro _ rfl
      exact ⟨y, rfl, by omega⟩
    · rintro _ r rfl ⟨x', y', e, rfl, l⟩
      injection e with e _
      injection e with e
      rw [e]
      exact ⟨y', rfl, l⟩
    · rintro v7 _ H7 x7 f7 m7 ⟨z, rfl, lz⟩
      cases m7
      exact ⟨_, z, rfl, by omega, x'.trans x7, f7⟩
  rintro σ H7 ⟨y4, y, rfl, ly, x7, f7⟩
  have x07 := ((x04.trans x5).trans x6).trans x7
  have ly2 : y.length ≤ 200 := by omega
  refine q_set (K := K) (σ := [some (.ref a), some v1, some (.str x), some (.str y), y4, none, none, none, none]) (C := (· = .list fixA)) (ev_lstE (ea_eq ev_s (ea_eq ev_s (ea_eq ev_s (ea_eq ev_s (ea_eq ev_s (ea_eq ev_s (ea_eq ev_s (ea_eq ev_s (ea_eq ev_s (ea_eq ev_s (ea_eq ev_s (ea_eq ev_s (ea_eq ev_s (ea_eq ev_s (ea_eq ev_s ea_nil))))))))))))))) (by show 15 ≤ 1000; decide)) f7 (Same.refl _) ?_
  rintro v8 _ H8 x8 f8 m8 rfl
  refine q_set (K := K) (σ := [some (.ref a), some v1, some (.str x), some (.str y), y4, some v8, none, none, none]) (C := (· = .list (fixA ++ fixB))) (ev_catL (ds := fixA) (es := fixB) (ev_var rfl m8) (ev_lstE (ea_eq ev_s (ea_eq ev_s ea_nil)) (by show 2 ≤ 1000; decide)) (by decide)) f8 (Same.refl _) ?_
  rintro v9 _ H9 x9 f9 m9 rfl
  have el : ∀ {G : Hp}, D K G v9 (.list (fixA ++ fixB)) → Ev K a G (tCB (rLenA K) (tCons (tVar 5) tNil)) [some (.ref a), some v1, some (.str x), some (.str y), y4, some v9, none, none, none] (· = .int 17) := fun m => Ev.imp (ev_len (cI := (· = 17)) (ev_var rfl m) (by
    rintro _ rfl
    exact ⟨17, rfl, by decide, rfl⟩)) (by
    rintro _ ⟨i, rfl, rfl⟩
    rfl)
  have o5 : ∀ ds : List PyData, (∃ d r, ds = d :: r ∧ OneOk d ∧ ∃ d r', r = d :: r' ∧ OneOk d ∧ ∃ d r'', r' = d :: r'' ∧ OneOk d ∧ ∃ d r3, r'' = d :: r3 ∧ OneOk d ∧ ∃ d r4, r3 = d :: r4 ∧ OneOk d ∧ r4 = []) → ds.length = 5 ∧ ∀ z ∈ ds, OneOk z := by
    rintro ds ⟨d1, r1, rfl, h1, d2, r2, rfl, h2, d3, r3, rfl, h3, d4, r4, rfl, h4, d5, r5, rfl, h5, rfl⟩
    refine ⟨rfl, fun z m => ?_⟩
    simp only [List.mem_cons, List.not_mem_nil, or_false] at m
    rcases m with rfl | rfl | rfl | rfl | rfl <;> assumption
  refine q_forL (K := K) (σ := [some (.ref a), some v1, some (.str x), some (.str y), y4, some v9, none, none, none]) (ev_lst (K := K) (a := a) (ea_cons (C := OneOk) (Ev.imp (ev_var rfl (.str y)) ?_) (ea_cons (C := OneOk) (Ev.imp (ev_pick (ds := fixA ++ fixB) (ev_var rfl m9) (ev_draw rfl (el m9) (by decide) (by decide))) ?_) (ea_cons (C := OneOk) (Ev.imp ev_s ?_) (ea_cons (C := OneOk) (Ev.imp ev_s ?_) (ea_cons (C := OneOk) (Ev.imp (odd rfl) ?_) ea_nil))))) ?_) f9 (Same.refl _) fun L xs dsl H10 x10 f10 hLH hLS mx hc => ?_
  · rintro _ rfl z e
    injection e with e
    rw [← e]
    exact ly2
  · intro d hd
    exact fix_len d hd
  · rintro _ rfl z e
    injection e with e
    rw [← e]
    decide +kernel
  · rintro _ rfl z e
    injection e with e
    rw [← e]
    decide +kernel
  · intro d hd
    exact hd.s
  · intro ds h
    rw [(o5 ds h).1]
    decide
  obtain ⟨_, hall⟩ := o5 dsl hc
  have x0a := ((x07.trans x8).trans x9).trans x10
  refine ⟨fun i σ H' => ∃ (y6 y7 : Option V), σ = [some (.ref a), some v1, some (.str x), some (.str y), y4, some v9, y6, y7, none] ∧ Ext a H10 H' ∧ LK.Fr a S H', ⟨none, none, rfl, Ext.refl, f10⟩, ?_, ?_, ?_⟩
  · rintro i σ H' ⟨_, _, _, x', _⟩
    exact x'
  · rintro i v6 σ H' hi ⟨y6, y7, rfl, x', f'⟩
    obtain ⟨z, hz, mz⟩ := mx.getV hi
    have oz : OneOk z := hall z (List.mem_of_getElem? hz)
    have mz := mz.mono (x'.off f.mem)
    refine q_set (K := K) (σ := [some (.ref a), some v1, some (.str x), some (.str y), y4, some v9, some v6, y7, none]) (C := (· = dueT z)) (ev_dueX (ev_var rfl mz) oz) f' (Same.refl _) ?_
    rintro v7 _ H11 x11 f11 m7 rfl
    have mz := mz.mono (x11.off f.mem)
    have tz : Tame (dueT z) := by
      rcases res_cases z with ⟨x', r, rfl, e, hp⟩ | ⟨n, e, hn⟩
      · rw [due_in e]
        exact (sz_ints (ints_up (parse_bound hp (oz _ rfl)) (by decide)) (written_parse hp).2).tame
      · rw [due_no e]
        exact ref_sz hn
    refine q_if (σ := [some (.ref a), some v1, some (.str x), some (.str y), y4, some v9, some v6, some v7, none]) (B := (· = false)) (et_or (B1 := (· = false)) (et_test (Ev.imp (ev_neS (K := K) (ev_reprE (ev_var rfl m7) tz) (ev_reprE (ev_dueX (ev_var rfl mz) oz) tz)) ?_)) (fun _ => ?_) (fun h => by cases h)) f11 (Same.refl _) (fun H12 x12 f12 e12 => ?_) (fun H12 x12 f12 e12 => ?_)
    · rintro _ rfl
      exact ⟨_, rfl, by simp⟩
    · rcases res_cases z with ⟨x', r, rfl, e, hp⟩ | ⟨n, e, hn⟩
      · have hr := written_parse hp
        rw [due_in e] at m7 tz
        refine et_and (B1 := (· = true)) (et_val (Ev.imp (ev_callT (K := K) (fn := fun d => .bool (isRatD d)) (ev_var rfl m7) tz) ?_)) (fun _ => et_test (Ev.imp (ev_neS (K := K) (ev_nt (ev_var rfl m7) tz (ints_up (parse_bound hp (oz _ rfl)) (by decide)) hr.2) (ev_var rfl mz)) ?_)) (fun h => by cases h)
        · rintro _ rfl
          exact ⟨_, rfl, hr.2⟩
        · rintro _ rfl
          refine ⟨_, rfl, ?_⟩
          rw [decide_eq_true hr.1]
          rfl
      · rw [due_no e] at m7 tz
        refine et_and (B1 := (· = false)) (et_val (Ev.imp (ev_callT (K := K) (fn := fun d => .bool (isRatD d)) (ev_var rfl m7) tz) ?_)) (fun h => by cases h) (fun _ => rfl)
        rintro _ rfl
        exact ⟨_, rfl, rfl⟩
    · cases e12
    · exact ⟨_, _, rfl, (x'.trans x11).trans x12, f12⟩
  · rintro σ H11 ⟨y6, y7, rfl, x', f'⟩
    refine q_set (K := K) (σ := [some (.ref a), some v1, some (.str x), some (.str y), y4, some v9, y6, y7, none]) (C := OddV) (odd rfl) f' (Same.refl _) ?_
    rintro v8' od H12 x12 f12 m12 ho
    have to := ho.sz.tame
    refine q_ret (K := K) (σ := [some (.ref a), some v1, some (.str x), some (.str y), y4, some v9, y6, y7, some v8']) (C := (· = .bool true)) (ev_orV (B := (· = isRatD od)) (Ev.imp (ev_callT (fn := fun d => .bool (isRatD d)) (ev_var rfl m12) to) ?_) (fun h => Ev.imp (ev_eqS (x := (PyData.list [od]).shown) (y := (PyData.list [od]).shown) (ev_reprE (d := .list [od]) (ev_callG (ea_eq (ev_var rfl m12) ea_nil) ?_ ?_) (one_tame ho.sz)) (ev_reprE (ev_lstE (ea_eq (ev_var rfl m12) ea_nil) (by show 1 ≤ 1000; decide)) (one_tame ho.sz))) ?_) ?_) f12 (Same.refl _) ?_
    · rintro _ rfl
      exact ⟨_, rfl, rfl⟩
    · rintro _ rfl
      exact ⟨od, rfl, to, ho.b⟩
    · rintro _ r rfl ⟨d', e, rfl⟩
      injection e with e _
      subst e
      unfold refD
      rw [if_neg (by rw [← h]; exact Bool.false_ne_true)]
    · rintro _ rfl
      rw [decide_eq_true rfl]
    · intro _
      rfl
    · rintro v9 _ H13 x13 m13 rfl
      exact k _ _ H13 (((x0a.trans x').trans x12).trans x13) m13 rfl
end
end K14
--NEVER law _law_right _law_parsed _law_refused
set_option Elab.async false
set_option linter.all false
set_option maxRecDepth 100000
set_option maxHeartbeats 4000000
namespace K14
open PySem PySem.Spec L2 LK
open PyProof.Rows hiding St
def revL {α : Type} (l : List α) : List α := l.reverse
section
variable {P : Program} {w : World} {K : PySem.W.Frag} {mg : Str → Option Value} {c : Cls} {base : Heap} {a : Addr} {G : Hp} {S : List Addr} {H : Hp}
def spLaw (K : PySem.W.Frag) : Sp := fun vs H Q _ => ∃ (s : Addr) (ns : List Int), vs = [.ref s] ∧ SqL K H s (ns.map V.int) ∧ ns.length ≤ 63 ∧ ∀ H', Q (.bl true) H'
theorem Ext.same_of {p : Addr} {H0 H H' : Hp} (hp : H0 p = none) (s : Same H0 H) (x : Ext p H H') : Same H0 H' := fun b o e => x.keep b o (ne_of_none e hp) (s b o e)
theorem Fr.one {p : Addr} {H : Hp} (h : PotAt H p) : Fr p [p] H := ⟨List.mem_singleton.mpr rfl, h, fun b m => by
  rw [List.mem_singleton.mp m]
  obtain ⟨x, y, e, _⟩ := h
  exact ⟨_, e⟩⟩
theorem ok_law {f : Addr} {fd : FuncData} (F : Fun K "law" "law" s_law f fd) (T : Txt K mg c)
    (F_l_pot : Df P w K mg base CX0 1 "_law_pot" ["_law_script", "_law_k"] (spPot K)) (F_l_right : Df P w K mg base CX0 6 "_law_right" ["_law_pot_here"] (spP K (fun ds => ds = []) (fun _ r => r = .bool true))) :
    FnG P w K mg base CX0 7 f fd ["_law_script"] (spLaw K) := by
  refine fun_okG F sc_law (fun vs H Q E h => ?_) (fun cdv A outer s H vs Q E hg hr h => ?_)
  · obtain ⟨s, ns, rfl, _⟩ := h
    rfl
  obtain ⟨s, ns, rfl, hs, hl, k⟩ := h
  refine ⟨_, (pss_cons (ps_for PassesOwn.never rfl (pi_range1 (by rfl) T.b_range (pa_cons (pe_callB (call_max2 rfl) (by rfl) T.b_max (by decide +kernel) (pa_cons pe_int (pa_cons (pe_callB (call_min2 rfl) (by rfl) T.b_min (by decide +kernel) (pa_cons pe_int (pa_cons (pe_callB (kLen (K := K)) (by rfl) T.b_len (by decide +kernel) (pa_cons (pv 0) pa_nil)) pa_nil))) pa_nil))) pa_nil)) (pg_name (i := 1) sc_law.nd rfl (by first | exact Or.inl rfl | exact Or.inr rfl))
    (pss_cons (ps_set (i := 2) sc_law.nd rfl (by first | exact Or.inl rfl | exact Or.inr rfl) (pe_fn F_l_pot hg (hr.mono (by decide)) (by rfl) pass0 (pa_cons (pv 0) (pa_cons (pv 1) pa_nil))))
    (pss_one (ps_if (pt_not (pt_val (pe_callB (kAll (K := K) rfl) (by rfl) T.b_all (by decide +kernel) (pa_cons (pe_lc (own := [("_law_turn", 3)]) rfl sc_law.nd (pi_range1 (by rfl) T.b_range (pa_cons pe_int pa_nil)) (blkOk_by (N := ["_law_script", "_law_k", "_law_pot_here", "_law_turn"]) (sc := defScope s_law) (by decide +kernel)) (fun _ _ _ _ _ => (pg_name (i := 3) sc_law.nd rfl (by first | exact Or.inl rfl | exact Or.inr rfl))) (fun _ _ _ _ _ => pts_nil) (fun _ _ _ _ _ => (pe_fn F_l_right hg (hr.mono (by decide)) (by rfl) pass0 (pa_cons (pv 2) pa_nil)))) pa_nil))))
    (pss_one (ps_ret pe_bl))
    pss_nil))))
    (pss_one (ps_ret pe_bl))), ?_⟩
  have hz : 1 ≤ (if (if (((ns.map V.int).length : Nat) : Int) < 5 then (((ns.map V.int).length : Nat) : Int) else 5) > 1 then (if (((ns.map V.int).length : Nat) : Int) < 5 then (((ns.map V.int).length : Nat) : Int) else 5) else 1) ∧
      (if (if (((ns.map V.int).length : Nat) : Int) < 5 then (((ns.map V.int).length : Nat) : Int) else 5) > 1 then (if (((ns.map V.int).length : Nat) : Int) < 5 then (((ns.map V.int).length : Nat) : Int) else 5) else 1) ≤ 5 := by
    split <;> split <;> omega
  obtain ⟨z1, z6⟩ := hz
  refine ⟨.ref s, rfl, .ref s, _, rfl, .inl ⟨_, hs, rfl⟩, 5, _, rfl, 1, _, rfl, _, rfl, by omega, by omega, ?_⟩
  generalize (if (if (((ns.map V.int).length : Nat) : Int) < 5 then (((ns.map V.int).length : Nat) : Int) else 5) > 1 then (if (((ns.map V.int).length : Nat) : Int) < 5 then (((ns.map V.int).length : Nat) : Int) else 5) else 1) = z at z1 z6
  refine for_range (lo := 0) (n := z.toNat) (fun i σ H' => ∃ x1 x2 x3, σ = [some (.ref s), x1, x2, x3] ∧ Same H H' ∧ (0 < i → ∃ p, PotAt H' p)) ⟨none, none, none, rfl, Same.refl H, fun h => absurd h (Nat.lt_irrefl 0)⟩ ?_ ?_
  · rintro i σ H1 hi ⟨x1, x2, x3, rfl, s1, _⟩
    refine ⟨.ref s, rfl, _, rfl, s, ns, i, by rw [List.append_nil, Int.zero_add], s1.seq hs, by omega, fun p H2 s2 hp pot => ?_⟩
    have s02 := s1.trans s2
    have hp0 : H p = none := s1.free hp
    have f2 := Fr.one pot
    refine q_if (a := p) (S := [p]) (G := off [p] H2) (σ := [some (.ref s), some (.int (0 + (i : Nat))), some (.ref p), x3]) (B := (· = false)) (et_not (B1 := (· = true)) (et_val (ev_all (K := K) (ev_lcR (cI := (· = 8)) (Y := fun _ z => z = .bool true) (ev_isI ev_i rfl) (by rintro _ rfl; decide) (fun _ => rfl) (fun i => ?_)) ?_)) ?_) f2 (Same.refl _) ?_ ?_
    · exact ev_callP (C := (· = .bool true)) rfl ea_nil (fun _ e => e) (fun _ _ _ h => h)
    · rintro _ ⟨n, ds, _, rfl, _, hY⟩
      refine ⟨ds.map fun _ => true, ?_, ?_⟩
      · congr 1
        apply List.ext_getElem?
        intro j
        rw [List.getElem?_map, List.getElem?_map]
        by_cases hj : j < ds.length
        · rw [List.getElem?_eq_getElem hj]
          have := hY j ds[j] (List.getElem?_eq_getElem hj)
          rw [this]
          rfl
        · rw [List.getElem?_eq_none (by omega)]
          rfl
      · show _ = true
        simp
    · rintro _ rfl
      rfl
    · intro H3 x3' f3 e
      cases e
    · intro H3 x3' f3 e
      exact ⟨_, _, _, rfl, Ext.same_of hp0 s02 x3', fun _ => ⟨p, f3.pot⟩⟩
  · rintro σ H1 ⟨x1, x2, x3, rfl, s1, hp⟩
    exact k H1
end
/-! ### the end -/
theorem binds1 {K : PySem.W.Frag} {x qual : Str} {st : Stmt} {f : Addr} {fd : FuncData} {p : Str} (F : Fun K x qual st f fd)
    (h : ∀ (kV doc pm : Value) (an : Option Addr) (cdv ct : Value) (u : Value), bindArgs (PySem.W.fnOf x qual (defArgs st) (defBody st) (defScope st) .none kV doc pm an cdv ct) ⟨[], [(p, u)]⟩ = pure [(p, u)]) : KB0 K fd [p] [p] idL := by
  obtain ⟨oc, od, kV, doc, pm, an, cdv, ct, osl, rfl, lk, hcd⟩ := F.ex
  refine ⟨fun s ws _ hl => ?_, fun r => r⟩
  match ws, hl with
  | [u], _ => exact .of_eq (h kV doc pm an cdv ct u)
theorem all_mk {l : PySem.W.OpenLaw} {w : World} {K : PySem.W.Frag} {h : Heap} {mg : Str → Option Value} {fa : Addr} (X : K.In h) (G : h.Ns mainGlobals mg) (hfa : mg "law" = some (.ref fa))
    {f0 f1 f2 f3 f4 f5 f6 f7 f8 f9 f10 f11 f12 f13 f14 f15 f16 f17 f18 f19 f20 f21 f22 f23 : Addr} {od0 an0 od1 an1 od2 an2 od3 an3 od4 an4 od5 an5 od6 an6 od7 an7 od8 an8 od9 an9 od10 an10 od11 an11 od12 an12 od13 an13 od14 an14 od15 an15 od16 an16 od17 an17 od18 an18 od19 an19 od20 an20 od21 an21 od22 an22 od23 an23 : Option Addr} {sl0 sl1 sl2 sl3 sl4 sl5 sl6 sl7 sl8 sl9 sl10 sl11 sl12 sl13 sl14 sl15 sl16 sl17 sl18 sl19 sl20 sl21 sl22 sl23 : Array (Option Value)} {oc0 kV0 dc0 pm0 cd0 ct0 oc1 kV1 dc1 pm1 cd1 ct1 oc2 kV2 dc2 pm2 cd2 ct2 oc3 kV3 dc3 pm3 cd3 ct3 oc4 kV4 dc4 pm4 cd4 ct4 oc5 kV5 dc5 pm5 cd5 ct5 oc6 kV6 dc6 pm6 cd6 ct6 oc7 kV7 dc7 pm7 cd7 ct7 oc8 kV8 dc8 pm8 cd8 ct8 oc9 kV9 dc9 pm9 cd9 ct9 oc10 kV10 dc10 pm10 cd10 ct10 oc11 kV11 dc11 pm11 cd11 ct11 oc12 kV12 dc12 pm12 cd12 ct12 oc13 kV13 dc13 pm13 cd13 ct13 oc14 kV14 dc14 pm14 cd14 ct14 oc15 kV15 dc15 pm15 cd15 ct15 oc16 kV16 dc16 pm16 cd16 ct16 oc17 kV17 dc17 pm17 cd17 ct17 oc18 kV18 dc18 pm18 cd18 ct18 oc19 kV19 dc19 pm19 cd19 ct19 oc20 kV20 dc20 pm20 cd20 ct20 oc21 kV21 dc21 pm21 cd21 ct21 oc22 kV22 dc22 pm22 cd22 ct22 oc23 kV23 dc23 pm23 cd23 ct23 : Value}
    {C_LastheldError : Addr} (a_LastheldError : PySem.W.nsIn K mainGlobals "LastheldError" = some (some (.ref C_LastheldError)))
    {C_MissingError : Addr} (a_MissingError : PySem.W.nsIn K mainGlobals "MissingError" = some (some (.ref C_MissingError)))
    {C_StateError : Addr} (a_StateError : PySem.W.nsIn K mainGlobals "StateError" = some (some (.ref C_StateError)))
    {C_LimitError : Addr} (a_LimitError : PySem.W.nsIn K mainGlobals "LimitError" = some (some (.ref C_LimitError)))
    {C_InvalidNumber : Addr} (a_InvalidNumber : PySem.W.nsIn K mainGlobals "InvalidNumber" = some (some (.ref C_InvalidNumber)))
    {C_InvalidText : Addr} (a_InvalidText : PySem.W.nsIn K mainGlobals "InvalidText" = some (some (.ref C_InvalidText)))
    (rd_LastheldError : PySem.W.readsIn K C_LastheldError (.type "type") = true) (ga_LastheldError : PySem.W.specialIn K (.ref C_LastheldError) "__getattribute__" = some (some (.builtin "type.__getattribute__"))) (it_LastheldError : PySem.W.findCls K (.ref C_LastheldError) (.type "type") "__init__" = some (.val (.builtin "ValueError.__init__")))
    (occ1 : PySem.W.specialIn K (.builtin "object.__class__") "__get__" = some (some (.builtin "getset_descriptor.__get__"))) (occ2 : PySem.W.takesIn K (.builtin "object.__class__") = some true)
    (ic_InvalidNumber : PySem.W.isClsIn K C_InvalidNumber = true) (ty_InvalidNumber : PySem.W.typeIn K (.ref C_InvalidNumber) = some (.type "type"))
    (ic_LimitError : PySem.W.isClsIn K C_LimitError = true) (ty_LimitError : PySem.W.typeIn K (.ref C_LimitError) = some (.type "type"))
    (ic_MissingError : PySem.W.isClsIn K C_MissingError = true) (ty_MissingError : PySem.W.typeIn K (.ref C_MissingError) = some (.type "type"))
    (ic_StateError : PySem.W.isClsIn K C_StateError = true) (ty_StateError : PySem.W.typeIn K (.ref C_StateError) = some (.type "type"))
    (ic_LastheldError : PySem.W.isClsIn K C_LastheldError = true) (ty_LastheldError : PySem.W.typeIn K (.ref C_LastheldError) = some (.type "type"))
    {nm_InvalidNumber q_InvalidNumber : Str} {N_InvalidNumber : Addr} {bs_InvalidNumber sb_InvalidNumber : List Value} {sn_InvalidNumber : List Str} {ab_InvalidNumber : Bool} {co_InvalidNumber : Option Bool} {dd_InvalidNumber : Option Addr} {m0_InvalidNumber m1_InvalidNumber m2_InvalidNumber m3_InvalidNumber m5_InvalidNumber : Option Value}
    (x_InvalidNumber : K.lookup C_InvalidNumber = some (excClassObj nm_InvalidNumber q_InvalidNumber C_InvalidNumber N_InvalidNumber bs_InvalidNumber [(.ref C_LastheldError), (.type "ValueError"), (.type "Exception"), (.type "BaseException"), (.type "object")] true sn_InvalidNumber sb_InvalidNumber ab_InvalidNumber co_InvalidNumber dd_InvalidNumber m0_InvalidNumber m1_InvalidNumber m2_InvalidNumber m3_InvalidNumber m5_InvalidNumber "ValueError.__new__"))
    (sa_InvalidNumber : PySem.W.findIn K (.ref C_InvalidNumber) "__setattr__" = some (some (.builtin "object.__setattr__")))
    (xa_InvalidNumber : PySem.W.findIn K (.ref C_InvalidNumber) "__getattribute__" = some (some (.builtin "BaseException.__getattribute__")))
    (xg_InvalidNumber : PySem.W.findIn K (.ref C_InvalidNumber) "__getattr__" = some none)
    (ex_InvalidNumber : PySem.W.subIn K (.ref C_InvalidNumber) (.type "BaseException") = some true)
    (tp_InvalidNumber : PySem.W.typeIn K (.ref C_InvalidNumber) = some (.type "type"))
    (kp_InvalidNumber : PySem.W.keepIn K (.ref C_InvalidNumber) = true)
    (hd_InvalidNumber : PySem.W.hasDictIn K C_InvalidNumber = true)
    (ca_InvalidNumber : PySem.W.findIn K (.ref C_InvalidNumber) "__class__" = some (some (.builtin "object.__class__")))
    (mo_InvalidNumber : PySem.W.mroIn K C_InvalidNumber (.type "object") = some true)
    (se_InvalidNumber : PySem.W.subIn K (.ref C_InvalidNumber) (.ref C_InvalidNumber) = some true) (nf_InvalidNumber : PySem.W.findIn K (.ref C_InvalidNumber) "value" = some none)
    {fi_InvalidNumber : Addr} {oi_InvalidNumber ki_InvalidNumber di_InvalidNumber pi_InvalidNumber ci_InvalidNumber ti_InvalidNumber : Value} {ei_InvalidNumber ai_InvalidNumber : Option Addr} {li_InvalidNumber : Array (Option Value)} (fn_InvalidNumber : PySem.W.findIn K (.ref C_InvalidNumber) "__init__" = some (some (.ref fi_InvalidNumber))) (tf_InvalidNumber : PySem.W.typeIn K (.ref fi_InvalidNumber) = some (.type "function"))
    (lk_InvalidNumber : K.lookup fi_InvalidNumber = some ⟨oi_InvalidNumber, ei_InvalidNumber, .func (PySem.W.fnOf "__init__" "InvalidNumber.__init__" (defArgs s_InvalidNumber___init__) (defBody s_InvalidNumber___init__) (defScope s_InvalidNumber___init__) .none ki_InvalidNumber di_InvalidNumber pi_InvalidNumber ai_InvalidNumber ci_InvalidNumber ti_InvalidNumber), li_InvalidNumber⟩) (cd_InvalidNumber : PySem.W.codeIn K ci_InvalidNumber "InvalidNumber.__init__" = true) (kf_InvalidNumber : PySem.W.keepIn K (.ref fi_InvalidNumber) = true)
    (u_InvalidNumber_InvalidNumber : PySem.W.subIn K (.ref C_InvalidNumber) (.ref C_InvalidNumber) = some true)
    (u_InvalidNumber_LimitError : PySem.W.subIn K (.ref C_InvalidNumber) (.ref C_LimitError) = some false)
    (u_InvalidNumber_MissingError : PySem.W.subIn K (.ref C_InvalidNumber) (.ref C_MissingError) = some false)
    (u_InvalidNumber_StateError : PySem.W.subIn K (.ref C_InvalidNumber) (.ref C_StateError) = some false)
    (u_InvalidNumber_LastheldError : PySem.W.subIn K (.ref C_InvalidNumber) (.ref C_LastheldError) = some true)
    {nm_InvalidText q_InvalidText : Str} {N_InvalidText : Addr} {bs_InvalidText sb_InvalidText : List Value} {sn_InvalidText : List Str} {ab_InvalidText : Bool} {co_InvalidText : Option Bool} {dd_InvalidText : Option Addr} {m0_InvalidText m1_InvalidText m2_InvalidText m3_InvalidText m5_InvalidText : Option Value}
    (x_InvalidText : K.lookup C_InvalidText = some (excClassObj nm_InvalidText q_InvalidText C_InvalidText N_InvalidText bs_InvalidText [(.ref C_LastheldError), (.type "ValueError"), (.type "Exception"), (.type "BaseException"), (.type "object")] true sn_InvalidText sb_InvalidText ab_InvalidText co_InvalidText dd_InvalidText m0_InvalidText m1_InvalidText m2_InvalidText m3_InvalidText m5_InvalidText "ValueError.__new__"))
    (sa_InvalidText : PySem.W.findIn K (.ref C_InvalidText) "__setattr__" = some (some (.builtin "object.__setattr__")))
    (xa_InvalidText : PySem.W.findIn K (.ref C_InvalidText) "__getattribute__" = some (some (.builtin "BaseException.__getattribute__")))
    (xg_InvalidText : PySem.W.findIn K (.ref C_InvalidText) "__getattr__" = some none)
    (ex_InvalidText : PySem.W.subIn K (.ref C_InvalidText) (.type "BaseException") = some true)
    (tp_InvalidText : PySem.W.typeIn K (.ref C_InvalidText) = some (.type "type"))
    (kp_InvalidText : PySem.W.keepIn K (.ref C_InvalidText) = true)
    (hd_InvalidText : PySem.W.hasDictIn K C_InvalidText = true)
    (ca_InvalidText : PySem.W.findIn K (.ref C_InvalidText) "__class__" = some (some (.builtin "object.__class__")))
    (mo_InvalidText : PySem.W.mroIn K C_InvalidText (.type "object") = some true)
    (se_InvalidText : PySem.W.subIn K (.ref C_InvalidText) (.ref C_InvalidText) = some true) (nf_InvalidText : PySem.W.findIn K (.ref C_InvalidText) "line" = some none)
    {fi_InvalidText : Addr} {oi_InvalidText ki_InvalidText di_InvalidText pi_InvalidText ci_InvalidText ti_InvalidText : Value} {ei_InvalidText ai_InvalidText : Option Addr} {li_InvalidText : Array (Option Value)} (fn_InvalidText : PySem.W.findIn K (.ref C_InvalidText) "__init__" = some (some (.ref fi_InvalidText))) (tf_InvalidText : PySem.W.typeIn K (.ref fi_InvalidText) = some (.type "function"))
    (lk_InvalidText : K.lookup fi_InvalidText = some ⟨oi_InvalidText, ei_InvalidText, .func (PySem.W.fnOf "__init__" "InvalidText.__init__" (defArgs s_InvalidText___init__) (defBody s_InvalidText___init__) (defScope s_InvalidText___init__) .none ki_InvalidText di_InvalidText pi_InvalidText ai_InvalidText ci_InvalidText ti_InvalidText), li_InvalidText⟩) (cd_InvalidText : PySem.W.codeIn K ci_InvalidText "InvalidText.__init__" = true) (kf_InvalidText : PySem.W.keepIn K (.ref fi_InvalidText) = true)
    (u_InvalidText_InvalidNumber : PySem.W.subIn K (.ref C_InvalidText) (.ref C_InvalidNumber) = some false)
    (u_InvalidText_LimitError : PySem.W.subIn K (.ref C_InvalidText) (.ref C_LimitError) = some false)
    (u_InvalidText_MissingError : PySem.W.subIn K (.ref C_InvalidText) (.ref C_MissingError) = some false)
    (u_InvalidText_StateError : PySem.W.subIn K (.ref C_InvalidText) (.ref C_StateError) = some false)
    (u_InvalidText_LastheldError : PySem.W.subIn K (.ref C_InvalidText) (.ref C_LastheldError) = some true)
    (a0 : PySem.W.nsIn K mainGlobals "is_integer" = some (some (.ref f0))) (l0 : K.lookup f0 = some ⟨oc0, od0, .func (PySem.W.fnOf "is_integer" "is_integer" (defArgs s_is_integer) (defBody s_is_integer) (defScope s_is_integer) .none kV0 dc0 pm0 an0 cd0 ct0), sl0⟩) (c0 : PySem.W.codeIn K cd0 "is_integer" = true) (k0 : PySem.W.keepIn K (.ref f0) = true)
    (a1 : PySem.W.nsIn K mainGlobals "common_divisor" = some (some (.ref f1))) (l1 : K.lookup f1 = some ⟨oc1, od1, .func (PySem.W.fnOf "common_divisor" "common_divisor" (defArgs s_common_divisor) (defBody s_common_divisor) (defScope s_common_divisor) .none kV1 dc1 pm1 an1 cd1 ct1), sl1⟩) (c1 : PySem.W.codeIn K cd1 "common_divisor" = true) (k1 : PySem.W.keepIn K (.ref f1) = true)
    (a2 : PySem.W.nsIn K mainGlobals "is_number" = some (some (.ref f2))) (l2 : K.lookup f2 = some ⟨oc2, od2, .func (PySem.W.fnOf "is_number" "is_number" (defArgs s_is_number) (defBody s_is_number) (defScope s_is_number) .none kV2 dc2 pm2 an2 cd2 ct2), sl2⟩) (c2 : PySem.W.codeIn K cd2 "is_number" = true) (k2 : PySem.W.keepIn K (.ref f2) = true)
    (a3 : PySem.W.nsIn K mainGlobals "check_numbers" = some (some (.ref f3))) (l3 : K.lookup f3 = some ⟨oc3, od3, .func (PySem.W.fnOf "check_numbers" "check_numbers" (defArgs s_check_numbers) (defBody s_check_numbers) (defScope s_check_numbers) .none kV3 dc3 pm3 an3 cd3 ct3), sl3⟩) (c3 : PySem.W.codeIn K cd3 "check_numbers" = true) (k3 : PySem.W.keepIn K (.ref f3) = true)
    (a4 : PySem.W.nsIn K mainGlobals "top_and_low" = some (some (.ref f4))) (l4 : K.lookup f4 = some ⟨oc4, od4, .func (PySem.W.fnOf "top_and_low" "top_and_low" (defArgs s_top_and_low) (defBody s_top_and_low) (defScope s_top_and_low) .none kV4 dc4 pm4 an4 cd4 ct4), sl4⟩) (c4 : PySem.W.codeIn K cd4 "top_and_low" = true) (k4 : PySem.W.keepIn K (.ref f4) = true)
    (a5 : PySem.W.nsIn K mainGlobals "number_text" = some (some (.ref f5))) (l5 : K.lookup f5 = some ⟨oc5, od5, .func (PySem.W.fnOf "number_text" "number_text" (defArgs s_number_text) (defBody s_number_text) (defScope s_number_text) .none kV5 dc5 pm5 an5 cd5 ct5), sl5⟩) (c5 : PySem.W.codeIn K cd5 "number_text" = true) (k5 : PySem.W.keepIn K (.ref f5) = true)
    (a6 : PySem.W.nsIn K mainGlobals "is_decimal" = some (some (.ref f6))) (l6 : K.lookup f6 = some ⟨oc6, od6, .func (PySem.W.fnOf "is_decimal" "is_decimal" (defArgs s_is_decimal) (defBody s_is_decimal) (defScope s_is_decimal) .none kV6 dc6 pm6 an6 cd6 ct6), sl6⟩) (c6 : PySem.W.codeIn K cd6 "is_decimal" = true) (k6 : PySem.W.keepIn K (.ref f6) = true)
    (a7 : PySem.W.nsIn K mainGlobals "parse_integer" = some (some (.ref f7))) (l7 : K.lookup f7 = some ⟨oc7, od7, .func (PySem.W.fnOf "parse_integer" "parse_integer" (defArgs s_parse_integer) (defBody s_parse_integer) (defScope s_parse_integer) .none kV7 dc7 pm7 an7 cd7 ct7), sl7⟩) (c7 : PySem.W.codeIn K cd7 "parse_integer" = true) (k7 : PySem.W.keepIn K (.ref f7) = true)
    (a8 : PySem.W.nsIn K mainGlobals "parse_number" = some (some (.ref f8))) (l8 : K.lookup f8 = some ⟨oc8, od8, .func (PySem.W.fnOf "parse_number" "parse_number" (defArgs s_parse_number) (defBody s_parse_number) (defScope s_parse_number) .none kV8 dc8 pm8 an8 cd8 ct8), sl8⟩) (c8 : PySem.W.codeIn K cd8 "parse_number" = true) (k8 : PySem.W.keepIn K (.ref f8) = true)
    (a9 : PySem.W.nsIn K mainGlobals "_law_pot" = some (some (.ref f9))) (l9 : K.lookup f9 = some ⟨oc9, od9, .func (PySem.W.fnOf "_law_pot" "_law_pot" (defArgs s_l_pot) (defBody s_l_pot) (defScope s_l_pot) .none kV9 dc9 pm9 an9 cd9 ct9), sl9⟩) (c9 : PySem.W.codeIn K cd9 "_law_pot" = true) (k9 : PySem.W.keepIn K (.ref f9) = true)
    (a10 : PySem.W.nsIn K mainGlobals "_law_draw" = some (some (.ref f10))) (l10 : K.lookup f10 = some ⟨oc10, od10, .func (PySem.W.fnOf "_law_draw" "_law_draw" (defArgs s_l_draw) (defBody s_l_draw) (defScope s_l_draw) .none kV10 dc10 pm10 an10 cd10 ct10), sl10⟩) (c10 : PySem.W.codeIn K cd10 "_law_draw" = true) (k10 : PySem.W.keepIn K (.ref f10) = true)
    (a11 : PySem.W.nsIn K mainGlobals "_law_common" = some (some (.ref f11))) (l11 : K.lookup f11 = some ⟨oc11, od11, .func (PySem.W.fnOf "_law_common" "_law_common" (defArgs s_l_common) (defBody s_l_common) (defScope s_l_common) .none kV11 dc11 pm11 an11 cd11 ct11), sl11⟩) (c11 : PySem.W.codeIn K cd11 "_law_common" = true) (k11 : PySem.W.keepIn K (.ref f11) = true)
    (a12 : PySem.W.nsIn K mainGlobals "_law_ratio" = some (some (.ref f12))) (l12 : K.lookup f12 = some ⟨oc12, od12, .func (PySem.W.fnOf "_law_ratio" "_law_ratio" (defArgs s_l_ratio) (defBody s_l_ratio) (defScope s_l_ratio) .none kV12 dc12 pm12 an12 cd12 ct12), sl12⟩) (c12 : PySem.W.codeIn K cd12 "_law_ratio" = true) (k12 : PySem.W.keepIn K (.ref f12) = true)
    (a13 : PySem.W.nsIn K mainGlobals "_law_worth" = some (some (.ref f13))) (l13 : K.lookup f13 = some ⟨oc13, od13, .func (PySem.W.fnOf "_law_worth" "_law_worth" (defArgs s_l_worth) (defBody s_l_worth) (defScope s_l_worth) .none kV13 dc13 pm13 an13 cd13 ct13), sl13⟩) (c13 : PySem.W.codeIn K cd13 "_law_worth" = true) (k13 : PySem.W.keepIn K (.ref f13) = true)
    (a14 : PySem.W.nsIn K mainGlobals "_law_odd" = some (some (.ref f14))) (l14 : K.lookup f14 = some ⟨oc14, od14, .func (PySem.W.fnOf "_law_odd" "_law_odd" (defArgs s_l_odd) (defBody s_l_odd) (defScope s_l_odd) .none kV14 dc14 pm14 an14 cd14 ct14), sl14⟩) (c14 : PySem.W.codeIn K cd14 "_law_odd" = true) (k14 : PySem.W.keepIn K (.ref f14) = true)
    (a15 : PySem.W.nsIn K mainGlobals "_law_is_ratio" = some (some (.ref f15))) (l15 : K.lookup f15 = some ⟨oc15, od15, .func (PySem.W.fnOf "_law_is_ratio" "_law_is_ratio" (defArgs s_l_is_ratio) (defBody s_l_is_ratio) (defScope s_l_is_ratio) .none kV15 dc15 pm15 an15 cd15 ct15), sl15⟩) (c15 : PySem.W.codeIn K cd15 "_law_is_ratio" = true) (k15 : PySem.W.keepIn K (.ref f15) = true)
    (a16 : PySem.W.nsIn K mainGlobals "_law_written" = some (some (.ref f16))) (l16 : K.lookup f16 = some ⟨oc16, od16, .func (PySem.W.fnOf "_law_written" "_law_written" (defArgs s_l_written) (defBody s_l_written) (defScope s_l_written) .none kV16 dc16 pm16 an16 cd16 ct16), sl16⟩) (c16 : PySem.W.codeIn K cd16 "_law_written" = true) (k16 : PySem.W.keepIn K (.ref f16) = true)
    (a17 : PySem.W.nsIn K mainGlobals "_law_parsed" = some (some (.ref f17))) (l17 : K.lookup f17 = some ⟨oc17, od17, .func (PySem.W.fnOf "_law_parsed" "_law_parsed" (defArgs s_l_parsed) (defBody s_l_parsed) (defScope s_l_parsed) .none kV17 dc17 pm17 an17 cd17 ct17), sl17⟩) (c17 : PySem.W.codeIn K cd17 "_law_parsed" = true) (k17 : PySem.W.keepIn K (.ref f17) = true)
    (a18 : PySem.W.nsIn K mainGlobals "_law_is_plain" = some (some (.ref f18))) (l18 : K.lookup f18 = some ⟨oc18, od18, .func (PySem.W.fnOf "_law_is_plain" "_law_is_plain" (defArgs s_l_is_plain) (defBody s_l_is_plain) (defScope s_l_is_plain) .none kV18 dc18 pm18 an18 cd18 ct18), sl18⟩) (c18 : PySem.W.codeIn K cd18 "_law_is_plain" = true) (k18 : PySem.W.keepIn K (.ref f18) = true)
    (a19 : PySem.W.nsIn K mainGlobals "_law_due" = some (some (.ref f19))) (l19 : K.lookup f19 = some ⟨oc19, od19, .func (PySem.W.fnOf "_law_due" "_law_due" (defArgs s_l_due) (defBody s_l_due) (defScope s_l_due) .none kV19 dc19 pm19 an19 cd19 ct19), sl19⟩) (c19 : PySem.W.codeIn K cd19 "_law_due" = true) (k19 : PySem.W.keepIn K (.ref f19) = true)
    (a20 : PySem.W.nsIn K mainGlobals "_law_spoilt" = some (some (.ref f20))) (l20 : K.lookup f20 = some ⟨oc20, od20, .func (PySem.W.fnOf "_law_spoilt" "_law_spoilt" (defArgs s_l_spoilt) (defBody s_l_spoilt) (defScope s_l_spoilt) .none kV20 dc20 pm20 an20 cd20 ct20), sl20⟩) (c20 : PySem.W.codeIn K cd20 "_law_spoilt" = true) (k20 : PySem.W.keepIn K (.ref f20) = true)
    (a21 : PySem.W.nsIn K mainGlobals "_law_refused" = some (some (.ref f21))) (l21 : K.lookup f21 = some ⟨oc21, od21, .func (PySem.W.fnOf "_law_refused" "_law_refused" (defArgs s_l_refused) (defBody s_l_refused) (defScope s_l_refused) .none kV21 dc21 pm21 an21 cd21 ct21), sl21⟩) (c21 : PySem.W.codeIn K cd21 "_law_refused" = true) (k21 : PySem.W.keepIn K (.ref f21) = true)
    (a22 : PySem.W.nsIn K mainGlobals "_law_right" = some (some (.ref f22))) (l22 : K.lookup f22 = some ⟨oc22, od22, .func (PySem.W.fnOf "_law_right" "_law_right" (defArgs s_l_right) (defBody s_l_right) (defScope s_l_right) .none kV22 dc22 pm22 an22 cd22 ct22), sl22⟩) (c22 : PySem.W.codeIn K cd22 "_law_right" = true) (k22 : PySem.W.keepIn K (.ref f22) = true)
    (a23 : PySem.W.nsIn K mainGlobals "law" = some (some (.ref f23))) (l23 : K.lookup f23 = some ⟨oc23, od23, .func (PySem.W.fnOf "law" "law" (defArgs s_law) (defBody s_law) (defScope s_law) .none kV23 dc23 pm23 an23 cd23 ct23), sl23⟩) (c23 : PySem.W.codeIn K cd23 "law" = true) (k23 : PySem.W.keepIn K (.ref f23) = true)
    (b_abs : PySem.W.nsIn K mainGlobals "abs" = some none)
    (b_all : PySem.W.nsIn K mainGlobals "all" = some none)
    (b_bool : PySem.W.nsIn K mainGlobals "bool" = some none)
    (b_divmod : PySem.W.nsIn K mainGlobals "divmod" = some none)
    (b_int : PySem.W.nsIn K mainGlobals "int" = some none)
    (b_isinstance : PySem.W.nsIn K mainGlobals "isinstance" = some none)
    (b_len : PySem.W.nsIn K mainGlobals "len" = some none)
    (b_max : PySem.W.nsIn K mainGlobals "max" = some none)
    (b_min : PySem.W.nsIn K mainGlobals "min" = some none)
    (b_range : PySem.W.nsIn K mainGlobals "range" = some none)
    (b_repr : PySem.W.nsIn K mainGlobals "repr" = some none)
    (b_str : PySem.W.nsIn K mainGlobals "str" = some none)
    (b_tuple : PySem.W.nsIn K mainGlobals "tuple" = some none)
    {t_DIGITS : Tok} (g_DIGITS : PySem.W.nsIn K mainGlobals "DIGITS" = some (some (.str "0123456789" t_DIGITS))) :
    ∃ fd : FuncData, (∀ (s : Shared) (v : Value), BindsTo s fd ⟨[v], []⟩ [("_law_script", v)]) ∧ ∀ base : Heap, K.In base → base.Ns mainGlobals mg → FnG l.prog w K mg base CX0 7 fa fd ["_law_script"] (spLaw K) := by
  have e := hfa.symm.trans (PySem.W.mg_of X G a23)
  cases e
  have T : Txt K mg ⟨C_LastheldError, C_MissingError, C_StateError, C_LimitError, C_InvalidNumber, C_InvalidText⟩ := ⟨trivial, PySem.W.mg_none_of X G b_abs, PySem.W.mg_none_of X G b_all, PySem.W.mg_none_of X G b_bool, PySem.W.mg_none_of X G b_divmod, PySem.W.mg_none_of X G b_int, PySem.W.mg_none_of X G b_isinstance, PySem.W.mg_none_of X G b_len, PySem.W.mg_none_of X G b_max, PySem.W.mg_none_of X G b_min, PySem.W.mg_none_of X G b_range, PySem.W.mg_none_of X G b_repr, PySem.W.mg_none_of X G b_str, PySem.W.mg_none_of X G b_tuple, PySem.W.mg_of X G a_LastheldError, PySem.W.mg_of X G a_MissingError, PySem.W.mg_of X G a_StateError, PySem.W.mg_of X G a_LimitError, PySem.W.mg_of X G a_InvalidNumber, PySem.W.mg_of X G a_InvalidText, ⟨PySem.W.mg_of X G a_LastheldError, ⟨rd_LastheldError, ga_LastheldError⟩, it_LastheldError⟩, ⟨PySem.W.mg_of X G a_InvalidNumber, ⟨⟨_, _, _, _, _, _, _, _, _, _, _, _, _, _, _, x_InvalidNumber, rfl⟩, sa_InvalidNumber, ex_InvalidNumber, tp_InvalidNumber, kp_InvalidNumber⟩, ⟨xa_InvalidNumber, xg_InvalidNumber, ex_InvalidNumber, hd_InvalidNumber⟩, ⟨xa_InvalidNumber, xg_InvalidNumber, ex_InvalidNumber, hd_InvalidNumber, ca_InvalidNumber, occ1, occ2, mo_InvalidNumber⟩, tp_InvalidNumber, se_InvalidNumber⟩, nf_InvalidNumber, ⟨_, _, fn_InvalidNumber, tf_InvalidNumber, fun_mk (st := s_InvalidNumber___init__) lk_InvalidNumber cd_InvalidNumber kf_InvalidNumber⟩, kit_sub u_InvalidNumber_InvalidNumber se_InvalidNumber ic_InvalidNumber ty_InvalidNumber, kit_sub u_InvalidNumber_LimitError se_InvalidNumber ic_LimitError ty_LimitError, kit_sub u_InvalidNumber_MissingError se_InvalidNumber ic_MissingError ty_MissingError, kit_sub u_InvalidNumber_StateError se_InvalidNumber ic_StateError ty_StateError, kit_sub u_InvalidNumber_LastheldError se_InvalidNumber ic_LastheldError ty_LastheldError, ⟨PySem.W.mg_of X G a_InvalidText, ⟨⟨_, _, _, _, _, _, _, _, _, _, _, _, _, _, _, x_InvalidText, rfl⟩, sa_InvalidText, ex_InvalidText, tp_InvalidText, kp_InvalidText⟩, ⟨xa_InvalidText, xg_InvalidText, ex_InvalidText, hd_InvalidText⟩, ⟨xa_InvalidText, xg_InvalidText, ex_InvalidText, hd_InvalidText, ca_InvalidText, occ1, occ2, mo_InvalidText⟩, tp_InvalidText, se_InvalidText⟩, nf_InvalidText, ⟨_, _, fn_InvalidText, tf_InvalidText, fun_mk (st := s_InvalidText___init__) lk_InvalidText cd_InvalidText kf_InvalidText⟩, kit_sub u_InvalidText_InvalidNumber se_InvalidText ic_InvalidNumber ty_InvalidNumber, kit_sub u_InvalidText_LimitError se_InvalidText ic_LimitError ty_LimitError, kit_sub u_InvalidText_MissingError se_InvalidText ic_MissingError ty_MissingError, kit_sub u_InvalidText_StateError se_InvalidText ic_StateError ty_StateError, kit_sub u_InvalidText_LastheldError se_InvalidText ic_LastheldError ty_LastheldError, ⟨_, PySem.W.mg_of X G g_DIGITS⟩⟩
  have Fi := (fun_mk (st := s_is_integer) l0 c0 k0)
  have Fc := (fun_mk (st := s_common_divisor) l1 c1 k1)
  have Fn := (fun_mk (st := s_is_number) l2 c2 k2)
  have Fck := (fun_mk (st := s_check_numbers) l3 c3 k3)
  have Ftl := (fun_mk (st := s_top_and_low) l4 c4 k4)
  have Fnt := (fun_mk (st := s_number_text) l5 c5 k5)
  have Fdc := (fun_mk (st := s_is_decimal) l6 c6 k6)
  have Fpi := (fun_mk (st := s_parse_integer) l7 c7 k7)
  have Fpn := (fun_mk (st := s_parse_number) l8 c8 k8)
  have Fp := (fun_mk (st := s_l_pot) l9 c9 k9)
  have Fd := (fun_mk (st := s_l_draw) l10 c10 k10)
  have Fcm := (fun_mk (st := s_l_common) l11 c11 k11)
  have Fra := (fun_mk (st := s_l_ratio) l12 c12 k12)
  have Fwo := (fun_mk (st := s_l_worth) l13 c13 k13)
  have Fo := (fun_mk (st := s_l_odd) l14 c14 k14)
  have Fir := (fun_mk (st := s_l_is_ratio) l15 c15 k15)
  have Fwr := (fun_mk (st := s_l_written) l16 c16 k16)
  have Fpa := (fun_mk (st := s_l_parsed) l17 c17 k17)
  have Fpl := (fun_mk (st := s_l_is_plain) l18 c18 k18)
  have Fdu := (fun_mk (st := s_l_due) l19 c19 k19)
  have Fsp := (fun_mk (st := s_l_spoilt) l20 c20 k20)
  have Frf := (fun_mk (st := s_l_refused) l21 c21 k21)
  have Fri := (fun_mk (st := s_l_right) l22 c22 k22)
  refine ⟨(PySem.W.fnOf "law" "law" (defArgs s_law) (defBody s_law) (defScope s_law) .none kV23 dc23 pm23 an23 cd23 ct23), fun s v => .of_eq rfl, fun base _ _ => ?_⟩
  have D_draw : DfD l.prog w K mg base := ⟨_, _, ok_l_draw Fd T, (PySem.W.mg_of X G a10), k10, Fd.binds fun _ _ _ _ _ _ us hl => match us, hl with | [_, _], _ => rfl⟩
  have D_is : FIs l.prog w K mg base := ⟨_, _, ok_is_integer Fi T, (PySem.W.mg_of X G a0), k0, Fi.binds fun _ _ _ _ _ _ us hl => match us, hl with | [_], _ => rfl⟩
  have D_cd : FCd l.prog w K mg base := ⟨_, _, ok_common_divisor Fc T, (PySem.W.mg_of X G a1), k1, Fc.binds fun _ _ _ _ _ _ us hl => match us, hl with | [_, _], _ => rfl⟩
  have D_cm : FCm l.prog w K mg base := ⟨_, _, ok_l_common Fcm T, (PySem.W.mg_of X G a11), k11, Fcm.binds fun _ _ _ _ _ _ us hl => match us, hl with | [_, _], _ => rfl⟩
  have D_ra : FRa l.prog w K mg base := ⟨_, _, ok_l_ratio Fra T D_cm, (PySem.W.mg_of X G a12), k12, Fra.binds fun _ _ _ _ _ _ us hl => match us, hl with | [_, _], _ => rfl⟩
  have D_in : FIN l.prog w K mg base := ⟨_, _, ok_is_number Fn T D_is D_cd, (PySem.W.mg_of X G a2), k2, Fn.binds fun _ _ _ _ _ _ us hl => match us, hl with | [_], _ => rfl⟩
  have D_ck : FCk l.prog w K mg base ⟨C_LastheldError, C_MissingError, C_StateError, C_LimitError, C_InvalidNumber, C_InvalidText⟩ := ⟨_, _, ok_check_numbers Fck T D_in, (PySem.W.mg_of X G a3), k3, [], .nil, Fck.binds fun _ _ _ _ _ _ us hl => match us, hl with | [_], _ => rfl⟩
  have D_tl : FTl l.prog w K mg base := ⟨_, _, ok_top_and_low Ftl T, (PySem.W.mg_of X G a4), k4, Ftl.binds fun _ _ _ _ _ _ us hl => match us, hl with | [_], _ => rfl⟩
  have okNt := ok_number_text (P := l.prog) (w := w) (base := base) Fnt T D_ck D_tl
  have D_nt : FNt l.prog w K mg base ⟨C_LastheldError, C_MissingError, C_StateError, C_LimitError, C_InvalidNumber, C_InvalidText⟩ := ⟨_, _, okNt, (PySem.W.mg_of X G a5), k5, [], .nil, Fnt.binds fun _ _ _ _ _ _ us hl => match us, hl with | [_], _ => rfl⟩
  have D_dc : FDc l.prog w K mg base := ⟨_, _, ok_is_decimal Fdc T, (PySem.W.mg_of X G a6), k6, Fdc.binds fun _ _ _ _ _ _ us hl => match us, hl with | [_], _ => rfl⟩
  have D_pi : FPi l.prog w K mg base := ⟨_, _, ok_parse_integer Fpi T D_dc, (PySem.W.mg_of X G a7), k7, Fpi.binds fun _ _ _ _ _ _ us hl => match us, hl with | [_], _ => rfl⟩
  have okPn := ok_parse_number (P := l.prog) (w := w) (base := base) Fpn T D_in D_dc D_pi
  have D_pn : FPn l.prog w K mg base ⟨C_LastheldError, C_MissingError, C_StateError, C_LimitError, C_InvalidNumber, C_InvalidText⟩ := ⟨_, _, okPn, (PySem.W.mg_of X G a8), k8, [], .nil, Fpn.binds fun _ _ _ _ _ _ us hl => match us, hl with | [_], _ => rfl⟩
  have W_nt : DfK l.prog w K mg base (L2.CX l.prog w) 4 "number_text" ["value"] ["value"] idL (spNT K ⟨C_LastheldError, C_MissingError, C_StateError, C_LimitError, C_InvalidNumber, C_InvalidText⟩) := ⟨_, _, okNt, (PySem.W.mg_of X G a5), k5, binds1 Fnt fun _ _ _ _ _ _ _ => rfl⟩
  have W_pn : DfK l.prog w K mg base (L2.CX l.prog w) 3 "parse_number" ["text"] ["text"] idL (spPN K ⟨C_LastheldError, C_MissingError, C_StateError, C_LimitError, C_InvalidNumber, C_InvalidText⟩) := ⟨_, _, okPn, (PySem.W.mg_of X G a8), k8, binds1 Fpn fun _ _ _ _ _ _ _ => rfl⟩
  have D_wo : FWo l.prog w K mg base := ⟨_, _, ok_l_worth Fwo T D_draw D_ra, (PySem.W.mg_of X G a13), k13, Fwo.binds fun _ _ _ _ _ _ us hl => match us, hl with | [_], _ => rfl⟩
  have D_wr : FWr l.prog w K mg base := ⟨_, _, ok_l_written Fwr T, (PySem.W.mg_of X G a16), k16, Fwr.binds fun _ _ _ _ _ _ us hl => match us, hl with | [_], _ => rfl⟩
  have D_od : FOd l.prog w K mg base := ⟨_, _, ok_l_odd Fo T D_draw, (PySem.W.mg_of X G a14), k14, Fo.binds fun _ _ _ _ _ _ us hl => match us, hl with | [_], _ => rfl⟩
  have D_sp : FSp l.prog w K mg base := ⟨_, _, ok_l_spoilt Fsp T D_draw, (PySem.W.mg_of X G a20), k20, Fsp.binds fun _ _ _ _ _ _ us hl => match us, hl with | [_, _], _ => rfl⟩
  have D_pd : FPd l.prog w K mg base := ⟨_, _, ok_l_parsed Fpa T D_pn, (PySem.W.mg_of X G a17), k17, Fpa.binds fun _ _ _ _ _ _ us hl => match us, hl with | [_], _ => rfl⟩
  have D_pl : FPl l.prog w K mg base := ⟨_, _, ok_l_is_plain Fpl T, (PySem.W.mg_of X G a18), k18, Fpl.binds fun _ _ _ _ _ _ us hl => match us, hl with | [_, _], _ => rfl⟩
  have D_ir : FIR l.prog w K mg base := ⟨_, _, ok_l_is_ratio Fir T D_cm, (PySem.W.mg_of X G a15), k15, Fir.binds fun _ _ _ _ _ _ us hl => match us, hl with | [_], _ => rfl⟩
  have D_du : FDu l.prog w K mg base := ⟨_, _, ok_l_due Fdu T D_pl D_ir, (PySem.W.mg_of X G a19), k19, Fdu.binds fun _ _ _ _ _ _ us hl => match us, hl with | [_], _ => rfl⟩
  have D_rf : FRf l.prog w K mg base := ⟨_, _, ok_l_refused Frf T D_nt, (PySem.W.mg_of X G a21), k21, Frf.binds fun _ _ _ _ _ _ us hl => match us, hl with | [_], _ => rfl⟩
  exact ok_law (fun_mk (st := s_law) l23 c23 k23) T
    ⟨_, _, ok_l_pot Fp T, (PySem.W.mg_of X G a9), k9, Fp.binds fun _ _ _ _ _ _ us hl => match us, hl with | [_, _], _ => rfl⟩
    ⟨_, _, ok_l_right Fri T D_draw D_od D_wo D_wr D_sp D_pd D_du D_ir D_rf D_nt D_pn W_nt W_pn, (PySem.W.mg_of X G a22), k22, Fri.binds fun _ _ _ _ _ _ us hl => match us, hl with | [_], _ => rfl⟩
theorem walk {l : PySem.W.OpenLaw} {q : Program} {loose : List Str} {XP : (Str → Option Value) → Heap → Prop} {YP : World → Heap → Prop} {d : DefRec} {K : Params → PySem.W.Frag} (hn : l.most = some 63) (hdf : d.params.defaults = [])
    (hY : ∀ (w : World) (h : Heap), YP w h → (K w.params).In h)
    (F : ∀ (w : World) (mg : Str → Option Value) (fa : Addr) (h : Heap), (K w.params).In h → h.Ns mainGlobals mg → mg d.name = some (.ref fa) →
      ∃ fd : FuncData, (∀ (s : Shared) (u : Value), BindsTo s fd ⟨[u], []⟩ [("_law_script", u)]) ∧ ∀ base : Heap, (K w.params).In base → base.Ns mainGlobals mg → FnG l.prog w (K w.params) mg base CX0 7 fa fd ["_law_script"] (spLaw (K w.params))) :
    PySem.W.WalkO q loose XP YP l.row.toRowW d [] (fun f vs => PySem.call f vs) :=
  walk_ofG (n := 63) (k := 7) (x := "_law_script") (CX := fun _ => CX0) (sp := fun w => spLaw (K w.params)) hn (by decide) hdf ⟨rfl, by decide, by decide⟩ hY F (fun _ _ a ns hl _ hS => ⟨a, ns, rfl, hS, hl, fun _ => rfl⟩) fun _ _ _ _ _ z => z
end K14

open PySem PySem.W PyProof.Rows in
set_option maxRecDepth 100000 in
set_option maxHeartbeats 0 in
theorem PySem.Challenge.cw_lastheld_k14_number_texts_holds : PySem.Challenge.rw_lastheld_k14_number_texts.Holds := by
  w_on; o_law; k_head; (case hw => w_witness2)
  k_fill
  refine K14.walk (l := PySem.Challenge.rw_lastheld_k14_number_texts) rfl rfl (fun w h Y => PySem.W.kIn_of Y) ?F
  case F =>
    intro w mg fa h KX G hmg0
    have hmg : mg "law" = some (.ref fa) := hmg0
    clear hmg0
    refine' K14.all_mk KX G hmg ?a_LastheldError ?a_MissingError ?a_StateError ?a_LimitError ?a_InvalidNumber ?a_InvalidText ?rd_LastheldError ?ga_LastheldError ?it_LastheldError ?occ1 ?occ2 ?ic_InvalidNumber ?ty_InvalidNumber ?ic_LimitError ?ty_LimitError ?ic_MissingError ?ty_MissingError ?ic_StateError ?ty_StateError ?ic_LastheldError ?ty_LastheldError ?x_InvalidNumber ?sa_InvalidNumber ?xa_InvalidNumber ?xg_InvalidNumber ?ex_InvalidNumber ?tp_InvalidNumber ?kp_InvalidNumber ?hd_InvalidNumber ?ca_InvalidNumber ?mo_InvalidNumber ?se_InvalidNumber ?nf_InvalidNumber ?fn_InvalidNumber ?tf_InvalidNumber ?lk_InvalidNumber ?cd_InvalidNumber ?kf_InvalidNumber ?u_InvalidNumber_InvalidNumber ?u_InvalidNumber_LimitError ?u_InvalidNumber_MissingError ?u_InvalidNumber_StateError ?u_InvalidNumber_LastheldError ?x_InvalidText ?sa_InvalidText ?xa_InvalidText ?xg_InvalidText ?ex_InvalidText ?tp_InvalidText ?kp_InvalidText ?hd_InvalidText ?ca_InvalidText ?mo_InvalidText ?se_InvalidText ?nf_InvalidText ?fn_InvalidText ?tf_InvalidText ?lk_InvalidText ?cd_InvalidText ?kf_InvalidText ?u_InvalidText_InvalidNumber ?u_InvalidText_LimitError ?u_InvalidText_MissingError ?u_InvalidText_StateError ?u_InvalidText_LastheldError ?a0 ?l0 ?c0 ?k0 ?a1 ?l1 ?c1 ?k1 ?a2 ?l2 ?c2 ?k2 ?a3 ?l3 ?c3 ?k3 ?a4 ?l4 ?c4 ?k4 ?a5 ?l5 ?c5 ?k5 ?a6 ?l6 ?c6 ?k6 ?a7 ?l7 ?c7 ?k7 ?a8 ?l8 ?c8 ?k8 ?a9 ?l9 ?c9 ?k9 ?a10 ?l10 ?c10 ?k10 ?a11 ?l11 ?c11 ?k11 ?a12 ?l12 ?c12 ?k12 ?a13 ?l13 ?c13 ?k13 ?a14 ?l14 ?c14 ?k14 ?a15 ?l15 ?c15 ?k15 ?a16 ?l16 ?c16 ?k16 ?a17 ?l17 ?c17 ?k17 ?a18 ?l18 ?c18 ?k18 ?a19 ?l19 ?c19 ?k19 ?a20 ?l20 ?c20 ?k20 ?a21 ?l21 ?c21 ?k21 ?a22 ?l22 ?c22 ?k22 ?a23 ?l23 ?c23 ?k23 ?b_abs ?b_all ?b_bool ?b_divmod ?b_int ?b_isinstance ?b_len ?b_max ?b_min ?b_range ?b_repr ?b_str ?b_tuple ?g_DIGITS
    (case a_LastheldError => k_is)
    (case a_MissingError => k_is)
    (case a_StateError => k_is)
    (case a_LimitError => k_is)
    (case a_InvalidNumber => k_is)
    (case a_InvalidText => k_is)
    (case rd_LastheldError => k_is)
    (case ga_LastheldError => k_is)
    (case it_LastheldError => k_is)
    (case occ1 => k_is)
    (case occ2 => k_is)
    (case ic_InvalidNumber => k_is)
    (case ty_InvalidNumber => k_is)
    (case ic_LimitError => k_is)
    (case ty_LimitError => k_is)
    (case ic_MissingError => k_is)
    (case ty_MissingError => k_is)
    (case ic_StateError => k_is)
    (case ty_StateError => k_is)
    (case ic_LastheldError => k_is)
    (case ty_LastheldError => k_is)
    (case x_InvalidNumber => k_is)
    (case sa_InvalidNumber => k_is)
    (case xa_InvalidNumber => k_is)
    (case xg_InvalidNumber => k_is)
    (case ex_InvalidNumber => k_is)
    (case tp_InvalidNumber => k_is)
    (case kp_InvalidNumber => k_is)
    (case hd_InvalidNumber => k_is)
    (case ca_InvalidNumber => k_is)
    (case mo_InvalidNumber => k_is)
    (case se_InvalidNumber => k_is)
    (case nf_InvalidNumber => k_is)
    (case fn_InvalidNumber => k_is)
    (case tf_InvalidNumber => k_is)
    (case lk_InvalidNumber => k_is)
    (case cd_InvalidNumber => k_is)
    (case kf_InvalidNumber => k_is)
    (case u_InvalidNumber_InvalidNumber => k_is)
    (case u_InvalidNumber_LimitError => k_is)
    (case u_InvalidNumber_MissingError => k_is)
    (case u_InvalidNumber_StateError => k_is)
    (case u_InvalidNumber_LastheldError => k_is)
    (case x_InvalidText => k_is)
    (case sa_InvalidText => k_is)
    (case xa_InvalidText => k_is)
    (case xg_InvalidText => k_is)
    (case ex_InvalidText => k_is)
    (case tp_InvalidText => k_is)
    (case kp_InvalidText => k_is)
    (case hd_InvalidText => k_is)
    (case ca_InvalidText => k_is)
    (case mo_InvalidText => k_is)
    (case se_InvalidText => k_is)
    (case nf_InvalidText => k_is)
    (case fn_InvalidText => k_is)
    (case tf_InvalidText => k_is)
    (case lk_InvalidText => k_is)
    (case cd_InvalidText => k_is)
    (case kf_InvalidText => k_is)
    (case u_InvalidText_InvalidNumber => k_is)
    (case u_InvalidText_LimitError => k_is)
    (case u_InvalidText_MissingError => k_is)
    (case u_InvalidText_StateError => k_is)
    (case u_InvalidText_LastheldError => k_is)
    (case a0 => k_is)
    (case l0 => k_is)
    (case c0 => k_is)
    (case k0 => k_is)
    (case a1 => k_is)
    (case l1 => k_is)
    (case c1 => k_is)
    (case k1 => k_is)
    (case a2 => k_is)
    (case l2 => k_is)
    (case c2 => k_is)
    (case k2 => k_is)
    (case a3 => k_is)
    (case l3 => k_is)
    (case c3 => k_is)
    (case k3 => k_is)
    (case a4 => k_is)
    (case l4 => k_is)
    (case c4 => k_is)
    (case k4 => k_is)
    (case a5 => k_is)
    (case l5 => k_is)
    (case c5 => k_is)
    (case k5 => k_is)
    (case a6 => k_is)
    (case l6 => k_is)
    (case c6 => k_is)
    (case k6 => k_is)
    (case a7 => k_is)
    (case l7 => k_is)
    (case c7 => k_is)
    (case k7 => k_is)
    (case a8 => k_is)
    (case l8 => k_is)
    (case c8 => k_is)
    (case k8 => k_is)
    (case a9 => k_is)
    (case l9 => k_is)
    (case c9 => k_is)
    (case k9 => k_is)
    (case a10 => k_is)
    (case l10 => k_is)
    (case c10 => k_is)
    (case k10 => k_is)
    (case a11 => k_is)
    (case l11 => k_is)
    (case c11 => k_is)
    (case k11 => k_is)
    (case a12 => k_is)
    (case l12 => k_is)
    (case c12 => k_is)
    (case k12 => k_is)
    (case a13 => k_is)
    (case l13 => k_is)
    (case c13 => k_is)
    (case k13 => k_is)
    (case a14 => k_is)
    (case l14 => k_is)
    (case c14 => k_is)
    (case k14 => k_is)
    (case a15 => k_is)
    (case l15 => k_is)
    (case c15 => k_is)
    (case k15 => k_is)
    (case a16 => k_is)
    (case l16 => k_is)
    (case c16 => k_is)
    (case k16 => k_is)
    (case a17 => k_is)
    (case l17 => k_is)
    (case c17 => k_is)
    (case k17 => k_is)
    (case a18 => k_is)
    (case l18 => k_is)
    (case c18 => k_is)
    (case k18 => k_is)
    (case a19 => k_is)
    (case l19 => k_is)
    (case c19 => k_is)
    (case k19 => k_is)
    (case a20 => k_is)
    (case l20 => k_is)
    (case c20 => k_is)
    (case k20 => k_is)
    (case a21 => k_is)
    (case l21 => k_is)
    (case c21 => k_is)
    (case k21 => k_is)
    (case a22 => k_is)
    (case l22 => k_is)
    (case c22 => k_is)
    (case k22 => k_is)
    (case a23 => k_is)
    (case l23 => k_is)
    (case c23 => k_is)
    (case k23 => k_is)
    (case b_abs => k_is)
    (case b_all => k_is)
    (case b_bool => k_is)
    (case b_divmod => k_is)
    (case b_int => k_is)
    (case b_isinstance => k_is)
    (case b_len => k_is)
    (case b_max => k_is)
    (case b_min => k_is)
    (case b_range => k_is)
    (case b_repr => k_is)
    (case b_str => k_is)
    (case b_tuple => k_is)
    (case g_DIGITS => k_is)
